/- ShapeNormal holds: for every input the law returns true, and the input reads as it did. Part 4 of 6. No conditions. -/
import Derived.Test.YtjdfoipnmbnkeaaNo2
set_option maxRecDepth 100000
set_option maxHeartbeats 8000000
namespace Go.Proofs.Ytjdfoipnmbnkeaa
open Go
abbrev ZS38 (k : Nat) : Prop := S38 k ∧ SLl38_0 k
theorem S38_z : S38 0 := by
  unfold S38; intros; rename_i H; exact absurd H (by simp [m38])
theorem S38_s (k : Nat) (ih : ZS38 k) : S38 (k + 1) := by
 intro p0 aG bF aH bG p1 w0 h0 hh cB fB r H
 rw [m38] at H
 refine aP (fn := Try.f38) Try.func38 rfl (Nat.le_of_ble_eq_true rfl) ?_
 show Run X38 [.code c38_0] (fun t => List.getD [.agg #[I p0.Op,I p0.N,.string p0.Name,.slice aG p0.Index.length aH,.slice bF p0.L.length bG],I p1] t undef) w0 (.fn (Q38 w0 h0 r))
 have st0 := St.init hh noM
 refine aB e38_0<|aA e38_1<|dW (.agg #[I p0.Op,I p0.N,.string p0.Name,.slice aG p0.Index.length aH,.slice bF p0.L.length bG]) rfl rfl rfl (fun b1 w1 al1 => ?_)
 replace al1 : Al _ (.cells (List.toArray [I p0.Op,I p0.N,.string p0.Name,.slice aG p0.Index.length aH,.slice bF p0.L.length bG]) 31 (0,0)) b1 w1 := al1
 obtain ⟨h1,le1,g1,sp1⟩ := al1.fz st0.has
 have st1 := st0.call0 sp1
 refine vv rfl (aC (I 0) rfl)<|aD<|aB e38_2<|aA e38_3<|vv rfl (bH [I p0.Op,I p0.N,.string p0.Name,.slice aG p0.Index.length aH,.slice bF p0.L.length bG] dX cP rfl rfl (bA (st1.has _ _ g1) rfl))<|cG (.agg #[I 0,I 0,.string ByteArray.empty,.slice none 0 0,.slice none 0 0]) zr31 rfl rfl (fun b2 w2 al2 => ?_)
 replace al2 : Al _ (.cells (List.toArray [I 0,I 0,.string ByteArray.empty,.slice none 0 0,.slice none 0 0]) 31 (0,0)) b2 w2 := al2
 have M1 := Mut.new st1 al2
 have lb1 := st1.alB al2
 have sp2 := al2.st st1.has
 have st2 := st1.call0 sp2
 refine aV (o := 0) (n := 5) [I p0.Op,I p0.N,.string p0.Name,.slice aG p0.Index.length aH,.slice bF p0.L.length bG] [I p0.Op,I p0.N,.string p0.Name,.slice aG p0.Index.length aH,.slice bF p0.L.length bG] (.agg #[I p0.Op,I p0.N,.string p0.Name,.slice aG p0.Index.length aH,.slice bF p0.L.length bG]) cP rfl rfl rfl rfl M1 rfl rfl rfl rfl rfl (fun w3 wr1 M2 => ?_)
 have sp3 := wr1.st st2.has M1.none
 have st3 := st2.call sp3 (fun x e => (.inl (e ▸ lb1)))
 refine aD<|aB e38_4<|aA e38_5<|vv rfl (aF (b := b2) (o := 0) fl31_4 rfl)<|aV (o := 4) (n := 1) [.slice none 0 0] [I p0.Op,I p0.N,.string p0.Name,.slice aG p0.Index.length aH,.slice none 0 0] (.slice none 0 0) sz29 rfl rfl rfl rfl M2 rfl rfl rfl rfl rfl (fun w4 wr2 M3 => ?_)
 have sp4 := wr2.st st3.has M2.none
 have st4 := st3.call sp4 (fun x e => (.inl (e ▸ lb1)))
 refine aD<|aB e38_6 ?_
 obtain ⟨j1,hj1,H⟩ := dH H
 have Jj1 : ∀ {y1 : Bool} {σ1 : Env} {w6 : World} {h2 : Sto},Le h1 h2 → St w0 noM h0 h2 w6 → σ1 1 = I p1 → σ1 2 = .pointer (some ⟨b1,0,none⟩) → σ1 5 = .pointer (some ⟨b2,0,none⟩) → σ1 6 = .bool y1 → SlR h2 aG aH p0.Index → Mut h2 w6 b2 (.cells (List.toArray [I p0.Op,I p0.N,.string p0.Name,.slice aG p0.Index.length aH,.slice none 0 0]) 31 (0,0)) → j1 y1 = some r → Run X38 [.code c38_8] σ1 w6 (.fn (Q38 w0 h0 r)) := by
  intro y1 σ1 w6 h2 le2 st6 s1_j1 s2_j1 s5_j1 s6_j1 R1 M5 H
  rw [hj1] at H
  refine aB e38_8<|aB e38_9<|aA e38_10<|vv rfl (aF (b := b1) (o := 0) fl31_0 s2_j1)<|vv rfl (aN (I p0.Op) sc3 rfl ((aR (st6.has _ _ (le2 _ _ g1))).trans rfl))<|aD<|aT e38_11<|aB e38_12<|aA e38_13<|vv rfl (aQ .eql .i64 p0.Op 1 (.bool (decide (p0.Op = 1))) 3 3 rfl rfl rfl) ?_
  refine vv rfl (aC (.bool (decide (p0.Op = 1))) rfl)<|aD ?_
  obtain ⟨j2,hj2,H⟩ := dH H
  have Jj2 : ∀ {y5 : Bool} {y6 : Int} {y7 : ByteArray} {y8 : (List ByteArray)} {a1 : OA} {c1 : Nat} {σ5 : Env} {w17 : World} {h9 : Sto},Le h2 h9 → St w0 noM h0 h9 w17 → σ5 1 = I p1 → σ5 2 = .pointer (some ⟨b1,0,none⟩) → σ5 5 = .pointer (some ⟨b2,0,none⟩) → σ5 6 = .bool y5 → SlR h9 a1 c1 y8 → Mut h9 w17 b2 (.cells (List.toArray [I p0.Op,I y6,.string y7,.slice a1 y8.length c1,.slice none 0 0]) 31 (0,0)) → j2 y5 y6 y7 y8 = some r → Run X38 [.inBlock 0,.code c38_31] σ5 w17 (.fn (Q38 w0 h0 r)) := by
   intro y5 y6 y7 y8 a1 c1 σ5 w17 h9 le6 st17 s1_j2 s2_j2 s5_j2 s6_j2 R5 M16 H
   rw [hj2] at H
   refine aZ<|aB e38_31<|aB e38_32<|aA e38_33<|vv rfl (aE (.bool y5) s6_j2)<|vv rfl (dV y5 4 rfl)<|vv rfl (aE (.bool (!y5)) rfl) ?_
   rcases aM H with ⟨hc10,H⟩ | ⟨hc10,H⟩
   · refine bC (wt2 (bN hc10) rfl) rfl (aF (b := b2) (o := 0) fl31_1 s5_j2)<|bC (wt2 (bN hc10) rfl) rfl (aN (I y6) sc2 rfl ((aR M16.get).trans rfl))<|bC (wt2 (bN hc10) rfl) rfl (aQ .neq .i64 y6 0 (.bool (!decide (y6 = 0))) 2 2 rfl rfl rfl)<|vv rfl (dE (.bool (!decide (y6 = 0))) (bN hc10) rfl rfl)<|vv rfl (aE (.bool (!decide (y6 = 0))) rfl) ?_
     rcases aM H with ⟨hc11,H⟩ | ⟨hc11,H⟩
     · refine bC (wt2 (bN (dT hc11)) rfl) rfl (aF (b := b2) (o := 0) fl31_2 s5_j2)<|bC (wt2 (bN (dT hc11)) rfl) rfl (aN (.string y7) sc9 rfl ((aR M16.get).trans rfl))<|bC (wt2 (bN (dT hc11)) rfl) rfl (x_strNe y7 ByteArray.empty 9 9 rfl rfl)<|vv rfl (dE (.bool (!decide (y7 = ByteArray.empty))) (bN (dT hc11)) rfl rfl)<|vv rfl (aE (.bool (!decide (y7 = ByteArray.empty))) rfl) ?_
       rcases aM H with ⟨hc12,H⟩ | ⟨hc12,H⟩
       · refine bC (wt2 (bN (dT hc12)) rfl) rfl (aF (b := b2) (o := 0) fl31_3 s5_j2)<|bC (wt2 (bN (dT hc12)) rfl) rfl (aN (.slice a1 y8.length c1) sc28 rfl ((aR M16.get).trans rfl))<|bC (wt2 (bN (dT hc12)) rfl) rfl (bK u28 rfl)<|bC (wt2 (bN (dT hc12)) rfl) rfl (aQ .gtr .i64 (y8.length : Int) 0 (.bool (decide (0 < (y8.length : Int)))) 3 3 rfl rfl rfl)<|vv rfl (dE (.bool (decide (0 < (y8.length : Int)))) (bN (dT hc12)) rfl rfl)<|aD ?_
         rcases aM H with ⟨hc13,H⟩ | ⟨hc13,H⟩
         · refine tr e38_34 (dT hc13) rfl<|aB e38_35<|aA e38_36<|vv rfl (aC (I (-1)) rfl)<|aD ?_
           cases H
           exact aJ e38_37 (cD Try.results38 rfl ⟨h9,rfl,st17⟩)
         refine fa e38_34 (dF hc13) rfl<|aL e38_38<|aB e38_39<|aA e38_40<|vv rfl (aC (I 1) rfl)<|aD<|aB e38_41<|aB e38_42<|aA e38_43<|vv rfl (aF (b := b1) (o := 0) fl31_4 s2_j2) ?_
         refine vv rfl (aN (.slice bF p0.L.length bG) sc29 rfl ((aR (st17.has _ _ ((le2.trans le6) _ _ g1))).trans rfl))<|vv rfl (bK u29 rfl)<|vv rfl (aE (I 0) rfl)<|aD<|aT e38_44<|bZ e38_45 ?_
         exact ih.2 (j7 := 0) st17 s1_j2 rfl rfl rfl rfl (SlR.mono (le1.trans (le2.trans le6)) fB) rfl H
       refine aO (wf2 (bQ (dF hc12)) rfl) rfl<|aO (wf2 (bQ (dF hc12)) rfl) rfl<|aO (wf2 (bQ (dF hc12)) rfl) rfl<|aO (wf2 (bQ (dF hc12)) rfl) rfl<|vv rfl (dD (.bool true) (bQ (dF hc12)) rfl rfl)<|aD<|cZ e38_34 (p := true) rfl rfl<|aB e38_35<|aA e38_36<|vv rfl (aC (I (-1)) rfl) ?_
       refine aD ?_
       cases H
       exact aJ e38_37 (cD Try.results38 rfl ⟨h9,rfl,st17⟩)
     refine aO (wf2 (bQ (dF hc11)) rfl) rfl<|aO (wf2 (bQ (dF hc11)) rfl) rfl<|aO (wf2 (bQ (dF hc11)) rfl) rfl<|vv rfl (dD (.bool true) (bQ (dF hc11)) rfl rfl)<|vv rfl (aE (.bool true) rfl)<|aO (wf (p := true) rfl rfl) rfl<|aO (wf (p := true) rfl rfl) rfl<|aO (wf (p := true) rfl rfl) rfl<|aO (wf (p := true) rfl rfl) rfl<|vv rfl (x_pickT (.bool true) (p := true) rfl rfl rfl) ?_
     refine aD<|cZ e38_34 (p := true) rfl rfl<|aB e38_35<|aA e38_36<|vv rfl (aC (I (-1)) rfl)<|aD ?_
     cases H
     exact aJ e38_37 (cD Try.results38 rfl ⟨h9,rfl,st17⟩)
   refine aO (wf2 (bQ (bY hc10)) rfl) rfl<|aO (wf2 (bQ (bY hc10)) rfl) rfl<|aO (wf2 (bQ (bY hc10)) rfl) rfl<|vv rfl (dD (.bool true) (bQ (bY hc10)) rfl rfl)<|vv rfl (aE (.bool true) rfl)<|aO (wf (p := true) rfl rfl) rfl<|aO (wf (p := true) rfl rfl) rfl<|aO (wf (p := true) rfl rfl) rfl<|vv rfl (x_pickT (.bool true) (p := true) rfl rfl rfl)<|vv rfl (aE (.bool true) rfl) ?_
   refine aO (wf (p := true) rfl rfl) rfl<|aO (wf (p := true) rfl rfl) rfl<|aO (wf (p := true) rfl rfl) rfl<|aO (wf (p := true) rfl rfl) rfl<|vv rfl (x_pickT (.bool true) (p := true) rfl rfl rfl)<|aD<|cZ e38_34 (p := true) rfl rfl<|aB e38_35<|aA e38_36<|vv rfl (aC (I (-1)) rfl) ?_
   refine aD ?_
   cases H
   exact aJ e38_37 (cD Try.results38 rfl ⟨h9,rfl,st17⟩)
  rcases aM H with ⟨hc2,H⟩ | ⟨hc2,H⟩
  · refine tr e38_14 (dT hc2) rfl<|aB e38_15<|aA e38_16 ?_
    obtain ⟨j3,hj3,H⟩ := dH H
    have Jj3 : ∀ {y2 : Bool} {σ2 : Env} {w7 : World} {h3 : Sto},Le h2 h3 → St w0 noM h0 h3 w7 → σ2 1 = I p1 → σ2 2 = .pointer (some ⟨b1,0,none⟩) → σ2 5 = .pointer (some ⟨b2,0,none⟩) → σ2 6 = .bool y2 → SlR h3 aG aH p0.Index → Mut h3 w7 b2 (.cells (List.toArray [I p0.Op,I p0.N,.string p0.Name,.slice aG p0.Index.length aH,.slice none 0 0]) 31 (0,0)) → j3 y2 = some r → Run X38 [.code c38_17,.inBlock 0,.code c38_31] σ2 w7 (.fn (Q38 w0 h0 r)) := by
     intro y2 σ2 w7 h3 le3 st7 s1_j3 s2_j3 s5_j3 s6_j3 R2 M6 H
     rw [hj3] at H
     refine aA e38_17<|vv rfl (aF (b := b2) (o := 0) fl31_1 s5_j3)<|aV (o := 1) (n := 1) [I 0] [I p0.Op,I 0,.string p0.Name,.slice aG p0.Index.length aH,.slice none 0 0] (I 0) sz2 rfl rfl rfl rfl M6 rfl rfl rfl rfl rfl (fun w8 wr3 M7 => ?_)
     have sp6 := wr3.st st7.has M6.none
     have st8 := st7.call sp6 (fun x e => (.inl (e ▸ lb1)))
     refine aD ?_
     exact Jj2 le3 st8 s1_j3 s2_j3 s5_j3 s6_j3 R2 M7 H
    refine vv rfl (aE (.bool y1) s6_j1)<|vv rfl (aE (.bool y1) rfl) ?_
    rcases aM H with ⟨hc3,H⟩ | ⟨hc3,H⟩
    · refine bC (wt2 hc3 rfl) rfl (aF (b := b1) (o := 0) fl31_1 s2_j1)<|bC (wt2 hc3 rfl) rfl (aN (I p0.N) sc2 rfl ((aR (st6.has _ _ (le2 _ _ g1))).trans rfl))<|bC (wt2 hc3 rfl) rfl (aQ .geq .i64 p0.N 0 (.bool (decide (0 ≤ p0.N))) 2 2 rfl rfl rfl)<|vv rfl (dD (.bool (decide (0 ≤ p0.N))) hc3 rfl rfl)<|vv rfl (aE (.bool (decide (0 ≤ p0.N))) rfl) ?_
      rcases aM H with ⟨hc4,H⟩ | ⟨hc4,H⟩
      · refine bC (wt2 (dT hc4) rfl) rfl (aF (b := b1) (o := 0) fl31_1 s2_j1)<|bC (wt2 (dT hc4) rfl) rfl (aN (I p0.N) sc2 rfl ((aR (st6.has _ _ (le2 _ _ g1))).trans rfl))<|bC (wt2 (dT hc4) rfl) rfl (aQ .lss .i64 p0.N 1000000000000000000 (.bool (decide (p0.N < 1000000000000000000))) 2 2 rfl rfl rfl)<|vv rfl (dD (.bool (decide (p0.N < 1000000000000000000))) (dT hc4) rfl rfl)<|vv rfl (aC (.bool (decide (p0.N < 1000000000000000000))) rfl)<|aD ?_
        exact Jj3 (Le.refl _) st6 s1_j1 s2_j1 s5_j1 rfl R1 M5 H
      refine aO (wf2 (dF hc4) rfl) rfl<|aO (wf2 (dF hc4) rfl) rfl<|aO (wf2 (dF hc4) rfl) rfl<|vv rfl (dE (.bool false) (dF hc4) rfl rfl)<|vv rfl (aC (.bool false) rfl)<|aD ?_
      exact Jj3 (Le.refl _) st6 s1_j1 s2_j1 s5_j1 rfl R1 M5 H
    refine aO (wf2 (bY hc3) rfl) rfl<|aO (wf2 (bY hc3) rfl) rfl<|aO (wf2 (bY hc3) rfl) rfl<|vv rfl (dE (.bool false) (bY hc3) rfl rfl)<|vv rfl (aE (.bool false) rfl)<|aO (wf (p := false) rfl rfl) rfl<|aO (wf (p := false) rfl rfl) rfl<|aO (wf (p := false) rfl rfl) rfl<|vv rfl (cA (.bool false) (p := false) rfl rfl rfl)<|vv rfl (aC (.bool false) rfl) ?_
    refine aD ?_
    exact Jj3 (Le.refl _) st6 s1_j1 s2_j1 s5_j1 rfl R1 M5 H
  refine fa e38_14 (dF hc2) rfl<|aB e38_18<|aA e38_19<|vv rfl (aQ .eql .i64 p0.Op 2 (.bool (decide (p0.Op = 2))) 3 3 rfl rfl rfl)<|vv rfl (aC (.bool (decide (p0.Op = 2))) rfl)<|aD ?_
  rcases aM H with ⟨hc5,H⟩ | ⟨hc5,H⟩
  · refine tr e38_20 (dT hc5) rfl<|aB e38_21<|aA e38_22 ?_
    obtain ⟨j4,hj4,H⟩ := dH H
    have Jj4 : ∀ {y3 : Bool} {σ3 : Env} {w11 : World} {h6 : Sto},Le h2 h6 → St w0 noM h0 h6 w11 → σ3 1 = I p1 → σ3 2 = .pointer (some ⟨b1,0,none⟩) → σ3 5 = .pointer (some ⟨b2,0,none⟩) → σ3 6 = .bool y3 → SlR h6 aG aH p0.Index → Mut h6 w11 b2 (.cells (List.toArray [I p0.Op,I p0.N,.string p0.Name,.slice aG p0.Index.length aH,.slice none 0 0]) 31 (0,0)) → j4 y3 = some r → Run X38 [.code c38_23,.inBlock 0,.code c38_31] σ3 w11 (.fn (Q38 w0 h0 r)) := by
     intro y3 σ3 w11 h6 le4 st11 s1_j4 s2_j4 s5_j4 s6_j4 R3 M10 H
     rw [hj4] at H
     refine aA e38_23<|vv rfl (aF (b := b2) (o := 0) fl31_2 s5_j4)<|aV (o := 2) (n := 1) [.string ByteArray.empty] [I p0.Op,I p0.N,.string ByteArray.empty,.slice aG p0.Index.length aH,.slice none 0 0] (.string ByteArray.empty) sz9 rfl rfl rfl rfl M10 rfl rfl rfl rfl rfl (fun w12 wr4 M11 => ?_)
     have sp9 := wr4.st st11.has M10.none
     have st12 := st11.call sp9 (fun x e => (.inl (e ▸ lb1)))
     refine vv rfl (aF (b := b2) (o := 0) fl31_3 s5_j4)<|aV (o := 3) (n := 1) [.slice none 0 0] [I p0.Op,I p0.N,.string ByteArray.empty,.slice none 0 0,.slice none 0 0] (.slice none 0 0) sz28 rfl rfl rfl rfl M11 rfl rfl rfl rfl rfl (fun w13 wr5 M12 => ?_)
     have sp10 := wr5.st st12.has M11.none
     have st13 := st12.call sp10 (fun x e => (.inl (e ▸ lb1)))
     refine aD ?_
     exact Jj2 le4 st13 s1_j4 s2_j4 s5_j4 s6_j4 (SlR.none _) M12 H
    refine vv rfl (aE (.bool y1) s6_j1)<|vv rfl (aE (.bool y1) rfl) ?_
    rcases aM H with ⟨hc6,H⟩ | ⟨hc6,H⟩
    · refine bC (wt2 hc6 rfl) rfl (aF (b := b1) (o := 0) fl31_2 s2_j1)<|bC (wt2 hc6 rfl) rfl (aN (.string p0.Name) sc9 rfl ((aR (st6.has _ _ (le2 _ _ g1))).trans rfl)) ?_
      obtain ⟨r1,hr1,H⟩ := aK H
      refine aU [.string p0.Name] en46 (wt2 hc6 rfl) rfl rfl (F46 k st6.has hr1) ?_
      rintro _ w9 ⟨h4,rfl,sp7⟩
      have M8 := M5.call0 sp7
      have st9 := st6.call0 sp7
      refine vv rfl (dD (.bool r1) hc6 rfl rfl)<|vv rfl (aE (.bool r1) rfl) ?_
      rcases aM H with ⟨hc7,H⟩ | ⟨hc7,H⟩
      · refine bC (wt2 hc7 rfl) rfl (aF (b := b1) (o := 0) fl31_3 s2_j1)<|bC (wt2 hc7 rfl) rfl (aN (.slice aG p0.Index.length aH) sc28 rfl ((aR (st9.has _ _ ((le2.trans sp7.le) _ _ g1))).trans rfl)) ?_
        obtain ⟨r2,hr2,H⟩ := aK H
        refine aU [.slice aG p0.Index.length aH] en49 (wt2 hc7 rfl) rfl rfl (F49 k st9.has (SlR.mono (le1.trans (le2.trans sp7.le)) cB) hr2) ?_
        rintro _ w10 ⟨h5,rfl,sp8⟩
        have M9 := M8.call0 sp8
        have st10 := st9.call0 sp8
        refine vv rfl (dD (.bool r2) hc7 rfl rfl)<|vv rfl (aC (.bool r2) rfl)<|aD ?_
        exact Jj4 (sp7.le.trans sp8.le) st10 s1_j1 s2_j1 s5_j1 rfl (SlR.mono (sp7.le.trans sp8.le) R1) M9 H
      refine aO (wf2 (bY hc7) rfl) rfl<|aO (wf2 (bY hc7) rfl) rfl<|aO (wf2 (bY hc7) rfl) rfl<|vv rfl (dE (.bool false) (bY hc7) rfl rfl)<|vv rfl (aC (.bool false) rfl)<|aD ?_
      exact Jj4 sp7.le st9 s1_j1 s2_j1 s5_j1 rfl (SlR.mono sp7.le R1) M8 H
    refine aO (wf2 (bY hc6) rfl) rfl<|aO (wf2 (bY hc6) rfl) rfl<|aO (wf2 (bY hc6) rfl) rfl<|vv rfl (dE (.bool false) (bY hc6) rfl rfl)<|vv rfl (aE (.bool false) rfl)<|aO (wf (p := false) rfl rfl) rfl<|aO (wf (p := false) rfl rfl) rfl<|aO (wf (p := false) rfl rfl) rfl<|vv rfl (cA (.bool false) (p := false) rfl rfl rfl)<|vv rfl (aC (.bool false) rfl) ?_
    refine aD ?_
    exact Jj4 (Le.refl _) st6 s1_j1 s2_j1 s5_j1 rfl R1 M5 H
  refine fa e38_20 (dF hc5) rfl<|aB e38_24<|aA e38_25<|vv rfl (aQ .eql .i64 p0.Op 7 (.bool (decide (p0.Op = 7))) 3 3 rfl rfl rfl)<|vv rfl (aC (.bool (decide (p0.Op = 7))) rfl)<|aD ?_
  rcases aM H with ⟨hc8,H⟩ | ⟨hc8,H⟩
  · refine tr e38_26 (dT hc8) rfl<|aB e38_27<|aA e38_28 ?_
    obtain ⟨j5,hj5,H⟩ := dH H
    have Jj5 : ∀ {y4 : Bool} {σ4 : Env} {w15 : World} {h8 : Sto},Le h2 h8 → St w0 noM h0 h8 w15 → σ4 1 = I p1 → σ4 2 = .pointer (some ⟨b1,0,none⟩) → σ4 5 = .pointer (some ⟨b2,0,none⟩) → σ4 6 = .bool y4 → SlR h8 aG aH p0.Index → Mut h8 w15 b2 (.cells (List.toArray [I p0.Op,I p0.N,.string p0.Name,.slice aG p0.Index.length aH,.slice none 0 0]) 31 (0,0)) → j5 y4 = some r → Run X38 [.code c38_29,.inBlock 0,.code c38_31] σ4 w15 (.fn (Q38 w0 h0 r)) := by
     intro y4 σ4 w15 h8 le5 st15 s1_j5 s2_j5 s5_j5 s6_j5 R4 M14 H
     rw [hj5] at H
     refine aA e38_29<|vv rfl (aF (b := b2) (o := 0) fl31_2 s5_j5)<|aV (o := 2) (n := 1) [.string ByteArray.empty] [I p0.Op,I p0.N,.string ByteArray.empty,.slice aG p0.Index.length aH,.slice none 0 0] (.string ByteArray.empty) sz9 rfl rfl rfl rfl M14 rfl rfl rfl rfl rfl (fun w16 wr6 M15 => ?_)
     have sp12 := wr6.st st15.has M14.none
     have st16 := st15.call sp12 (fun x e => (.inl (e ▸ lb1)))
     refine aD ?_
     exact Jj2 le5 st16 s1_j5 s2_j5 s5_j5 s6_j5 R4 M15 H
    refine vv rfl (aE (.bool y1) s6_j1)<|vv rfl (aE (.bool y1) rfl) ?_
    rcases aM H with ⟨hc9,H⟩ | ⟨hc9,H⟩
    · refine bC (wt2 hc9 rfl) rfl (aF (b := b1) (o := 0) fl31_2 s2_j1)<|bC (wt2 hc9 rfl) rfl (aN (.string p0.Name) sc9 rfl ((aR (st6.has _ _ (le2 _ _ g1))).trans rfl)) ?_
      obtain ⟨r3,hr3,H⟩ := aK H
      refine aU [.string p0.Name] en46 (wt2 hc9 rfl) rfl rfl (F46 k st6.has hr3) ?_
      rintro _ w14 ⟨h7,rfl,sp11⟩
      have M13 := M5.call0 sp11
      have st14 := st6.call0 sp11
      refine vv rfl (dD (.bool r3) hc9 rfl rfl)<|vv rfl (aC (.bool r3) rfl)<|aD ?_
      exact Jj5 sp11.le st14 s1_j1 s2_j1 s5_j1 rfl (SlR.mono sp11.le R1) M13 H
    refine aO (wf2 (bY hc9) rfl) rfl<|aO (wf2 (bY hc9) rfl) rfl<|aO (wf2 (bY hc9) rfl) rfl<|vv rfl (dE (.bool false) (bY hc9) rfl rfl)<|vv rfl (aC (.bool false) rfl)<|aD ?_
    exact Jj5 (Le.refl _) st6 s1_j1 s2_j1 s5_j1 rfl R1 M5 H
  refine fa e38_26 (dF hc8) rfl<|aL e38_30 ?_
  exact Jj2 (Le.refl _) st6 s1_j1 s2_j1 s5_j1 s6_j1 R1 M5 H
 refine dY [[(0,false),(1,false),(2,false),(3,false),(4,false),(6,false),(7,false),(8,false),(5,true),(9,false),(10,false),(11,false)]] [5] [0,1,2,3,4,5,6,7,8,9,10,11] [0,1,2,3,4,5,6,7,8,9,10,11] (fun w_ => Has h1 w_ ∧ True) e38_7 k38_7 m38_7 (fun w5 al3 => ?_)
 have sp5 := al3.st st4.has
 have M4 := M3.call0 sp5
 have st5 := st4.call0 sp5
 refine ⟨⟨Has.le (Le.refl _) st5.has,trivial⟩,?_,trivial⟩
 refine bV rfl rfl (fun w_ ok_ => aE (I p1) rfl)<|bV rfl rfl (fun w_ ok_ => aQ .gtr .i64 p1 0 (.bool (decide (0 < p1))) 3 3 rfl rfl rfl)<|bV rfl rfl (fun w_ ok_ => aE (.bool (decide (0 < p1))) rfl) ?_
 rcases aM H with ⟨hc1,H⟩ | ⟨hc1,H⟩
 · refine bV rfl (wt2 (dT hc1) rfl) (fun w_ ok_ => aF (b := b1) (o := 0) fl31_0 rfl)<|bV rfl (wt2 (dT hc1) rfl) (fun w_ ok_ => aN (I p0.Op) sc3 rfl ((aR (ok_.1 _ _ g1)).trans rfl))<|bV rfl (wt2 (dT hc1) rfl) (fun w_ ok_ => aF (b := b1) (o := 0) fl31_4 rfl)<|bV rfl (wt2 (dT hc1) rfl) (fun w_ ok_ => aN (.slice bF p0.L.length bG) sc29 rfl ((aR (ok_.1 _ _ g1)).trans rfl))<|bV rfl (wt2 (dT hc1) rfl) (fun w_ ok_ => bK u29 rfl) ?_
   obtain ⟨rd1_5_1,hrd1_5_2,H⟩ := aK H
   refine dr_c rfl (od_call [I p0.Op] en61 (wt2 (dT hc1) rfl) rfl (F61 st5.has hrd1_5_2) ?_)
   rintro _ wd1_5_3 ⟨hd1_5_4,rfl,spd1_5_5⟩
   have Md1_5_6 := M4.call0 spd1_5_5
   have std1_5_7 := st5.call0 spd1_5_5
   refine ⟨.inr ⟨Has.le spd1_5_5.le std1_5_7.has,trivial⟩,?_⟩
   refine bV rfl (wt2 (dT hc1) rfl) (fun w_ ok_ => aQ .eql .i64 rd1_5_1 (p0.L.length : Int) (.bool (decide (rd1_5_1 = (p0.L.length : Int)))) 3 3 rfl rfl rfl)<|bV rfl rfl (fun w_ ok_ => dD (.bool (decide (rd1_5_1 = (p0.L.length : Int)))) (dT hc1) rfl rfl)<|bV rfl rfl (fun w_ ok_ => aC (.bool (decide (rd1_5_1 = (p0.L.length : Int)))) rfl)<|eL ?_
   exact Jj1 spd1_5_5.le std1_5_7 rfl rfl rfl rfl (SlR.mono (le1.trans spd1_5_5.le) cB) Md1_5_6 H
 refine eK rfl (wf2 (dF hc1) rfl)<|eK rfl (wf2 (dF hc1) rfl)<|eK rfl (wf2 (dF hc1) rfl)<|eK rfl (wf2 (dF hc1) rfl)<|eK rfl (wf2 (dF hc1) rfl) ?_
 refine dr_c rfl (od_s (wf2 (dF hc1) rfl) ⟨.inr ⟨Has.le (Le.refl _) st5.has,trivial⟩,?_⟩)
 refine eK rfl (wf2 (dF hc1) rfl)<|bV rfl rfl (fun w_ ok_ => dE (.bool false) (dF hc1) rfl rfl)<|bV rfl rfl (fun w_ ok_ => aC (.bool false) rfl)<|eL ?_
 exact Jj1 (Le.refl _) st5 rfl rfl rfl rfl (SlR.mono le1 cB) M4 H
theorem SLl38_0_z : SLl38_0 0 := by
  unfold SLl38_0; intros; rename_i H; exact absurd H (by simp [l38_0])
theorem SLl38_0_s (k : Nat) (ih : ZS38 k) : SLl38_0 (k + 1) := by
 intro p0 bF bG j7 p1 i1 w0 w h0 h σ xs1 r st s1 s7 s83 s84 s85 R6 hd1 H
 cases xs1 with
 | nil =>
  rw [l38_0] at H
  have hk1 := cU hd1
  refine aB e38_46<|aA e38_47<|vv rfl (aQ .lss .i64 (j7 : Int) (p0.L.length : Int) (.bool (decide ((j7 : Int) < (p0.L.length : Int)))) 3 3 s85 s84 rfl)<|aD<|aB e38_48<|fa e38_49 hk1 rfl<|bO e38_51 rfl<|aB e38_68<|aA e38_69<|vv rfl (aE (I i1) s7) ?_
  refine vv rfl (aC (I i1) rfl)<|aD ?_
  cases H
  exact aJ e38_70 (cD Try.results38 rfl ⟨h,rfl,st⟩)
 | cons x1 xs2 =>
  rw [l38_0] at H
  obtain ⟨hk2,hj1,hx1,hd2⟩ := cJ hd1
  refine aB e38_46<|aA e38_47<|vv rfl (aQ .lss .i64 (j7 : Int) (p0.L.length : Int) (.bool (decide ((j7 : Int) < (p0.L.length : Int)))) 3 3 s85 s84 rfl)<|aD<|aB e38_48<|tr e38_49 hk2 rfl<|aL e38_50<|aB e38_52<|aT e38_53<|aB e38_54 ?_
  refine aA e38_55 ?_
  obtain ⟨b3,o1,vs1,ea1,rp1,cl1⟩ := SlR.at R6 hx1
  obtain ⟨a2,c2,a3,c3,rfl,R7,R8⟩ := GNode.out rp1
  refine vv rfl (aY u29 cP s83 s85 ea1 (Int.natCast_nonneg _) (Int.ofNat_lt.2 hj1))<|vv rfl (bH [I x1.Op,I x1.N,.string x1.Name,.slice a2 x1.Index.length c2,.slice a3 x1.L.length c3] dX cP rfl rfl (cl1 _ (Has.le (Le.refl _) st.has)))<|cG (.agg #[I 0,I 0,.string ByteArray.empty,.slice none 0 0,.slice none 0 0]) zr31 rfl rfl (fun b4 w18 al4 => ?_)
  replace al4 : Al _ (.cells (List.toArray [I 0,I 0,.string ByteArray.empty,.slice none 0 0,.slice none 0 0]) 31 (0,0)) b4 w18 := al4
  have M17 := Mut.new st al4
  have lb2 := st.alB al4
  have sp13 := al4.st st.has
  have st18 := st.call0 sp13
  refine aV (o := 0) (n := 5) [I x1.Op,I x1.N,.string x1.Name,.slice a2 x1.Index.length c2,.slice a3 x1.L.length c3] [I x1.Op,I x1.N,.string x1.Name,.slice a2 x1.Index.length c2,.slice a3 x1.L.length c3] (.agg #[I x1.Op,I x1.N,.string x1.Name,.slice a2 x1.Index.length c2,.slice a3 x1.L.length c3]) cP rfl rfl rfl rfl M17 rfl rfl rfl rfl rfl (fun w19 wr7 M18 => ?_)
  have sp14 := wr7.st st18.has M17.none
  have st19 := st18.call sp14 (fun x e => (.inl (e ▸ lb2)))
  obtain ⟨h10,le7,g2,st20,kp1⟩ := M18.fz st19 lb2
  refine aD<|aB e38_56<|aA e38_57<|vv rfl (bH [I x1.Op,I x1.N,.string x1.Name,.slice a2 x1.Index.length c2,.slice a3 x1.L.length c3] dX cP rfl rfl (bA (st20.has _ _ g2) rfl))<|vv rfl (aE (I p1) s1)<|vv rfl (aQ .sub .i64 p1 1 (I (wr (p1 - 1))) 3 3 rfl rfl rfl) ?_
  obtain ⟨r4,hr4,H⟩ := aK H
  refine aU [.agg #[I x1.Op,I x1.N,.string x1.Name,.slice a2 x1.Index.length c2,.slice a3 x1.L.length c3],I (wr (p1 - 1))] en38 rfl rfl rfl (ih.1 (p0 := x1) st20.has (SlR.mono le7 R7) (SlR.mono le7 R8) hr4) ?_
  rintro _ w20 ⟨h11,rfl,sp15⟩
  have st21 := st20.call0 sp15
  refine vv rfl (aC (I r4) rfl)<|aD<|aB e38_58<|aB e38_59<|aA e38_60<|vv rfl (aE (I r4) rfl)<|vv rfl (aQ .lss .i64 r4 0 (.bool (decide (r4 < 0))) 3 3 rfl rfl rfl)<|aD ?_
  rcases aM H with ⟨hc14,H⟩ | ⟨hc14,H⟩
  · refine tr e38_61 (dT hc14) rfl<|aB e38_62<|aA e38_63<|vv rfl (aC (I (-1)) rfl)<|aD ?_
    cases H
    exact aJ e38_64 (cD Try.results38 rfl ⟨h11,rfl,st21⟩)
  refine fa e38_61 (dF hc14) rfl<|aL e38_65<|aA e38_66<|vv rfl (aE (I i1) s7)<|vv rfl (aE (I r4) rfl)<|vv rfl (aQ .add .i64 i1 r4 (I (wr (i1 + r4))) 3 3 rfl rfl rfl)<|vv rfl (aC (I (wr (i1 + r4))) rfl)<|aD<|aZ<|aA e38_67 ?_
  refine vv rfl (aQ .add .i64 (j7 : Int) 1 (I ((j7 + 1 : Nat) : Int)) 3 3 s85 rfl (dL hj1 (SlR.mono (le7.trans sp15.le) R6).mx))<|vv rfl (aE (I ((j7 + 1 : Nat) : Int)) rfl)<|aD<|bI ?_
  exact ih.2 (j7 := (j7 + 1)) st21 s1 rfl s83 s84 rfl (SlR.mono (le7.trans sp15.le) R6) hd2 H
theorem ZS38_all : ∀ k,ZS38 k
  | 0 => ⟨S38_z,SLl38_0_z⟩
  | k + 1 => ⟨S38_s k (ZS38_all k),SLl38_0_s k (ZS38_all k)⟩
theorem F38 (k : Nat) : S38 k := (ZS38_all k).1
theorem F21 (k : Nat) : S21 k := by
 intro p0 aG bF aH bG w0 h0 hh cB fB r H
 unfold m21 at H
 refine aP (fn := Try.f21) Try.func21 rfl (Nat.le_of_ble_eq_true rfl) ?_
 show Run X21 [.code c21_0] (fun t => List.getD [.agg #[I p0.Op,I p0.N,.string p0.Name,.slice aG p0.Index.length aH,.slice bF p0.L.length bG]] t undef) w0 (.fn (Q21 w0 h0 r))
 have st0 := St.init hh noM
 refine aB e21_0<|aA e21_1<|dW (.agg #[I p0.Op,I p0.N,.string p0.Name,.slice aG p0.Index.length aH,.slice bF p0.L.length bG]) rfl rfl rfl (fun b1 w1 al1 => ?_)
 replace al1 : Al _ (.cells (List.toArray [I p0.Op,I p0.N,.string p0.Name,.slice aG p0.Index.length aH,.slice bF p0.L.length bG]) 31 (0,0)) b1 w1 := al1
 obtain ⟨h1,le1,g1,sp1⟩ := al1.fz st0.has
 have st1 := st0.call0 sp1
 refine vv rfl (aC (.bool false) rfl)<|aD<|aB e21_2<|aA e21_3<|vv rfl (bH [I p0.Op,I p0.N,.string p0.Name,.slice aG p0.Index.length aH,.slice bF p0.L.length bG] dX cP rfl rfl (bA (st1.has _ _ g1) rfl)) ?_
 obtain ⟨r1,hr1,H⟩ := aK H
 refine aU [.agg #[I p0.Op,I p0.N,.string p0.Name,.slice aG p0.Index.length aH,.slice bF p0.L.length bG],I 16] en38 rfl rfl rfl (F38 k (p0 := p0) st1.has (SlR.mono le1 cB) (SlR.mono le1 fB) hr1) ?_
 rintro _ w2 ⟨h2,rfl,sp2⟩
 have st2 := st1.call0 sp2
 refine vv rfl (aC (I r1) rfl)<|aD<|aB e21_4<|aA e21_5 ?_
 obtain ⟨j1,hj1,H⟩ := dH H
 have Jj1 : ∀ {y1 : Bool} {σ1 : Env} {w3 : World} {h3 : Sto},Le h2 h3 → St w0 noM h0 h3 w3 → σ1 2 = .bool y1 → j1 y1 = some r → Run X21 [.code c21_6] σ1 w3 (.fn (Q21 w0 h0 r)) := by
  intro y1 σ1 w3 h3 le2 st3 s2_j1 H
  rw [hj1] at H
  cases H
  exact aJ e21_6 (cD Try.results21 s2_j1 ⟨h3,rfl,st3⟩)
 refine vv rfl (aE (I r1) rfl)<|vv rfl (aQ .gtr .i64 r1 0 (.bool (decide (0 < r1))) 3 3 rfl rfl rfl)<|vv rfl (aE (.bool (decide (0 < r1))) rfl) ?_
 rcases aM H with ⟨hc1,H⟩ | ⟨hc1,H⟩
 · refine bC (wt2 (dT hc1) rfl) rfl (aE (I r1) rfl)<|bC (wt2 (dT hc1) rfl) rfl (aQ .leq .i64 r1 120 (.bool (decide (r1 ≤ 120))) 3 3 rfl rfl rfl)<|vv rfl (dD (.bool (decide (r1 ≤ 120))) (dT hc1) rfl rfl)<|vv rfl (aC (.bool (decide (r1 ≤ 120))) rfl)<|aD ?_
   exact Jj1 (Le.refl _) st2 rfl H
 refine aO (wf2 (dF hc1) rfl) rfl<|aO (wf2 (dF hc1) rfl) rfl<|vv rfl (dE (.bool false) (dF hc1) rfl rfl)<|vv rfl (aC (.bool false) rfl)<|aD ?_
 exact Jj1 (Le.refl _) st2 rfl H
theorem F78 : S78 := by
 intro p0 w0 h0 hh r H
 unfold m78 at H
 refine aP (fn := Try.f78) Try.func78 rfl (Nat.le_of_ble_eq_true rfl) ?_
 show Run X78 [.code c78_0] (fun t => List.getD [I p0] t undef) w0 (.fn (Q78 w0 h0 r))
 have st0 := St.init hh noM
 refine aB e78_0<|aA e78_1<|vv rfl (aC (.bool false) rfl)<|aD<|aB e78_2<|aA e78_3 ?_
 obtain ⟨j1,hj1,H⟩ := dH H
 have Jj1 : ∀ {y1 : Bool} {σ1 : Env} {w1 : World} {h1 : Sto},Le h0 h1 → St w0 noM h0 h1 w1 → σ1 2 = .bool y1 → j1 y1 = some r → Run X78 [.code c78_4] σ1 w1 (.fn (Q78 w0 h0 r)) := by
  intro y1 σ1 w1 h1 le1 st1 s2_j1 H
  rw [hj1] at H
  cases H
  exact aJ e78_4 (cD Try.results78 s2_j1 ⟨h1,rfl,st1⟩)
 refine vv rfl (aE (I p0) rfl)<|vv rfl (aQ .lss .i64 p0 0 (.bool (decide (p0 < 0))) 3 3 rfl rfl rfl)<|vv rfl (aE (.bool (decide (p0 < 0))) rfl) ?_
 rcases aM H with ⟨hc1,H⟩ | ⟨hc1,H⟩
 · refine aO (wf2 (dT hc1) rfl) rfl<|aO (wf2 (dT hc1) rfl) rfl<|vv rfl (dD (.bool true) (dT hc1) rfl rfl)<|vv rfl (aC (.bool true) rfl)<|aD ?_
   exact Jj1 (Le.refl _) st0 rfl H
 refine bC (wt2 (dF hc1) rfl) rfl (aE (I p0) rfl)<|bC (wt2 (dF hc1) rfl) rfl (aQ .geq .i64 p0 1000000000000000000 (.bool (decide (1000000000000000000 ≤ p0))) 3 3 rfl rfl rfl)<|vv rfl (dE (.bool (decide (1000000000000000000 ≤ p0))) (dF hc1) rfl rfl)<|vv rfl (aC (.bool (decide (1000000000000000000 ≤ p0))) rfl)<|aD ?_
 exact Jj1 (Le.refl _) st0 rfl H
abbrev ZSLl91_0 (k : Nat) : Prop := SLl91_0 k
theorem SLl91_0_z : SLl91_0 0 := by
  unfold SLl91_0; intros; rename_i H; exact absurd H (by simp [l91_0])
theorem SLl91_0_s (k : Nat) (ih : ZSLl91_0 k) : SLl91_0 (k + 1) := by
 intro p0 bD bE j1 w0 w h0 h σ xs1 r st s0 s1 s7 s8 R1 hd1 H
 cases xs1 with
 | nil =>
  rw [l91_0] at H
  have hk1 := cU hd1
  refine aB e91_7<|aA e91_8<|vv rfl (aQ .lss .i64 (j1 : Int) (p0.length : Int) (.bool (decide ((j1 : Int) < (p0.length : Int)))) 3 3 s8 s7 rfl)<|aD<|aB e91_9<|fa e91_10 hk1 rfl<|bO e91_12 rfl<|aB e91_25<|aA e91_26<|vv rfl (aC (I (-1)) rfl) ?_
  refine aD ?_
  cases H
  exact aJ e91_27 (cD Try.results91 rfl ⟨h,rfl,st⟩)
 | cons x1 xs2 =>
  rw [l91_0] at H
  obtain ⟨hk2,hj1,hx1,hd2⟩ := cJ hd1
  refine aB e91_7<|aA e91_8<|vv rfl (aQ .lss .i64 (j1 : Int) (p0.length : Int) (.bool (decide ((j1 : Int) < (p0.length : Int)))) 3 3 s8 s7 rfl)<|aD<|aB e91_9<|tr e91_10 hk2 rfl<|aL e91_11<|aB e91_13<|aT e91_14<|aB e91_15 ?_
  refine aA e91_16<|vv rfl (aE (I (j1 : Int)) s8)<|vv rfl (aC (I (j1 : Int)) rfl)<|aD<|aB e91_17<|aA e91_18<|vv rfl (aE (.func (.func 78) #[] #[]) s1)<|vv rfl (aE (.slice bD p0.length bE) s0)<|vv rfl (aE (I (j1 : Int)) rfl) ?_
  obtain ⟨b1,o1,vs1,ea1,rp1,cl1⟩ := SlR.at R1 hx1
  obtain rfl := rp1
  refine vv rfl (aY u43 sz3 rfl rfl ea1 (Int.natCast_nonneg _) (Int.ofNat_lt.2 hj1))<|vv rfl (aN (I x1) sc3 rfl (((cl1 _ (Has.le (Le.refl _) st.has)) 0 (by decide)).trans rfl)) ?_
  obtain ⟨r1,hr1,H⟩ := aK H
  refine dQ [] [] [I x1] [I x1] en78 rfl rfl rfl rfl rfl (F78 st.has hr1) ?_
  rintro _ w1 ⟨h1,rfl,sp1⟩
  have st1 := st.call0 sp1
  refine aD ?_
  rcases aM H with ⟨hc1,H⟩ | ⟨hc1,H⟩
  · refine tr e91_19 hc1 rfl<|aB e91_20<|aA e91_21<|vv rfl (aE (I (j1 : Int)) rfl)<|vv rfl (aC (I (j1 : Int)) rfl)<|aD ?_
    cases H
    exact aJ e91_22 (cD Try.results91 rfl ⟨h1,rfl,st1⟩)
  refine fa e91_19 (bY hc1) rfl<|aL e91_23<|aZ<|aA e91_24<|vv rfl (aQ .add .i64 (j1 : Int) 1 (I ((j1 + 1 : Nat) : Int)) 3 3 s8 rfl (dL hj1 (SlR.mono sp1.le R1).mx))<|vv rfl (aE (I ((j1 + 1 : Nat) : Int)) rfl)<|aD<|bI ?_
  exact ih (j1 := (j1 + 1)) st1 s0 s1 s7 rfl (SlR.mono sp1.le R1) hd2 H
theorem ZSLl91_0_all : ∀ k,ZSLl91_0 k
  | 0 => SLl91_0_z
  | k + 1 => SLl91_0_s k (ZSLl91_0_all k)
theorem Fl91_0 (k : Nat) : SLl91_0 k := (ZSLl91_0_all k)
theorem F91 (k : Nat) : S91 k := by
 intro p0 bD bE w0 h0 hh Rp0 r H
 unfold m91 at H
 refine aP (fn := Try.f91) Try.func91 rfl (Nat.le_of_ble_eq_true rfl) ?_
 show Run X91 [.code c91_0] (fun t => List.getD [.slice bD p0.length bE,.func (.func 78) #[] #[]] t undef) w0 (.fn (Q91 w0 h0 r))
 have st0 := St.init hh noM
 refine aB e91_0<|aA e91_1<|vv rfl (aC (I 0) rfl)<|aD<|aB e91_2<|aB e91_3<|aA e91_4<|vv rfl (aE (.slice bD p0.length bE) rfl)<|vv rfl (bK u43 rfl)<|vv rfl (aE (I 0) rfl) ?_
 refine aD<|aT e91_5<|bZ e91_6 ?_
 exact Fl91_0 k (j1 := 0) st0 rfl rfl rfl rfl Rp0 rfl H
theorem F77 (k : Nat) : S77 k := by
 intro p0 bD bE w0 h0 hh Rp0 r H
 unfold m77 at H
 refine aP (fn := Try.f77) Try.func77 rfl (Nat.le_of_ble_eq_true rfl) ?_
 show Run X77 [.code c77_0] (fun t => List.getD [.slice bD p0.length bE,.func (.func 78) #[] #[]] t undef) w0 (.fn (Q77 w0 h0 r))
 have st0 := St.init hh noM
 refine aB e77_0<|aA e77_1<|vv rfl (aC (.bool false) rfl)<|aD<|aB e77_2<|aA e77_3<|vv rfl (aE (.slice bD p0.length bE) rfl)<|vv rfl (aE (.func (.func 78) #[] #[]) rfl) ?_
 obtain ⟨r1,hr1,H⟩ := aK H
 refine aU [.slice bD p0.length bE,.func (.func 78) #[] #[]] en91 rfl rfl rfl (F91 k st0.has Rp0 hr1) ?_
 rintro _ w1 ⟨h1,rfl,sp1⟩
 have st1 := st0.call0 sp1
 refine vv rfl (aQ .geq .i64 r1 0 (.bool (decide (0 ≤ r1))) 3 3 rfl rfl rfl)<|vv rfl (aC (.bool (decide (0 ≤ r1))) rfl)<|aD ?_
 cases H
 exact aJ e77_4 (cD Try.results77 rfl ⟨h1,rfl,st1⟩)
theorem F47 (k : Nat) : S47 k := by
 intro p0 bD bE w0 h0 hh Rp0 r H
 unfold m47 at H
 refine aP (fn := Try.f47) Try.func47 rfl (Nat.le_of_ble_eq_true rfl) ?_
 show Run X47 [.code c47_0] (fun t => List.getD [.slice bD p0.length bE] t undef) w0 (.fn (Q47 w0 h0 r))
 have st0 := St.init hh noM
 refine aB e47_0<|aA e47_1<|vv rfl (aC (.bool false) rfl)<|aD<|aB e47_2<|aA e47_3<|vv rfl (aE (.slice bD p0.length bE) rfl) ?_
 obtain ⟨r1,hr1,H⟩ := aK H
 refine aU [.slice bD p0.length bE,.func (.func 78) #[] #[]] en77 rfl rfl rfl (F77 k st0.has Rp0 hr1) ?_
 rintro _ w1 ⟨h1,rfl,sp1⟩
 have st1 := st0.call0 sp1
 refine vv rfl (dV r1 4 rfl)<|vv rfl (aC (.bool (!r1)) rfl)<|aD ?_
 cases H
 exact aJ e47_4 (cD Try.results47 rfl ⟨h1,rfl,st1⟩)
abbrev ZSLl26_0 (k : Nat) : Prop := SLl26_0 k ∧ SLl26_1 k
theorem SLl26_0_z : SLl26_0 0 := by
  unfold SLl26_0; intros; rename_i H; exact absurd H (by simp [l26_0])
theorem SLl26_0_s (k : Nat) (ih : ZSLl26_0 k) : SLl26_0 (k + 1) := by
 intro p0 cW cR cX cS b1 j2 w0 w h0 h σ b2 xs1 r st s1 s3 s19 s20 s21 R1 R2 g2 hd1 H
 cases xs1 with
 | nil =>
  rw [l26_0] at H
  have hk1 := cU hd1
  refine aB e26_9<|aA e26_10<|vv rfl (aQ .lss .i64 (j2 : Int) (p0.D.length : Int) (.bool (decide ((j2 : Int) < (p0.D.length : Int)))) 3 3 s21 s20 rfl)<|aD<|aB e26_11<|fa e26_12 hk1 rfl<|bO e26_14 rfl<|aB e26_21<|aB e26_22<|aA e26_23 ?_
  refine vv rfl (aF (b := b1) (o := 0) fl25_1 s1)<|vv rfl (aN (.slice cR p0.S.length cS) sc23 rfl ((aR (st.has _ _ g2)).trans rfl))<|vv rfl (bK u23 rfl)<|vv rfl (aE (I 0) rfl)<|aD<|aT e26_24<|bZ e26_25 ?_
  exact ih.2 (j3 := 0) st s3 rfl rfl rfl R2 rfl H
 | cons x1 xs2 =>
  rw [l26_0] at H
  obtain ⟨hk2,hj1,hx1,hd2⟩ := cJ hd1
  refine aB e26_9<|aA e26_10<|vv rfl (aQ .lss .i64 (j2 : Int) (p0.D.length : Int) (.bool (decide ((j2 : Int) < (p0.D.length : Int)))) 3 3 s21 s20 rfl)<|aD<|aB e26_11<|tr e26_12 hk2 rfl<|aL e26_13<|aB e26_15<|aT e26_16<|aB e26_17 ?_
  refine aA e26_18 ?_
  obtain ⟨b6,o2,vs2,ea2,rp2,cl2⟩ := SlR.at R1 hx1
  obtain ⟨a4,c4,rfl,R8⟩ := GDecl.out rp2
  refine vv rfl (aY u22 sz45 s19 s21 ea2 (Int.natCast_nonneg _) (Int.ofNat_lt.2 hj1))<|vv rfl (bH [.string x1.Name,.slice a4 x1.Shape.length c4,.string x1.Form,I x1.Block] ag45 sz45 rfl rfl (cl2 _ (Has.le (Le.refl _) st.has)))<|cG (.agg #[.string ByteArray.empty,.slice none 0 0,.string ByteArray.empty,I 0]) zr45 rfl rfl (fun b7 w9 al3 => ?_)
  replace al3 : Al _ (.cells (List.toArray [.string ByteArray.empty,.slice none 0 0,.string ByteArray.empty,I 0]) 45 (0,0)) b7 w9 := al3
  have M3 := Mut.new st al3
  have lb2 := st.alB al3
  have sp7 := al3.st st.has
  have st10 := st.call0 sp7
  refine aV (o := 0) (n := 4) [.string x1.Name,.slice a4 x1.Shape.length c4,.string x1.Form,I x1.Block] [.string x1.Name,.slice a4 x1.Shape.length c4,.string x1.Form,I x1.Block] (.agg #[.string x1.Name,.slice a4 x1.Shape.length c4,.string x1.Form,I x1.Block]) sz45 rfl rfl rfl rfl M3 rfl rfl rfl rfl rfl (fun w10 wr2 M4 => ?_)
  have sp8 := wr2.st st10.has M3.none
  have st11 := st10.call sp8 (fun x e => (.inl (e ▸ lb2)))
  obtain ⟨h8,le5,g4,st12,kp2⟩ := M4.fz st11 lb2
  refine aD<|aA e26_19 ?_
  obtain ⟨j6,hj6,H⟩ := dH H
  have Jj6 : ∀ {y3 : Bool} {σ3 : Env} {w16 : World} {h14 : Sto},Le h8 h14 → St w0 noM h0 h14 w16 → σ3 1 = .pointer (some ⟨b1,0,none⟩) → σ3 3 = .bool y3 → σ3 19 = .slice cW p0.D.length cX → σ3 20 = I (p0.D.length : Int) → σ3 21 = I (j2 : Int) → SlR h14 cW cX p0.D → j6 y3 = some r → Run X26 [.inBlock 1,.code c26_20,.inLoop c26_9,.inBlock 0,.code c26_21] σ3 w16 (.fn (Q26 w0 h0 r)) := by
   intro y3 σ3 w16 h14 le7 st18 s1_j6 s3_j6 s19_j6 s20_j6 s21_j6 R10 H
   rw [hj6] at H
   refine aZ<|aA e26_20<|vv rfl (aQ .add .i64 (j2 : Int) 1 (I ((j2 + 1 : Nat) : Int)) 3 3 s21_j6 rfl (dL hj1 R10.mx))<|vv rfl (aE (I ((j2 + 1 : Nat) : Int)) rfl)<|aD<|bI ?_
   exact ih.1 (j2 := (j2 + 1)) st18 s1_j6 s3_j6 s19_j6 s20_j6 rfl (SlR.mono (le5.trans le7) R1) (SlR.mono (le5.trans le7) R2) ((le5.trans le7) _ _ g2) hd2 H
  refine vv rfl (aE (.bool b2) s3)<|vv rfl (aE (.bool b2) rfl) ?_
  rcases aM H with ⟨hc6,H⟩ | ⟨hc6,H⟩
  · refine bC (wt2 hc6 rfl) rfl (aF (b := b7) (o := 0) fl45_0 rfl)<|bC (wt2 hc6 rfl) rfl (aN (.string x1.Name) sc9 rfl ((aR (st12.has _ _ g4)).trans rfl)) ?_
    obtain ⟨r4,hr4,H⟩ := aK H
    refine aU [.string x1.Name] en46 (wt2 hc6 rfl) rfl rfl (F46 k st12.has hr4) ?_
    rintro _ w11 ⟨h9,rfl,sp9⟩
    have st13 := st12.call0 sp9
    refine vv rfl (dD (.bool r4) hc6 rfl rfl)<|vv rfl (aE (.bool r4) rfl) ?_
    rcases aM H with ⟨hc7,H⟩ | ⟨hc7,H⟩
    · refine bC (wt2 hc7 rfl) rfl (aF (b := b7) (o := 0) fl45_1 rfl)<|bC (wt2 hc7 rfl) rfl (aN (.slice a4 x1.Shape.length c4) sc43 rfl ((aR (st13.has _ _ (sp9.le _ _ g4))).trans rfl))<|bC (wt2 hc7 rfl) rfl (bK u43 rfl)<|bC (wt2 hc7 rfl) rfl (aQ .leq .i64 (x1.Shape.length : Int) 4 (.bool (decide ((x1.Shape.length : Int) ≤ 4))) 3 3 rfl rfl rfl)<|vv rfl (dD (.bool (decide ((x1.Shape.length : Int) ≤ 4))) hc7 rfl rfl)<|vv rfl (aE (.bool (decide ((x1.Shape.length : Int) ≤ 4))) rfl) ?_
      rcases aM H with ⟨hc8,H⟩ | ⟨hc8,H⟩
      · refine bC (wt2 (dT hc8) rfl) rfl (aF (b := b7) (o := 0) fl45_1 rfl)<|bC (wt2 (dT hc8) rfl) rfl (aN (.slice a4 x1.Shape.length c4) sc43 rfl ((aR (st13.has _ _ (sp9.le _ _ g4))).trans rfl)) ?_
        obtain ⟨r5,hr5,H⟩ := aK H
        refine aU [.slice a4 x1.Shape.length c4] en47 (wt2 (dT hc8) rfl) rfl rfl (F47 k st13.has (SlR.mono (le5.trans sp9.le) R8) hr5) ?_
        rintro _ w12 ⟨h10,rfl,sp10⟩
        have st14 := st13.call0 sp10
        refine vv rfl (dD (.bool r5) (dT hc8) rfl rfl)<|vv rfl (aE (.bool r5) rfl) ?_
        rcases aM H with ⟨hc9,H⟩ | ⟨hc9,H⟩
        · refine bC (wt2 hc9 rfl) rfl (aF (b := b7) (o := 0) fl45_3 rfl)<|bC (wt2 hc9 rfl) rfl (aN (I x1.Block) sc3 rfl ((aR (st14.has _ _ ((sp9.le.trans sp10.le) _ _ g4))).trans rfl))<|cF [I 0] [I x1.Block] [(0,I x1.Block)] u43 sz3 zr3 (wt2 hc9 rfl) rfl rfl rfl (by kernel_rfl) rfl (by kernel_rfl) (fun b8 w13 al4 => ?_)
          have li1 : Lits h10 [[I x1.Block]] ([x1.Block] : List Int) := (Lits.cons rfl Lits.nil)
          obtain ⟨h11,le6,g5,sp11⟩ := al4.fz st14.has
          have st15 := st14.call0 sp11
          have R9 : SlR _ _ _ ([x1.Block] : List Int) := Lits.sl (n := 1) (Lits.mono le6 li1) rfl rfl (by decide) g5
          obtain ⟨r6,hr6,H⟩ := aK H
          refine aU [.slice (some ⟨b8,0,none⟩) 1 1] en47 (wt2 hc9 rfl) rfl rfl (F47 k st15.has R9 hr6) ?_
          rintro _ w14 ⟨h12,rfl,sp12⟩
          have st16 := st15.call0 sp12
          refine vv rfl (dD (.bool r6) hc9 rfl rfl)<|vv rfl (aE (.bool r6) rfl) ?_
          rcases aM H with ⟨hc10,H⟩ | ⟨hc10,H⟩
          · refine bC (wt2 hc10 rfl) rfl (aF (b := b7) (o := 0) fl45_2 rfl)<|bC (wt2 hc10 rfl) rfl (aN (.string x1.Form) sc9 rfl ((aR (st16.has _ _ ((sp9.le.trans (sp10.le.trans (le6.trans sp12.le))) _ _ g4))).trans rfl)) ?_
            obtain ⟨r7,hr7,H⟩ := aK H
            refine aU [.string x1.Form] en48 (wt2 hc10 rfl) rfl rfl (F48 k st16.has hr7) ?_
            rintro _ w15 ⟨h13,rfl,sp13⟩
            have st17 := st16.call0 sp13
            refine vv rfl (dD (.bool r7) hc10 rfl rfl)<|vv rfl (aC (.bool r7) rfl)<|aD ?_
            exact Jj6 (sp9.le.trans (sp10.le.trans (le6.trans (sp12.le.trans sp13.le)))) st17 s1 rfl s19 s20 s21 (SlR.mono (le5.trans (sp9.le.trans (sp10.le.trans (le6.trans (sp12.le.trans sp13.le))))) R1) H
          refine aO (wf2 (bY hc10) rfl) rfl<|aO (wf2 (bY hc10) rfl) rfl<|aO (wf2 (bY hc10) rfl) rfl<|vv rfl (dE (.bool false) (bY hc10) rfl rfl)<|vv rfl (aC (.bool false) rfl)<|aD ?_
          exact Jj6 (sp9.le.trans (sp10.le.trans (le6.trans sp12.le))) st16 s1 rfl s19 s20 s21 (SlR.mono (le5.trans (sp9.le.trans (sp10.le.trans (le6.trans sp12.le)))) R1) H
        refine aO (wf2 (bY hc9) rfl) rfl<|aO (wf2 (bY hc9) rfl) rfl<|aO (wf2 (bY hc9) rfl) rfl<|aO (wf2 (bY hc9) rfl) rfl<|vv rfl (dE (.bool false) (bY hc9) rfl rfl)<|vv rfl (aE (.bool false) rfl)<|aO (wf (p := false) rfl rfl) rfl<|aO (wf (p := false) rfl rfl) rfl<|aO (wf (p := false) rfl rfl) rfl<|vv rfl (cA (.bool false) (p := false) rfl rfl rfl) ?_
        refine vv rfl (aC (.bool false) rfl)<|aD ?_
        exact Jj6 (sp9.le.trans sp10.le) st14 s1 rfl s19 s20 s21 (SlR.mono (le5.trans (sp9.le.trans sp10.le)) R1) H
      refine aO (wf2 (dF hc8) rfl) rfl<|aO (wf2 (dF hc8) rfl) rfl<|aO (wf2 (dF hc8) rfl) rfl<|vv rfl (dE (.bool false) (dF hc8) rfl rfl)<|vv rfl (aE (.bool false) rfl)<|aO (wf (p := false) rfl rfl) rfl<|aO (wf (p := false) rfl rfl) rfl<|aO (wf (p := false) rfl rfl) rfl<|aO (wf (p := false) rfl rfl) rfl<|vv rfl (cA (.bool false) (p := false) rfl rfl rfl) ?_
      refine vv rfl (aE (.bool false) rfl)<|aO (wf (p := false) rfl rfl) rfl<|aO (wf (p := false) rfl rfl) rfl<|aO (wf (p := false) rfl rfl) rfl<|vv rfl (cA (.bool false) (p := false) rfl rfl rfl)<|vv rfl (aC (.bool false) rfl)<|aD ?_
      exact Jj6 sp9.le st13 s1 rfl s19 s20 s21 (SlR.mono (le5.trans sp9.le) R1) H
    refine aO (wf2 (bY hc7) rfl) rfl<|aO (wf2 (bY hc7) rfl) rfl<|aO (wf2 (bY hc7) rfl) rfl<|aO (wf2 (bY hc7) rfl) rfl<|vv rfl (dE (.bool false) (bY hc7) rfl rfl)<|vv rfl (aE (.bool false) rfl)<|aO (wf (p := false) rfl rfl) rfl<|aO (wf (p := false) rfl rfl) rfl<|aO (wf (p := false) rfl rfl) rfl<|vv rfl (cA (.bool false) (p := false) rfl rfl rfl) ?_
    refine vv rfl (aE (.bool false) rfl)<|aO (wf (p := false) rfl rfl) rfl<|aO (wf (p := false) rfl rfl) rfl<|aO (wf (p := false) rfl rfl) rfl<|aO (wf (p := false) rfl rfl) rfl<|vv rfl (cA (.bool false) (p := false) rfl rfl rfl)<|vv rfl (aE (.bool false) rfl)<|aO (wf (p := false) rfl rfl) rfl<|aO (wf (p := false) rfl rfl) rfl<|aO (wf (p := false) rfl rfl) rfl ?_
    refine vv rfl (cA (.bool false) (p := false) rfl rfl rfl)<|vv rfl (aC (.bool false) rfl)<|aD ?_
    exact Jj6 sp9.le st13 s1 rfl s19 s20 s21 (SlR.mono (le5.trans sp9.le) R1) H
  refine aO (wf2 (bY hc6) rfl) rfl<|aO (wf2 (bY hc6) rfl) rfl<|aO (wf2 (bY hc6) rfl) rfl<|vv rfl (dE (.bool false) (bY hc6) rfl rfl)<|vv rfl (aE (.bool false) rfl)<|aO (wf (p := false) rfl rfl) rfl<|aO (wf (p := false) rfl rfl) rfl<|aO (wf (p := false) rfl rfl) rfl<|aO (wf (p := false) rfl rfl) rfl<|vv rfl (cA (.bool false) (p := false) rfl rfl rfl) ?_
  refine vv rfl (aE (.bool false) rfl)<|aO (wf (p := false) rfl rfl) rfl<|aO (wf (p := false) rfl rfl) rfl<|aO (wf (p := false) rfl rfl) rfl<|vv rfl (cA (.bool false) (p := false) rfl rfl rfl)<|vv rfl (aE (.bool false) rfl)<|aO (wf (p := false) rfl rfl) rfl<|aO (wf (p := false) rfl rfl) rfl<|aO (wf (p := false) rfl rfl) rfl<|aO (wf (p := false) rfl rfl) rfl ?_
  refine vv rfl (cA (.bool false) (p := false) rfl rfl rfl)<|vv rfl (aE (.bool false) rfl)<|aO (wf (p := false) rfl rfl) rfl<|aO (wf (p := false) rfl rfl) rfl<|aO (wf (p := false) rfl rfl) rfl<|vv rfl (cA (.bool false) (p := false) rfl rfl rfl)<|vv rfl (aC (.bool false) rfl)<|aD ?_
  exact Jj6 (Le.refl _) st12 s1 rfl s19 s20 s21 (SlR.mono le5 R1) H
theorem SLl26_1_z : SLl26_1 0 := by
  unfold SLl26_1; intros; rename_i H; exact absurd H (by simp [l26_1])
theorem SLl26_1_s (k : Nat) (ih : ZSLl26_0 k) : SLl26_1 (k + 1) := by
 intro p0 cR cS j3 w0 w h0 h σ b3 xs3 r st s3 s55 s56 s57 R3 hd3 H
 cases xs3 with
 | nil =>
  rw [l26_1] at H
  have hk3 := cU hd3
  refine aB e26_26<|aA e26_27<|vv rfl (aQ .lss .i64 (j3 : Int) (p0.S.length : Int) (.bool (decide ((j3 : Int) < (p0.S.length : Int)))) 3 3 s57 s56 rfl)<|aD<|aB e26_28<|fa e26_29 hk3 rfl<|bO e26_31 rfl<|aB e26_38<|aB e26_39<|aA e26_40 ?_
  refine vv rfl (aE (.bool b3) s3)<|vv rfl (dV b3 4 rfl)<|aD ?_
  rcases aM H with ⟨hc2,H⟩ | ⟨hc2,H⟩
  · refine fa e26_41 (bN hc2) rfl<|aL e26_45<|aB e26_46<|aA e26_47<|vv rfl (aC (I 0) rfl)<|aD ?_
    cases H
    exact aJ e26_48 (cD Try.results26 rfl ⟨h,rfl,st⟩)
  refine tr e26_41 (bQ (bY hc2)) rfl<|aB e26_42<|aA e26_43<|vv rfl (aC (I 1) rfl)<|aD ?_
  cases H
  exact aJ e26_44 (cD Try.results26 rfl ⟨h,rfl,st⟩)
 | cons x2 xs4 =>
  rw [l26_1] at H
  obtain ⟨hk4,hj2,hx2,hd4⟩ := cJ hd3
  refine aB e26_26<|aA e26_27<|vv rfl (aQ .lss .i64 (j3 : Int) (p0.S.length : Int) (.bool (decide ((j3 : Int) < (p0.S.length : Int)))) 3 3 s57 s56 rfl)<|aD<|aB e26_28<|tr e26_29 hk4 rfl<|aL e26_30<|aB e26_32<|aT e26_33<|aB e26_34 ?_
  refine aA e26_35 ?_
  obtain ⟨b4,o1,vs1,ea1,rp1,cl1⟩ := SlR.at R3 hx2
  obtain ⟨a1,c1,a2,c2,a3,c3,rfl,R4,R5,R6⟩ := GStmt.out rp1
  refine vv rfl (aY u23 sz33 s55 s57 ea1 (Int.natCast_nonneg _) (Int.ofNat_lt.2 hj2))<|vv rfl (bH [.string x2.Name,.slice a1 x2.Index.length c1,I x2.E.Op,I x2.E.N,.string x2.E.Name,.slice a2 x2.E.Index.length c2,.slice a3 x2.E.L.length c3] ag33 sz33 rfl rfl (cl1 _ (Has.le (Le.refl _) st.has)))<|cG (.agg #[.string ByteArray.empty,.slice none 0 0,I 0,I 0,.string ByteArray.empty,.slice none 0 0,.slice none 0 0]) zr33 rfl rfl (fun b5 w3 al2 => ?_)
  replace al2 : Al _ (.cells (List.toArray [.string ByteArray.empty,.slice none 0 0,I 0,I 0,.string ByteArray.empty,.slice none 0 0,.slice none 0 0]) 33 (0,0)) b5 w3 := al2
  have M1 := Mut.new st al2
  have lb1 := st.alB al2
  have sp2 := al2.st st.has
  have st3 := st.call0 sp2
  refine aV (o := 0) (n := 7) [.string x2.Name,.slice a1 x2.Index.length c1,I x2.E.Op,I x2.E.N,.string x2.E.Name,.slice a2 x2.E.Index.length c2,.slice a3 x2.E.L.length c3] [.string x2.Name,.slice a1 x2.Index.length c1,I x2.E.Op,I x2.E.N,.string x2.E.Name,.slice a2 x2.E.Index.length c2,.slice a3 x2.E.L.length c3] (.agg #[.string x2.Name,.slice a1 x2.Index.length c1,I x2.E.Op,I x2.E.N,.string x2.E.Name,.slice a2 x2.E.Index.length c2,.slice a3 x2.E.L.length c3]) sz33 rfl rfl rfl rfl M1 rfl rfl rfl rfl rfl (fun w4 wr1 M2 => ?_)
  have sp3 := wr1.st st3.has M1.none
  have st4 := st3.call sp3 (fun x e => (.inl (e ▸ lb1)))
  obtain ⟨h3,le3,g3,st5,kp1⟩ := M2.fz st4 lb1
  refine aD<|aA e26_36 ?_
  obtain ⟨j5,hj5,H⟩ := dH H
  have Jj5 : ∀ {y2 : Bool} {σ2 : Env} {w8 : World} {h7 : Sto},Le h3 h7 → St w0 noM h0 h7 w8 → σ2 3 = .bool y2 → σ2 55 = .slice cR p0.S.length cS → σ2 56 = I (p0.S.length : Int) → σ2 57 = I (j3 : Int) → SlR h7 cR cS p0.S → j5 y2 = some r → Run X26 [.inBlock 3,.code c26_37,.inLoop c26_26,.inBlock 2,.code c26_38] σ2 w8 (.fn (Q26 w0 h0 r)) := by
   intro y2 σ2 w8 h7 le4 st9 s3_j5 s55_j5 s56_j5 s57_j5 R7 H
   rw [hj5] at H
   refine aZ<|aA e26_37<|vv rfl (aQ .add .i64 (j3 : Int) 1 (I ((j3 + 1 : Nat) : Int)) 3 3 s57_j5 rfl (dL hj2 R7.mx))<|vv rfl (aE (I ((j3 + 1 : Nat) : Int)) rfl)<|aD<|bI ?_
   exact ih.2 (j3 := (j3 + 1)) st9 s3_j5 s55_j5 s56_j5 rfl R7 hd4 H
  refine vv rfl (aE (.bool b3) s3)<|vv rfl (aE (.bool b3) rfl) ?_
  rcases aM H with ⟨hc3,H⟩ | ⟨hc3,H⟩
  · refine bC (wt2 hc3 rfl) rfl (aF (b := b5) (o := 0) fl33_0 rfl)<|bC (wt2 hc3 rfl) rfl (aN (.string x2.Name) sc9 rfl ((aR (st5.has _ _ g3)).trans rfl)) ?_
    obtain ⟨r1,hr1,H⟩ := aK H
    refine aU [.string x2.Name] en46 (wt2 hc3 rfl) rfl rfl (F46 k st5.has hr1) ?_
    rintro _ w5 ⟨h4,rfl,sp4⟩
    have st6 := st5.call0 sp4
    refine vv rfl (dD (.bool r1) hc3 rfl rfl)<|vv rfl (aE (.bool r1) rfl) ?_
    rcases aM H with ⟨hc4,H⟩ | ⟨hc4,H⟩
    · refine bC (wt2 hc4 rfl) rfl (aF (b := b5) (o := 0) fl33_1 rfl)<|bC (wt2 hc4 rfl) rfl (aN (.slice a1 x2.Index.length c1) sc28 rfl ((aR (st6.has _ _ (sp4.le _ _ g3))).trans rfl)) ?_
      obtain ⟨r2,hr2,H⟩ := aK H
      refine aU [.slice a1 x2.Index.length c1] en49 (wt2 hc4 rfl) rfl rfl (F49 k st6.has (SlR.mono (le3.trans sp4.le) R4) hr2) ?_
      rintro _ w6 ⟨h5,rfl,sp5⟩
      have st7 := st6.call0 sp5
      refine vv rfl (dD (.bool r2) hc4 rfl rfl)<|vv rfl (aE (.bool r2) rfl) ?_
      rcases aM H with ⟨hc5,H⟩ | ⟨hc5,H⟩
      · refine bC (wt2 hc5 rfl) rfl (aF (b := b5) (o := 0) fl33_2 rfl)<|bC (wt2 hc5 rfl) rfl (bH [I x2.E.Op,I x2.E.N,.string x2.E.Name,.slice a2 x2.E.Index.length c2,.slice a3 x2.E.L.length c3] dX cP rfl rfl (bA (st7.has _ _ ((sp4.le.trans sp5.le) _ _ g3)) rfl)) ?_
        obtain ⟨r3,hr3,H⟩ := aK H
        refine aU [.agg #[I x2.E.Op,I x2.E.N,.string x2.E.Name,.slice a2 x2.E.Index.length c2,.slice a3 x2.E.L.length c3]] en21 (wt2 hc5 rfl) rfl rfl (F21 k (p0 := x2.E) st7.has (SlR.mono (le3.trans (sp4.le.trans sp5.le)) R5) (SlR.mono (le3.trans (sp4.le.trans sp5.le)) R6) hr3) ?_
        rintro _ w7 ⟨h6,rfl,sp6⟩
        have st8 := st7.call0 sp6
        refine vv rfl (dD (.bool r3) hc5 rfl rfl)<|vv rfl (aC (.bool r3) rfl)<|aD ?_
        exact Jj5 (sp4.le.trans (sp5.le.trans sp6.le)) st8 rfl s55 s56 s57 (SlR.mono (le3.trans (sp4.le.trans (sp5.le.trans sp6.le))) R3) H
      refine aO (wf2 (bY hc5) rfl) rfl<|aO (wf2 (bY hc5) rfl) rfl<|aO (wf2 (bY hc5) rfl) rfl<|vv rfl (dE (.bool false) (bY hc5) rfl rfl)<|vv rfl (aC (.bool false) rfl)<|aD ?_
      exact Jj5 (sp4.le.trans sp5.le) st7 rfl s55 s56 s57 (SlR.mono (le3.trans (sp4.le.trans sp5.le)) R3) H
    refine aO (wf2 (bY hc4) rfl) rfl<|aO (wf2 (bY hc4) rfl) rfl<|aO (wf2 (bY hc4) rfl) rfl<|vv rfl (dE (.bool false) (bY hc4) rfl rfl)<|vv rfl (aE (.bool false) rfl)<|aO (wf (p := false) rfl rfl) rfl<|aO (wf (p := false) rfl rfl) rfl<|aO (wf (p := false) rfl rfl) rfl<|vv rfl (cA (.bool false) (p := false) rfl rfl rfl)<|vv rfl (aC (.bool false) rfl) ?_
    refine aD ?_
    exact Jj5 sp4.le st6 rfl s55 s56 s57 (SlR.mono (le3.trans sp4.le) R3) H
  refine aO (wf2 (bY hc3) rfl) rfl<|aO (wf2 (bY hc3) rfl) rfl<|aO (wf2 (bY hc3) rfl) rfl<|vv rfl (dE (.bool false) (bY hc3) rfl rfl)<|vv rfl (aE (.bool false) rfl)<|aO (wf (p := false) rfl rfl) rfl<|aO (wf (p := false) rfl rfl) rfl<|aO (wf (p := false) rfl rfl) rfl<|vv rfl (cA (.bool false) (p := false) rfl rfl rfl)<|vv rfl (aE (.bool false) rfl) ?_
  refine aO (wf (p := false) rfl rfl) rfl<|aO (wf (p := false) rfl rfl) rfl<|aO (wf (p := false) rfl rfl) rfl<|vv rfl (cA (.bool false) (p := false) rfl rfl rfl)<|vv rfl (aC (.bool false) rfl)<|aD ?_
  exact Jj5 (Le.refl _) st5 rfl s55 s56 s57 (SlR.mono le3 R3) H
theorem ZSLl26_0_all : ∀ k,ZSLl26_0 k
  | 0 => ⟨SLl26_0_z,SLl26_1_z⟩
  | k + 1 => ⟨SLl26_0_s k (ZSLl26_0_all k),SLl26_1_s k (ZSLl26_0_all k)⟩
theorem Fl26_0 (k : Nat) : SLl26_0 k := (ZSLl26_0_all k).1
theorem F26 (k : Nat) : S26 k := by
 intro p0 cW cR cX cS w0 h0 hh Rp0_D Rp0_S r H
 unfold m26 at H
 refine aP (fn := Try.f26) Try.func26 rfl (Nat.le_of_ble_eq_true rfl) ?_
 show Run X26 [.code c26_0] (fun t => List.getD [.agg #[.slice cW p0.D.length cX,.slice cR p0.S.length cS]] t undef) w0 (.fn (Q26 w0 h0 r))
 have st0 := St.init hh noM
 refine aB e26_0<|aA e26_1<|dW (.agg #[.slice cW p0.D.length cX,.slice cR p0.S.length cS]) rfl rfl rfl (fun b1 w1 al1 => ?_)
 replace al1 : Al _ (.cells (List.toArray [.slice cW p0.D.length cX,.slice cR p0.S.length cS]) 25 (0,0)) b1 w1 := al1
 obtain ⟨h1,le1,g1,sp1⟩ := al1.fz st0.has
 have st1 := st0.call0 sp1
 refine vv rfl (aC (I 0) rfl)<|aD<|aB e26_2<|aA e26_3 ?_
 obtain ⟨j1,hj1,H⟩ := dH H
 have Jj1 : ∀ {y1 : Bool} {σ1 : Env} {w2 : World} {h2 : Sto},Le h1 h2 → St w0 noM h0 h2 w2 → σ1 1 = .pointer (some ⟨b1,0,none⟩) → σ1 3 = .bool y1 → j1 y1 = some r → Run X26 [.code c26_4] σ1 w2 (.fn (Q26 w0 h0 r)) := by
  intro y1 σ1 w2 h2 le2 st2 s1_j1 s3_j1 H
  rw [hj1] at H
  refine aB e26_4<|aB e26_5<|aA e26_6<|vv rfl (aF (b := b1) (o := 0) fl25_0 s1_j1)<|vv rfl (aN (.slice cW p0.D.length cX) sc22 rfl ((aR (st2.has _ _ (le2 _ _ g1))).trans rfl))<|vv rfl (bK u22 rfl)<|vv rfl (aE (I 0) rfl)<|aD<|aT e26_7<|bZ e26_8 ?_
  exact Fl26_0 k (j2 := 0) st2 s1_j1 s3_j1 rfl rfl rfl (SlR.mono (le1.trans le2) Rp0_D) (SlR.mono (le1.trans le2) Rp0_S) (le2 _ _ g1) rfl H
 refine vv rfl (aF (b := b1) (o := 0) fl25_0 rfl)<|vv rfl (aN (.slice cW p0.D.length cX) sc22 rfl ((aR (st1.has _ _ g1)).trans rfl))<|vv rfl (bK u22 rfl)<|vv rfl (aQ .leq .i64 (p0.D.length : Int) 32 (.bool (decide ((p0.D.length : Int) ≤ 32))) 3 3 rfl rfl rfl)<|vv rfl (aE (.bool (decide ((p0.D.length : Int) ≤ 32))) rfl) ?_
 rcases aM H with ⟨hc1,H⟩ | ⟨hc1,H⟩
 · refine bC (wt2 (dT hc1) rfl) rfl (aF (b := b1) (o := 0) fl25_1 rfl)<|bC (wt2 (dT hc1) rfl) rfl (aN (.slice cR p0.S.length cS) sc23 rfl ((aR (st1.has _ _ g1)).trans rfl))<|bC (wt2 (dT hc1) rfl) rfl (bK u23 rfl)<|bC (wt2 (dT hc1) rfl) rfl (aQ .leq .i64 (p0.S.length : Int) 32 (.bool (decide ((p0.S.length : Int) ≤ 32))) 3 3 rfl rfl rfl)<|vv rfl (dD (.bool (decide ((p0.S.length : Int) ≤ 32))) (dT hc1) rfl rfl)<|vv rfl (aC (.bool (decide ((p0.S.length : Int) ≤ 32))) rfl)<|aD ?_
   exact Jj1 (Le.refl _) st1 rfl rfl H
 refine aO (wf2 (dF hc1) rfl) rfl<|aO (wf2 (dF hc1) rfl) rfl<|aO (wf2 (dF hc1) rfl) rfl<|aO (wf2 (dF hc1) rfl) rfl<|vv rfl (dE (.bool false) (dF hc1) rfl rfl)<|vv rfl (aC (.bool false) rfl)<|aD ?_
 exact Jj1 (Le.refl _) st1 rfl rfl H
abbrev ZSLl50_0 (k : Nat) : Prop := SLl50_0 k
theorem SLl50_0_z : SLl50_0 0 := by
  unfold SLl50_0; intros; rename_i H; exact absurd H (by simp [l50_0])
theorem SLl50_0_s (k : Nat) (ih : ZSLl50_0 k) : SLl50_0 (k + 1) := by
 intro p0 bD bE j1 p1 w0 w h0 h σ xs1 r st s0 s1 s7 s8 R1 hd1 H
 cases xs1 with
 | nil =>
  rw [l50_0] at H
  have hk1 := cU hd1
  refine aB e50_7<|aA e50_8<|vv rfl (aQ .lss .i64 (j1 : Int) (p0.length : Int) (.bool (decide ((j1 : Int) < (p0.length : Int)))) 3 3 s8 s7 rfl)<|aD<|aB e50_9<|fa e50_10 hk1 rfl<|bO e50_12 rfl<|aB e50_25<|aA e50_26<|vv rfl (aC (I (-1)) rfl) ?_
  refine aD ?_
  cases H
  exact aJ e50_27 (cD Try.results50 rfl ⟨h,rfl,st⟩)
 | cons x1 xs2 =>
  rw [l50_0] at H
  obtain ⟨hk2,hj1,hx1,hd2⟩ := cJ hd1
  refine aB e50_7<|aA e50_8<|vv rfl (aQ .lss .i64 (j1 : Int) (p0.length : Int) (.bool (decide ((j1 : Int) < (p0.length : Int)))) 3 3 s8 s7 rfl)<|aD<|aB e50_9<|tr e50_10 hk2 rfl<|aL e50_11<|aB e50_13<|aT e50_14<|aB e50_15 ?_
  refine aA e50_16<|vv rfl (aE (I (j1 : Int)) s8)<|vv rfl (aC (I (j1 : Int)) rfl)<|aD<|aB e50_17<|aA e50_18<|vv rfl (aE (.string p1) s1)<|vv rfl (aE (.slice bD p0.length bE) s0)<|vv rfl (aE (I (j1 : Int)) rfl) ?_
  obtain ⟨b1,o1,vs1,ea1,rp1,cl1⟩ := SlR.at R1 hx1
  obtain rfl := rp1
  refine vv rfl (aY u28 sz9 rfl rfl ea1 (Int.natCast_nonneg _) (Int.ofNat_lt.2 hj1))<|vv rfl (aN (.string x1) sc9 rfl (((cl1 _ (Has.le (Le.refl _) st.has)) 0 (by decide)).trans rfl))<|vv rfl (x_strEq p1 x1 9 9 rfl rfl)<|aD ?_
  rcases aM H with ⟨hc1,H⟩ | ⟨hc1,H⟩
  · refine tr e50_19 (dT hc1) rfl<|aB e50_20<|aA e50_21<|vv rfl (aE (I (j1 : Int)) rfl)<|vv rfl (aC (I (j1 : Int)) rfl)<|aD ?_
    cases H
    exact aJ e50_22 (cD Try.results50 rfl ⟨h,rfl,st⟩)
  refine fa e50_19 (dF hc1) rfl<|aL e50_23<|aZ<|aA e50_24<|vv rfl (aQ .add .i64 (j1 : Int) 1 (I ((j1 + 1 : Nat) : Int)) 3 3 s8 rfl (dL hj1 R1.mx))<|vv rfl (aE (I ((j1 + 1 : Nat) : Int)) rfl)<|aD<|bI ?_
  exact ih (j1 := (j1 + 1)) st s0 s1 s7 rfl R1 hd2 H
theorem ZSLl50_0_all : ∀ k,ZSLl50_0 k
  | 0 => SLl50_0_z
  | k + 1 => SLl50_0_s k (ZSLl50_0_all k)
theorem Fl50_0 (k : Nat) : SLl50_0 k := (ZSLl50_0_all k)
theorem F50 (k : Nat) : S50 k := by
 intro p0 bD bE p1 w0 h0 hh Rp0 r H
 unfold m50 at H
 refine aP (fn := Try.f50) Try.func50 rfl (Nat.le_of_ble_eq_true rfl) ?_
 show Run X50 [.code c50_0] (fun t => List.getD [.slice bD p0.length bE,.string p1] t undef) w0 (.fn (Q50 w0 h0 r))
 have st0 := St.init hh noM
 refine aB e50_0<|aA e50_1<|vv rfl (aC (I 0) rfl)<|aD<|aB e50_2<|aB e50_3<|aA e50_4<|vv rfl (aE (.slice bD p0.length bE) rfl)<|vv rfl (bK u28 rfl)<|vv rfl (aE (I 0) rfl) ?_
 refine aD<|aT e50_5<|bZ e50_6 ?_
 exact Fl50_0 k (j1 := 0) st0 rfl rfl rfl rfl Rp0 rfl H
theorem F28 (k : Nat) : S28 k := by
 intro p0 bD bE p1 w0 h0 hh Rp0 r H
 unfold m28 at H
 refine aP (fn := Try.f28) Try.func28 rfl (Nat.le_of_ble_eq_true rfl) ?_
 show Run X28 [.code c28_0] (fun t => List.getD [.slice bD p0.length bE,.string p1] t undef) w0 (.fn (Q28 w0 h0 r))
 have st0 := St.init hh noM
 refine aB e28_0<|aA e28_1<|vv rfl (aC (.bool false) rfl)<|aD<|aB e28_2<|aA e28_3<|vv rfl (aE (.slice bD p0.length bE) rfl)<|vv rfl (aE (.string p1) rfl) ?_
 obtain ⟨r1,hr1,H⟩ := aK H
 refine aU [.slice bD p0.length bE,.string p1] en50 rfl rfl rfl (F50 k st0.has Rp0 hr1) ?_
 rintro _ w1 ⟨h1,rfl,sp1⟩
 have st1 := st0.call0 sp1
 refine vv rfl (aQ .geq .i64 r1 0 (.bool (decide (0 ≤ r1))) 3 3 rfl rfl rfl)<|vv rfl (aC (.bool (decide (0 ≤ r1))) rfl)<|aD ?_
 cases H
 exact aJ e28_4 (cD Try.results28 rfl ⟨h1,rfl,st1⟩)
theorem F60 : S60 := by
  intro p0 bD bE w0 h0 hh Rp0 r H
  obtain ⟨hs,H⟩ := cC H
  cases H
  refine aP (fn := Try.f60) Try.func60 rfl (Nat.le_of_ble_eq_true rfl) ?_
  show Run X60 [.code c60_0] (fun t => List.getD [.slice bD p0.length bE] t undef) w0 (.fn (Q60 w0 h0 p0))
  have st0 := St.init hh noM
  refine aB e60_0 ?_
  refine aA e60_1 ?_
  refine bC rfl rfl (aC (.slice none 0 0) rfl) ?_
  refine aD ?_
  refine aB e60_2 ?_
  refine aB e60_3 ?_
  refine aA e60_4 ?_
  refine bC rfl rfl (aE (.slice bD p0.length bE) rfl) ?_
  refine bC rfl rfl (x_slNil u28 rfl rfl) ?_
  refine aD ?_
  cases bD with
  | none =>
    have hz := Rp0.nil rfl
    have hl : p0 = [] := List.length_eq_zero_iff.1 (by have := Rp0.lc; omega)
    subst hl
    refine cZ e60_5 rfl rfl ?_
    refine aB e60_6 ?_
    refine aA e60_7 ?_
    refine bC rfl rfl (aC (.slice none 0 0) rfl) ?_
    refine aD ?_
    exact aJ e60_8 (cD Try.results60 rfl ⟨none,0,h0,rfl,st0,Own.nil _ _ _ _⟩)
  | some A =>
    refine dK e60_5 rfl rfl ?_
    refine aL e60_9 ?_
    refine aB e60_10 ?_
    refine aA e60_11 ?_
    refine rr_buildSlice0 u28 sz9 rfl rfl (fun b w1 al => ?_)
    have M := Mut.new st0 al
    have st1 := St.call0 st0 (al.st st0.has)
    have O : Own 9 w0.heap.size _ _ _ _ ([] : List ByteArray) := Lits.own (n := 0) (Lits.nil (h := h0)) rfl rfl (by decide) M (st0.alB al)
    refine bC rfl rfl (aE (.slice (some A) p0.length bE) rfl) ?_
    refine eF (α := ByteArray) (B := w0.heap.size) (l := ([] : List ByteArray)) (l2 := p0) u28 u28 ap9 rfl rfl rfl rfl st1.has st1.sp.size O Rp0 rfl rfl (by simpa using hs) (fun a c w2 O2 sp bl => ?_)
    refine bC rfl rfl (aC (.slice a p0.length c) rfl) ?_
    have st2 := St.call st1 sp (fun x e => .inl (Own.lbs O x e))
    refine aD ?_
    exact aJ e60_12 (cD Try.results60 rfl ⟨a,c,h0,rfl,st2,O2⟩)
abbrev ZS35 (k : Nat) : Prop := S35 k ∧ SLl35_0 k ∧ SLl35_1 k
theorem S35_z : S35 0 := by
  unfold S35; intros; rename_i H; exact absurd H (by simp [m35])
theorem S35_s (k : Nat) (ih : ZS35 k) : S35 (k + 1) := by
 intro p0 aG bF cM p2_a aH bG cN p2_c p2_B p1 p2 w0 h0 hh cB fB Rp1 hBp2 Op2 r H
 rw [m35] at H
 refine aP (fn := Try.f35) Try.func35 rfl (Nat.le_of_ble_eq_true rfl) ?_
 show Run X35 [.code c35_0] (fun t => List.getD [.agg #[I p0.Op,I p0.N,.string p0.Name,.slice aG p0.Index.length aH,.slice bF p0.L.length bG],.slice cM p1.length cN,.slice p2_a p2.length p2_c] t undef) w0 (.fn (Q35 w0 h0 p2_a p2_B r))
 have st0 := St.init hh (fun x => blk p2_a x)
 have rel1 : ∀ x,blk p2_a x → blk p2_a x ∨ w0.heap.size ≤ x := fun x hx => .inl hx
 refine aB e35_0<|aA e35_1<|dW (.agg #[I p0.Op,I p0.N,.string p0.Name,.slice aG p0.Index.length aH,.slice bF p0.L.length bG]) rfl rfl rfl (fun b1 w1 al1 => ?_)
 replace al1 : Al _ (.cells (List.toArray [I p0.Op,I p0.N,.string p0.Name,.slice aG p0.Index.length aH,.slice bF p0.L.length bG]) 31 (0,0)) b1 w1 := al1
 obtain ⟨h1,le1,g1,sp1⟩ := al1.fz st0.has
 have O1 := Op2.call0 sp1
 have st1 := st0.call0 sp1
 refine vv rfl (aC (.slice none 0 0) rfl)<|aD<|aB e35_2<|aB e35_3<|aA e35_4<|vv rfl (aF (b := b1) (o := 0) fl31_0 rfl)<|vv rfl (aN (I p0.Op) sc3 rfl ((aR (st1.has _ _ g1)).trans rfl))<|vv rfl (aQ .eql .i64 p0.Op 2 (.bool (decide (p0.Op = 2))) 3 3 rfl rfl rfl)<|aD ?_
 rcases aM H with ⟨hc1,H⟩ | ⟨hc1,H⟩
 · refine tr e35_5 (dT hc1) rfl<|aB e35_6<|aB e35_7<|aA e35_8<|vv rfl (aF (b := b1) (o := 0) fl31_3 rfl)<|vv rfl (aN (.slice aG p0.Index.length aH) sc28 rfl ((aR (st1.has _ _ g1)).trans rfl))<|vv rfl (bK u28 rfl)<|vv rfl (aE (I 0) rfl)<|aD<|aT e35_9 ?_
   refine bZ e35_10 ?_
   exact ih.2.1 (j2 := 0) st1 rfl rfl rfl rfl rfl (SlR.mono le1 Rp1) O1 rel1 hBp2 (SlR.mono le1 cB) rfl H
 refine fa e35_5 (dF hc1) rfl<|aL e35_30<|aB e35_31<|aB e35_32<|aA e35_33<|vv rfl (aF (b := b1) (o := 0) fl31_0 rfl)<|vv rfl (aN (I p0.Op) sc3 rfl ((aR (st1.has _ _ g1)).trans rfl))<|vv rfl (aQ .eql .i64 p0.Op 7 (.bool (decide (p0.Op = 7))) 3 3 rfl rfl rfl)<|aD ?_
 obtain ⟨j4,hj4,H⟩ := dH H
 have Jj4 : ∀ {y4 y5 : (List ByteArray)} {a6 a7 : OA} {c6 c7 : Nat} {σ3 : Env} {w9 : World} {h8 : Sto},Le h1 h8 → St w0 (fun x => blk p2_a x) h0 h8 w9 → σ3 1 = .slice a6 y4.length c6 → σ3 2 = .slice a7 y5.length c7 → σ3 3 = .pointer (some ⟨b1,0,none⟩) → SlR h8 a6 c6 y4 → Own 9 p2_B h8 w9 a7 c7 y5 → (∀ x,blk a7 x → blk p2_a x ∨ w0.heap.size ≤ x) → j4 y4 y5 = some r → Run X35 [.code c35_37] σ3 w9 (.fn (Q35 w0 h0 p2_a p2_B r)) := by
  intro y4 y5 a6 a7 c6 c7 σ3 w9 h8 le6 st9 s1_j4 s2_j4 s3_j4 R8 O12 rel6 H
  rw [hj4] at H
  refine aB e35_37<|aB e35_38<|aA e35_39<|vv rfl (aF (b := b1) (o := 0) fl31_4 s3_j4)<|vv rfl (aN (.slice bF p0.L.length bG) sc29 rfl ((aR (st9.has _ _ (le6 _ _ g1))).trans rfl))<|vv rfl (bK u29 rfl)<|vv rfl (aE (I 0) rfl)<|aD<|aT e35_40<|bZ e35_41 ?_
  exact ih.2.2 (j6 := 0) st9 s1_j4 s2_j4 rfl rfl rfl R8 O12 rel6 hBp2 (SlR.mono (le1.trans le6) fB) rfl H
 rcases aM H with ⟨hc4,H⟩ | ⟨hc4,H⟩
 · refine tr e35_34 (dT hc4) rfl ?_
   obtain ⟨j5,hj5,H⟩ := dH H
   have Jj5 : ∀ {y2 y3 : (List ByteArray)} {a4 a5 : OA} {c4 c5 : Nat} {σ2 : Env} {w8 : World} {h7 : Sto},Le h1 h7 → St w0 (fun x => blk p2_a x) h0 h7 w8 → σ2 1 = .slice a4 y2.length c4 → σ2 2 = .slice a5 y3.length c5 → σ2 3 = .pointer (some ⟨b1,0,none⟩) → Own 9 w0.heap.size h7 w8 a4 c4 y2 → Own 9 p2_B h7 w8 a5 c5 y3 → (∀ x,blk a5 x → blk p2_a x ∨ w0.heap.size ≤ x) → (∀ x,blk a4 x → ¬ blk a5 x) → j5 y2 y3 = some r → Run X35 [.code c35_37] σ2 w8 (.fn (Q35 w0 h0 p2_a p2_B r)) := by
    intro y2 y3 a4 a5 c4 c5 σ2 w8 h7 le5 st8 s1_j5 s2_j5 s3_j5 O9 O10 rel5 ne1 H
    rw [hj5] at H
    obtain ⟨h9,le7,st10,R7,kp2⟩ := O9.frz st8 (Nat.le_refl _)
    have O11 := O10.frB le7 kp2 (fun x hx h2 => ne1 x h2 hx)
    exact Jj4 (le5.trans le7) st10 s1_j5 s2_j5 s3_j5 R7 O11 rel5 H
   obtain ⟨rd1_1_1,hrd1_1_2,H⟩ := aK H
   obtain ⟨hsd1_5_1,H⟩ := cC H
   refine dY [[(0,false),(2,false),(3,false),(1,true),(4,true),(5,true),(6,true)],[(0,false),(2,false),(3,false),(4,true),(1,true),(5,true),(6,true)]] [1,4,5,6] [0,1,2,3,4,5,6] [0,1,2,3,4,5,6] (fun w_ => Has h1 w_ ∧ True) e35_35 k35_35 m35_35 (fun w7 al3 => ?_)
   have sp7 := al3.st st1.has
   have O8 := O1.call0 sp7
   have st7 := st1.call0 sp7
   refine ⟨⟨Has.le (Le.refl _) st7.has,trivial⟩,?_,?_,trivial⟩
   · refine bV rfl rfl (fun w_ ok_ => aE (.slice cM p1.length cN) rfl)<|bV rfl rfl (fun w_ ok_ => aF (b := b1) (o := 0) fl31_2 rfl)<|bV rfl rfl (fun w_ ok_ => aN (.string p0.Name) sc9 rfl ((aR (ok_.1 _ _ g1)).trans rfl)) ?_
     refine dr_c rfl (od_call [.slice cM p1.length cN] en60 rfl rfl (F60 st7.has (SlR.mono le1 Rp1) hrd1_1_2) ?_)
     rintro _ wd1_1_3 ⟨ad1_1_6,cd1_1_7,hd1_1_4,rfl,fD,Rd1_1_8⟩
     have Od1_1_9 := O8.call0 fD
     have std1_1_10 := st7.call0 fD
     have ned1_1_12 := Own.ne_new O8 Rd1_1_8
     have Od1_1_13 := Rd1_1_8.low st7.sp.size
     refine ⟨.inr ⟨Has.le fD.le std1_1_10.has,trivial⟩,?_⟩
     refine dr_c rfl (eJ [.string ByteArray.empty] [.string p0.Name] [(0,.string p0.Name)] u28 sz9 zr9 rfl rfl rfl (by kernel_rfl) rfl (by kernel_rfl) (fun fU wd1_4_2 ald1_4_3 => ?_))
     have lid1_4_8 : Lits hd1_1_4 [[.string p0.Name]] ([p0.Name] : List ByteArray) := (Lits.cons rfl Lits.nil)
     obtain ⟨hd1_4_4,dA,gd1_4_6,dO⟩ := ald1_4_3.fz std1_1_10.has
     have Od1_4_9 := Od1_1_9.call0 dO
     have Od1_4_10 := Od1_1_13.call0 dO
     have std1_4_11 := std1_1_10.call0 dO
     have Rd1_4_12 : SlR _ _ _ ([p0.Name] : List ByteArray) := Lits.sl (n := 1) (Lits.mono dA lid1_4_8) rfl rfl (by decide) gd1_4_6
     refine ⟨.inr ⟨Has.le (fD.le.trans dA) std1_4_11.has,trivial⟩,?_⟩
     refine dr_c rfl (od_append (α := ByteArray) (B := w0.heap.size) (l := rd1_1_1) (l2 := ([p0.Name] : List ByteArray)) u28 u28 ap9 rfl rfl rfl std1_4_11.has std1_4_11.sp.size Od1_4_10 Rd1_4_12 rfl rfl hsd1_5_1 (fun ad1_5_2 cd1_5_3 wd1_5_4 Od1_5_5 spd1_5_6 bld1_5_7 => ?_))
     have Od1_5_8 := Od1_4_9.call spd1_5_6 (fun x hx e => ((fun x hx h2 => ned1_1_12 x h2 hx) x hx e))
     have std1_5_9 := std1_4_11.call spd1_5_6 (fun x e => (.inl (Od1_4_10.lbs x e)))
     have ned1_5_11 : ∀ x,blk ad1_5_2 x → ¬ blk p2_a x := fun x hx => (bld1_5_7 x hx).elim (ned1_1_12 x) (fun q hb => absurd (Own.lts Od1_4_9 x hb) (by omega))
     refine ⟨.inr ⟨Has.le (fD.le.trans dA) std1_5_9.has,trivial⟩,?_⟩
     refine dr_c rfl (od_v rfl (aC (.slice ad1_5_2 ((rd1_1_1 ++ ([p0.Name] : List ByteArray)).length) cd1_5_3) rfl) ?_)
     refine ⟨.inl rfl,?_⟩
     refine eL ?_
     exact Jj5 (fD.le.trans dA) std1_5_9 rfl rfl rfl Od1_5_5 Od1_5_8 rel1 ned1_5_11 H
   refine bV rfl rfl (fun w_ ok_ => aE (.slice cM p1.length cN) rfl)<|bV rfl rfl (fun w_ ok_ => aF (b := b1) (o := 0) fl31_2 rfl)<|bV rfl rfl (fun w_ ok_ => aN (.string p0.Name) sc9 rfl ((aR (ok_.1 _ _ g1)).trans rfl))<|dr_c rfl (eJ [.string ByteArray.empty] [.string p0.Name] [(0,.string p0.Name)] u28 sz9 zr9 rfl rfl rfl (by kernel_rfl) rfl (by kernel_rfl) (fun fU wd1_4_2 ald1_4_3 => ?_))
   have lid1_4_8 : Lits h1 [[.string p0.Name]] ([p0.Name] : List ByteArray) := (Lits.cons rfl Lits.nil)
   obtain ⟨hd1_4_4,dA,gd1_4_6,dO⟩ := ald1_4_3.fz st7.has
   have Od1_4_9 := O8.call0 dO
   have std1_4_10 := st7.call0 dO
   have Rd1_4_11 : SlR _ _ _ ([p0.Name] : List ByteArray) := Lits.sl (n := 1) (Lits.mono dA lid1_4_8) rfl rfl (by decide) gd1_4_6
   refine ⟨.inr ⟨Has.le dA std1_4_10.has,trivial⟩,?_⟩
   refine dr_c rfl (od_call [.slice cM p1.length cN] en60 rfl rfl (F60 std1_4_10.has (SlR.mono (le1.trans dA) Rp1) hrd1_1_2) ?_)
   rintro _ wd1_1_3 ⟨ad1_1_6,cd1_1_7,hd1_1_4,rfl,fD,Rd1_1_8⟩
   have Od1_1_9 := Od1_4_9.call0 fD
   have std1_1_10 := std1_4_10.call0 fD
   have ned1_1_12 := Own.ne_new Od1_4_9 Rd1_1_8
   have Od1_1_13 := Rd1_1_8.low std1_4_10.sp.size
   refine ⟨.inr ⟨Has.le (dA.trans fD.le) std1_1_10.has,trivial⟩,?_⟩
   refine dr_c rfl (od_append (α := ByteArray) (B := w0.heap.size) (l := rd1_1_1) (l2 := ([p0.Name] : List ByteArray)) u28 u28 ap9 rfl rfl rfl std1_1_10.has std1_1_10.sp.size Od1_1_13 (SlR.mono fD.le Rd1_4_11) rfl rfl hsd1_5_1 (fun ad1_5_2 cd1_5_3 wd1_5_4 Od1_5_5 spd1_5_6 bld1_5_7 => ?_))
   have Od1_5_8 := Od1_1_9.call spd1_5_6 (fun x hx e => ((fun x hx h2 => ned1_1_12 x h2 hx) x hx e))
   have std1_5_9 := std1_1_10.call spd1_5_6 (fun x e => (.inl (Od1_1_13.lbs x e)))
   have ned1_5_11 : ∀ x,blk ad1_5_2 x → ¬ blk p2_a x := fun x hx => (bld1_5_7 x hx).elim (ned1_1_12 x) (fun q hb => absurd (Own.lts Od1_1_9 x hb) (by omega))
   refine ⟨.inr ⟨Has.le (dA.trans fD.le) std1_5_9.has,trivial⟩,?_⟩
   refine dr_c rfl (od_v rfl (aC (.slice ad1_5_2 ((rd1_1_1 ++ ([p0.Name] : List ByteArray)).length) cd1_5_3) rfl) ?_)
   refine ⟨.inl rfl,?_⟩
   refine eL ?_
   exact Jj5 (dA.trans fD.le) std1_5_9 rfl rfl rfl Od1_5_5 Od1_5_8 rel1 ned1_5_11 H
 refine fa e35_34 (dF hc4) rfl<|aL e35_36 ?_
 exact Jj4 (Le.refl _) st1 rfl rfl rfl (SlR.mono le1 Rp1) O1 rel1 H
theorem SLl35_0_z : SLl35_0 0 := by
  unfold SLl35_0; intros; rename_i H; exact absurd H (by simp [l35_0])
theorem SLl35_0_s (k : Nat) (ih : ZS35 k) : SLl35_0 (k + 1) := by
 intro p0 aG cM p2_a a1 aH cN p2_B c1 j2 p1 l1 w0 w h0 h σ xs1 r st s1 s2 s15 s16 s17 R1 O2 rel2 hBp2 R2 hd1 H
 cases xs1 with
 | nil =>
  rw [l35_0] at H
  have hk1 := cU hd1
  refine aB e35_11<|aA e35_12<|vv rfl (aQ .lss .i64 (j2 : Int) (p0.Index.length : Int) (.bool (decide ((j2 : Int) < (p0.Index.length : Int)))) 3 3 s17 s16 rfl)<|aD<|aB e35_13<|fa e35_14 hk1 rfl<|bO e35_16 rfl<|aB e35_27<|aA e35_28<|vv rfl (aE (.slice a1 l1.length c1) s2) ?_
  refine vv rfl (aC (.slice a1 l1.length c1) rfl)<|aD ?_
  cases H
  exact aJ e35_29 (cD Try.results35 rfl ⟨a1,c1,h,rfl,st,O2,rel2⟩)
 | cons x1 xs2 =>
  rw [l35_0] at H
  obtain ⟨hk2,hj1,hx1,hd2⟩ := cJ hd1
  refine aB e35_11<|aA e35_12<|vv rfl (aQ .lss .i64 (j2 : Int) (p0.Index.length : Int) (.bool (decide ((j2 : Int) < (p0.Index.length : Int)))) 3 3 s17 s16 rfl)<|aD<|aB e35_13<|tr e35_14 hk2 rfl<|aL e35_15<|aB e35_17<|aT e35_18<|aB e35_19 ?_
  refine aA e35_20 ?_
  obtain ⟨b2,o1,vs1,ea1,rp1,cl1⟩ := SlR.at R2 hx1
  obtain rfl := rp1
  refine vv rfl (aY u28 sz9 s15 s17 ea1 (Int.natCast_nonneg _) (Int.ofNat_lt.2 hj1))<|vv rfl (aN (.string x1) sc9 rfl (((cl1 _ (Has.le (Le.refl _) st.has)) 0 (by decide)).trans rfl))<|vv rfl (aC (.string x1) rfl)<|aD<|aB e35_21<|aA e35_22 ?_
  obtain ⟨j3,hj3,H⟩ := dH H
  have Jj3 : ∀ {y1 : (List ByteArray)} {a3 : OA} {c3 : Nat} {σ1 : Env} {w6 : World} {h6 : Sto},Le h h6 → St w0 (fun x => blk p2_a x) h0 h6 w6 → σ1 1 = .slice cM p1.length cN → σ1 2 = .slice a3 y1.length c3 → σ1 15 = .slice aG p0.Index.length aH → σ1 16 = I (p0.Index.length : Int) → σ1 17 = I (j2 : Int) → SlR h6 cM cN p1 → Own 9 p2_B h6 w6 a3 c3 y1 → (∀ x,blk a3 x → blk p2_a x ∨ w0.heap.size ≤ x) → SlR h6 aG aH p0.Index → j3 y1 = some r → Run X35 [.inBlock 1,.code c35_26,.inLoop c35_11,.inBlock 0,.code c35_27,.code c35_31] σ1 w6 (.fn (Q35 w0 h0 p2_a p2_B r)) := by
   intro y1 a3 c3 σ1 w6 h6 le4 st6 s1_j3 s2_j3 s15_j3 s16_j3 s17_j3 R5 O7 rel4 R6 H
   rw [hj3] at H
   refine aZ<|aA e35_26<|vv rfl (aQ .add .i64 (j2 : Int) 1 (I ((j2 + 1 : Nat) : Int)) 3 3 s17_j3 rfl (dL hj1 R6.mx))<|vv rfl (aE (I ((j2 + 1 : Nat) : Int)) rfl)<|aD<|bI ?_
   exact ih.2.1 (j2 := (j2 + 1)) st6 s1_j3 s2_j3 s15_j3 s16_j3 rfl R5 O7 rel4 hBp2 R6 hd2 H
  refine vv rfl (aE (.slice cM p1.length cN) s1)<|vv rfl (aE (.string x1) rfl) ?_
  obtain ⟨r1,hr1,H⟩ := aK H
  refine aU [.slice cM p1.length cN,.string x1] en28 rfl rfl rfl (F28 k st.has R1 hr1) ?_
  rintro _ w2 ⟨h2,rfl,sp2⟩
  have O3 := O2.call0 sp2
  have st2 := st.call0 sp2
  refine vv rfl (dV r1 4 rfl)<|vv rfl (aE (.bool (!r1)) rfl) ?_
  rcases aM H with ⟨hc2,H⟩ | ⟨hc2,H⟩
  · refine aO (wf2 (bN hc2) rfl) rfl<|aO (wf2 (bN hc2) rfl) rfl<|aO (wf2 (bN hc2) rfl) rfl<|aO (wf2 (bN hc2) rfl) rfl<|vv rfl (dE (.bool false) (bN hc2) rfl rfl)<|aD<|dK e35_23 (p := false) rfl rfl<|aL e35_25 ?_
    exact Jj3 sp2.le st2 s1 s2 s15 s16 s17 (SlR.mono sp2.le R1) O3 rel2 (SlR.mono sp2.le R2) H
  refine bC (wt2 (bQ (bY hc2)) rfl) rfl (aE (.slice a1 l1.length c1) s2)<|bC (wt2 (bQ (bY hc2)) rfl) rfl (aE (.string x1) rfl) ?_
  obtain ⟨h3,le2,R3,hh1,kp1⟩ := Own.lend O3 st2.has
  obtain ⟨r2,hr2,H⟩ := aK H
  refine aU [.slice a1 l1.length c1,.string x1] en28 (wt2 (bQ (bY hc2)) rfl) rfl rfl (F28 k hh1 R3 hr2) ?_
  rintro _ w3 ⟨h4,rfl,sp3⟩
  have sp4 := St.lend sp3 le2
  have O4 := O3.call0 sp4
  have st3 := st2.call0 sp4
  refine bC (wt2 (bQ (bY hc2)) rfl) rfl (dV r2 4 rfl)<|vv rfl (dD (.bool (!r2)) (bQ (bY hc2)) rfl rfl)<|aD ?_
  rcases aM H with ⟨hc3,H⟩ | ⟨hc3,H⟩
  · refine fa e35_23 (bN hc3) rfl<|aL e35_25 ?_
    exact Jj3 sp2.le st3 s1 s2 s15 s16 s17 (SlR.mono sp2.le R1) O4 rel2 (SlR.mono sp2.le R2) H
  refine tr e35_23 (bQ (bY hc3)) rfl<|aA e35_24<|vv rfl (aE (.slice a1 l1.length c1) s2)<|vv rfl (aE (.string x1) rfl)<|cF [.string ByteArray.empty] [.string x1] [(0,.string x1)] u28 sz9 zr9 rfl rfl rfl rfl (by kernel_rfl) rfl (by kernel_rfl) (fun b3 w4 al2 => ?_)
  have li1 : Lits h2 [[.string x1]] ([x1] : List ByteArray) := (Lits.cons rfl Lits.nil)
  obtain ⟨h5,le3,g2,sp5⟩ := al2.fz st3.has
  have O5 := O4.call0 sp5
  have st4 := st3.call0 sp5
  have R4 : SlR _ _ _ ([x1] : List ByteArray) := Lits.sl (n := 1) (Lits.mono le3 li1) rfl rfl (by decide) g2
  obtain ⟨hs1,H⟩ := cC H
  refine eF (α := ByteArray) (B := p2_B) (l := l1) (l2 := ([x1] : List ByteArray)) u28 u28 ap9 rfl rfl rfl rfl st4.has (Nat.le_trans hBp2 st4.sp.size) O5 R4 rfl rfl hs1 (fun a2 c2 w5 O6 sp6 bl1 => ?_)
  have st5 := st4.call sp6 (fun x e => ((rel2 x e).elim (fun e => .inr e) .inl))
  have rel3 : ∀ x,blk a2 x → blk p2_a x ∨ w0.heap.size ≤ x := fun x hx => (bl1 x hx).elim (rel2 x) (fun q => .inr (Nat.le_trans st4.sp.size q))
  refine vv rfl (aC (.slice a2 ((l1 ++ ([x1] : List ByteArray)).length) c2) rfl)<|aD ?_
  exact Jj3 (sp2.le.trans le3) st5 s1 rfl s15 s16 s17 (SlR.mono (sp2.le.trans le3) R1) O6 rel3 (SlR.mono (sp2.le.trans le3) R2) H
theorem SLl35_1_z : SLl35_1 0 := by
  unfold SLl35_1; intros; rename_i H; exact absurd H (by simp [l35_1])
theorem SLl35_1_s (k : Nat) (ih : ZS35 k) : SLl35_1 (k + 1) := by
 intro p0 bF p2_a a6 a8 bG p2_B c6 c8 j6 w0 w h0 h σ y4 l2 xs3 r st s1 s2 s47 s48 s49 R9 O13 rel7 hBp2 R10 hd3 H
 cases xs3 with
 | nil =>
  rw [l35_1] at H
  have hk3 := cU hd3
  refine aB e35_42<|aA e35_43<|vv rfl (aQ .lss .i64 (j6 : Int) (p0.L.length : Int) (.bool (decide ((j6 : Int) < (p0.L.length : Int)))) 3 3 s49 s48 rfl)<|aD<|aB e35_44<|fa e35_45 hk3 rfl<|bO e35_47 rfl<|aB e35_54<|aA e35_55<|vv rfl (aE (.slice a8 l2.length c8) s2) ?_
  refine vv rfl (aC (.slice a8 l2.length c8) rfl)<|aD ?_
  cases H
  exact aJ e35_56 (cD Try.results35 rfl ⟨a8,c8,h,rfl,st,O13,rel7⟩)
 | cons x2 xs4 =>
  rw [l35_1] at H
  obtain ⟨hk4,hj2,hx2,hd4⟩ := cJ hd3
  refine aB e35_42<|aA e35_43<|vv rfl (aQ .lss .i64 (j6 : Int) (p0.L.length : Int) (.bool (decide ((j6 : Int) < (p0.L.length : Int)))) 3 3 s49 s48 rfl)<|aD<|aB e35_44<|tr e35_45 hk4 rfl<|aL e35_46<|aB e35_48<|aT e35_49<|aB e35_50 ?_
  refine aA e35_51 ?_
  obtain ⟨b4,o2,vs2,ea2,rp2,cl2⟩ := SlR.at R10 hx2
  obtain ⟨a9,c9,a10,c10,rfl,R11,R12⟩ := GNode.out rp2
  refine vv rfl (aY u29 cP s47 s49 ea2 (Int.natCast_nonneg _) (Int.ofNat_lt.2 hj2))<|vv rfl (bH [I x2.Op,I x2.N,.string x2.Name,.slice a9 x2.Index.length c9,.slice a10 x2.L.length c10] dX cP rfl rfl (cl2 _ (Has.le (Le.refl _) st.has)))<|cG (.agg #[I 0,I 0,.string ByteArray.empty,.slice none 0 0,.slice none 0 0]) zr31 rfl rfl (fun b5 w10 al4 => ?_)
  replace al4 : Al _ (.cells (List.toArray [I 0,I 0,.string ByteArray.empty,.slice none 0 0,.slice none 0 0]) 31 (0,0)) b5 w10 := al4
  have M1 := Mut.new st al4
  have lb1 := st.alB al4
  have sp8 := al4.st st.has
  have O14 := O13.call0 sp8
  have st11 := st.call0 sp8
  refine aV (o := 0) (n := 5) [I x2.Op,I x2.N,.string x2.Name,.slice a9 x2.Index.length c9,.slice a10 x2.L.length c10] [I x2.Op,I x2.N,.string x2.Name,.slice a9 x2.Index.length c9,.slice a10 x2.L.length c10] (.agg #[I x2.Op,I x2.N,.string x2.Name,.slice a9 x2.Index.length c9,.slice a10 x2.L.length c10]) cP rfl rfl rfl rfl M1 rfl rfl rfl rfl rfl (fun w11 wr1 M2 => ?_)
  have sp9 := wr1.st st11.has M1.none
  have O15 := O14.call sp9 (fun x hx e => (absurd (e ▸ hx) (O14.ne_mut M1 (by decide))))
  have st12 := st11.call sp9 (fun x e => (.inl (e ▸ lb1)))
  obtain ⟨h10,le8,g3,st13,kp3⟩ := M2.fz st12 lb1
  have O16 := O15.fr le8 kp3 (O15.ne_mut M2 (by decide))
  refine aD<|aA e35_52<|vv rfl (bH [I x2.Op,I x2.N,.string x2.Name,.slice a9 x2.Index.length c9,.slice a10 x2.L.length c10] dX cP rfl rfl (bA (st13.has _ _ g3) rfl))<|vv rfl (aE (.slice a6 y4.length c6) s1)<|vv rfl (aE (.slice a8 l2.length c8) s2) ?_
  obtain ⟨r3,hr3,H⟩ := aK H
  refine aU [.agg #[I x2.Op,I x2.N,.string x2.Name,.slice a9 x2.Index.length c9,.slice a10 x2.L.length c10],.slice a6 y4.length c6,.slice a8 l2.length c8] en35 rfl rfl rfl (ih.1 (p0 := x2) st13.has (SlR.mono le8 R11) (SlR.mono le8 R12) (SlR.mono le8 R9) (Nat.le_trans hBp2 st13.sp.size) O16 hr3) ?_
  rintro _ w12 ⟨a11,c11,h11,rfl,sp10,R13,rl1⟩
  have st14 := st13.call sp10 (fun x e => ((rel7 x e).elim (fun e => .inr e) .inl))
  have rel8 : ∀ x,blk a11 x → blk p2_a x ∨ w0.heap.size ≤ x := fun x hx => (rl1 x hx).elim (rel7 x) (fun q => .inr (Nat.le_trans st13.sp.size q))
  refine vv rfl (aC (.slice a11 r3.length c11) rfl)<|aD<|aZ<|aA e35_53<|vv rfl (aQ .add .i64 (j6 : Int) 1 (I ((j6 + 1 : Nat) : Int)) 3 3 s49 rfl (dL hj2 (SlR.mono (le8.trans sp10.le) R10).mx))<|vv rfl (aE (I ((j6 + 1 : Nat) : Int)) rfl)<|aD<|bI ?_
  exact ih.2.2 (j6 := (j6 + 1)) st14 s1 rfl s47 s48 rfl (SlR.mono (le8.trans sp10.le) R9) R13 rel8 hBp2 (SlR.mono (le8.trans sp10.le) R10) hd4 H
theorem ZS35_all : ∀ k,ZS35 k
  | 0 => ⟨S35_z,SLl35_0_z,SLl35_1_z⟩
  | k + 1 => ⟨S35_s k (ZS35_all k),SLl35_0_s k (ZS35_all k),SLl35_1_s k (ZS35_all k)⟩
theorem F35 (k : Nat) : S35 k := (ZS35_all k).1
theorem F18 (k : Nat) : S18 k := by
 intro p0 aG bF aH bG w0 h0 hh cB fB r H
 unfold m18 at H
 refine aP (fn := Try.f18) Try.func18 rfl (Nat.le_of_ble_eq_true rfl) ?_
 show Run X18 [.code c18_0] (fun t => List.getD [.agg #[I p0.Op,I p0.N,.string p0.Name,.slice aG p0.Index.length aH,.slice bF p0.L.length bG]] t undef) w0 (.fn (Q18 w0 h0 r))
 have st0 := St.init hh noM
 refine aB e18_0<|aA e18_1<|dW (.agg #[I p0.Op,I p0.N,.string p0.Name,.slice aG p0.Index.length aH,.slice bF p0.L.length bG]) rfl rfl rfl (fun b1 w1 al1 => ?_)
 replace al1 : Al _ (.cells (List.toArray [I p0.Op,I p0.N,.string p0.Name,.slice aG p0.Index.length aH,.slice bF p0.L.length bG]) 31 (0,0)) b1 w1 := al1
 obtain ⟨h1,le1,g1,sp1⟩ := al1.fz st0.has
 have st1 := st0.call0 sp1
 refine vv rfl (aC (.slice none 0 0) rfl)<|aD<|aB e18_2<|aA e18_3<|vv rfl (bH [I p0.Op,I p0.N,.string p0.Name,.slice aG p0.Index.length aH,.slice bF p0.L.length bG] dX cP rfl rfl (bA (st1.has _ _ g1) rfl)) ?_
 obtain ⟨r1,hr1,H⟩ := aK H
 refine aU [.agg #[I p0.Op,I p0.N,.string p0.Name,.slice aG p0.Index.length aH,.slice bF p0.L.length bG],.slice none 0 0,.slice none 0 0] en35 rfl rfl rfl (F35 k (p0 := p0) st1.has (SlR.mono le1 cB) (SlR.mono le1 fB) (SlR.none _) st1.sp.size (Own.nil _ _ _ _) hr1) ?_
 rintro _ w2 ⟨a1,c1,h2,rfl,sp2,R1,rl1⟩
 have st2 := st1.call sp2 (fun x e => (.inl ((Own.nil (α := ByteArray) 9 w0.heap.size h1 w1).lbs x e)))
 refine vv rfl (aC (.slice a1 r1.length c1) rfl)<|aD ?_
 obtain ⟨h3,le2,st3,R2,kp1⟩ := R1.frz st2 (Nat.le_refl _)
 cases H
 exact aJ e18_4 (cD Try.results18 rfl ⟨a1,c1,h3,rfl,st3,R2⟩)
theorem F58 : S58 := by
  intro p0 bD bE w0 h0 hh Rp0 r H
  obtain ⟨hs,H⟩ := cC H
  cases H
  refine aP (fn := Try.f58) Try.func58 rfl (Nat.le_of_ble_eq_true rfl) ?_
  show Run X58 [.code c58_0] (fun t => List.getD [.slice bD p0.length bE] t undef) w0 (.fn (Q58 w0 h0 p0))
  have st0 := St.init hh noM
  refine aB e58_0 ?_
  refine aA e58_1 ?_
  refine bC rfl rfl (aC (.slice none 0 0) rfl) ?_
  refine aD ?_
  refine aB e58_2 ?_
  refine aB e58_3 ?_
  refine aA e58_4 ?_
  refine bC rfl rfl (aE (.slice bD p0.length bE) rfl) ?_
  refine bC rfl rfl (x_slNil u29 rfl rfl) ?_
  refine aD ?_
  cases bD with
  | none =>
    have hz := Rp0.nil rfl
    have hl : p0 = [] := List.length_eq_zero_iff.1 (by have := Rp0.lc; omega)
    subst hl
    refine cZ e58_5 rfl rfl ?_
    refine aB e58_6 ?_
    refine aA e58_7 ?_
    refine bC rfl rfl (aC (.slice none 0 0) rfl) ?_
    refine aD ?_
    exact aJ e58_8 (cD Try.results58 rfl ⟨none,0,h0,rfl,st0,Own.nil _ _ _ _⟩)
  | some A =>
    refine dK e58_5 rfl rfl ?_
    refine aL e58_9 ?_
    refine aB e58_10 ?_
    refine aA e58_11 ?_
    refine rr_buildSlice0 u29 cP rfl rfl (fun b w1 al => ?_)
    have M := Mut.new st0 al
    have st1 := St.call0 st0 (al.st st0.has)
    have O : Own 31 w0.heap.size _ _ _ _ ([] : List GNode) := Lits.own (n := 0) (Lits.nil (h := h0)) rfl rfl (by decide) M (st0.alB al)
    refine bC rfl rfl (aE (.slice (some A) p0.length bE) rfl) ?_
    refine eF (α := GNode) (B := w0.heap.size) (l := ([] : List GNode)) (l2 := p0) u29 u29 ap31 rfl rfl rfl rfl st1.has st1.sp.size O Rp0 rfl rfl (by simpa using hs) (fun a c w2 O2 sp bl => ?_)
    refine bC rfl rfl (aC (.slice a p0.length c) rfl) ?_
    have st2 := St.call st1 sp (fun x e => .inl (Own.lbs O x e))
    refine aD ?_
    exact aJ e58_12 (cD Try.results58 rfl ⟨a,c,h0,rfl,st2,O2⟩)
abbrev QB59 (w : World) (h : Sto) (a : Option Addr) (n c : Nat) : Value → World → Prop := fun v w' => ∃ (bx : Nat) (h' : Sto),v = .func (.func 85) #[] #[.pointer (some ⟨bx,0,none⟩)] ∧ St w noM h h' w' ∧ h' bx = some (.cells (List.toArray [.slice a n c]) 28 (0,0))
theorem B59 {h : Sto} {a : Option Addr} {c : Nat} {xs : List ByteArray} {w : World} (hh : Has h w) (_ : SlR h a c xs) : Calls Try.prog 59 (List.toArray [.slice a xs.length c]) w (Ret (QB59 w h a xs.length c)) := by
  refine aP (fn := Try.f59) Try.func59 rfl (Nat.le_of_ble_eq_true rfl) ?_
  show Run X59 [.code c59_0] (fun t => List.getD [.slice a xs.length c] t undef) w (.fn (QB59 w h a xs.length c))
  refine aB e59_0 ?_
  refine aA e59_1 ?_
  refine dW (.slice a xs.length c) rfl rfl rfl (fun b w1 al => ?_)
  obtain ⟨h1,le1,g1,sp1⟩ := al.fz hh
  refine bC rfl rfl (aC .nilFunc rfl) ?_
  refine aD ?_
  refine aB e59_2 ?_
  refine aA e59_3 ?_
  refine bC rfl rfl (eU (.func (.func 85) #[] #[.pointer (some ⟨b,0,none⟩)]) (mf rfl rfl)) ?_
  refine bC rfl rfl (aC (.func (.func 85) #[] #[.pointer (some ⟨b,0,none⟩)]) rfl) ?_
  refine aD ?_
  exact aJ e59_4 (cD Try.results59 rfl ⟨b,h1,rfl,sp1,g1⟩)
theorem B85 {h : Sto} {l bx c : Nat} {a : Option Addr} {xs : List ByteArray} {r : Loop} {Y : Fx} {J : Nat → World → Prop} {τ : Nat → ByteArray → Env} {w0 : World} (hbx : h bx = some (.cells (List.toArray [.slice a xs.length c]) 28 (0,0))) (hs : SlR h a c xs)
    (hp : r.params.size = 2) (hst : r.state = .ready) (hpen : r.pending = none) (hY : Y.ro = some l) (hYP : Y.P = Try.prog) (hτ : ∀ (j : Nat) (x : ByteArray),Sim Y.fn.ntmps Y.dfs (τ j x) { tmps := (r.params.zip (List.toArray [I (j : Int),.string x])).foldl (fun t (p,v) => t.setIfInBounds p v) r.tmps,defers := [] })
    (hI : ∀ j w,J j w → Has h w ∧ w.heap[l]? = some (.loop r)) (hb : ∀ (j : Nat) (x : ByteArray) (w : World),xs[j]? = some x → J (j + 1) w → Run Y [.code r.assign,.beginRound,.code r.body] (τ j x) w (.round fun w' => w'.heap[l]? = some (.loop { r with state := .busy }) ∧ J j (setO w' l (.loop r))))
    (h0 : J xs.length w0) : Calls Try.prog 85 (List.toArray [.func (.yield l) #[] #[],.pointer (some ⟨bx,0,none⟩)]) w0 (Ret fun _ w' => J 0 w') := by
  have key : ∀ (j : Nat),j ≤ xs.length → ∀ (σ : Env) (w : World),J j w → σ 0 = .func (.yield l) #[] #[] → σ 1 = .pointer (some ⟨bx,0,none⟩) → σ 3 = I ((j : Int) - 1) → Run X85 [.code c85_4,.inLoop c85_4,.inBlock 0] σ w (.fn fun _ w' => J 0 w') := by
    intro j
    induction j with
    | zero =>
      intro _ σ w hJ s0 s1 s3
      refine aB e85_4 ?_
      refine aB e85_5 ?_
      refine aA e85_6 ?_
      refine bC rfl rfl (aE (I (((0 : Nat) : Int) - 1)) s3) ?_
      refine bC rfl rfl (aQ .geq .i64 (((0 : Nat) : Int) - 1) 0 (.bool (decide ((0 : Int) ≤ (((0 : Nat) : Int) - 1)))) 3 3 rfl rfl rfl) ?_
      refine aD ?_
      refine dK e85_7 (p := (decide ((0 : Int) ≤ (((0 : Nat) : Int) - 1)))) rfl (by decide) ?_
      refine bO e85_9 rfl ?_
      exact run_end (res0 Try.results85 hJ)
    | succ j ih =>
      intro hj σ w hJ s0 s1 s3
      have ej : (((j + 1 : Nat) : Int) - 1) = (j : Int) := by omega
      rw [ej] at s3
      obtain ⟨x,hx⟩ : ∃ x,xs[j]? = some x := ⟨_,List.getElem?_eq_getElem (by omega)⟩
      obtain ⟨hh,hl⟩ := hI _ _ hJ
      obtain ⟨b,o,vs,ea,rp,clx⟩ := SlR.at hs hx
      obtain rfl := rp
      refine aB e85_4 ?_
      refine aB e85_5 ?_
      refine aA e85_6 ?_
      refine bC rfl rfl (aE (I (j : Int)) s3) ?_
      refine bC rfl rfl (aQ .geq .i64 (j : Int) 0 (.bool (decide ((0 : Int) ≤ (j : Int)))) 3 3 rfl rfl rfl) ?_
      refine aD ?_
      refine cZ e85_7 (p := (decide ((0 : Int) ≤ (j : Int)))) rfl (dT (by omega)) ?_
      refine aL e85_8 ?_
      refine aB e85_10 ?_
      refine aT e85_11 ?_
      refine aB e85_12 ?_
      refine aA e85_13 ?_
      refine bC rfl rfl (aE (.func (.yield l) #[] #[]) s0) ?_
      refine bC rfl rfl (aE (I (j : Int)) s3) ?_
      refine bC rfl rfl (aN (.slice a xs.length c) sc28 s1 ((aR (hh _ _ hbx)).trans rfl)) ?_
      refine bC rfl rfl (aE (I (j : Int)) s3) ?_
      refine bC rfl rfl (aY u28 sz9 rfl rfl ea (Int.natCast_nonneg _) (Int.ofNat_lt.2 hj)) ?_
      refine bC rfl rfl (aN (.string x) sc9 rfl ((clx _ hh 0 (by decide)).trans rfl)) ?_
      refine rr_yield (vs := [I (j : Int),.string x]) Y (τ j x) rfl rfl rfl rfl hl (by rw [hp]; rfl) hY hYP (hτ j x) (hb j x w hx hJ) ?_
      rintro w2 ⟨hb1,hJ2⟩
      refine ⟨hb1,?_⟩
      rw [loop_ready hst hpen]
      refine bC rfl rfl (dV true 4 rfl) ?_
      refine aD ?_
      refine dK e85_14 (p := !true) rfl rfl ?_
      refine aL e85_16 ?_
      refine aZ ?_
      refine aA e85_17 ?_
      refine bC rfl rfl (aE (I (j : Int)) s3) ?_
      refine bC rfl rfl (aQ .sub .i64 (j : Int) 1 (I ((j : Int) - 1)) 3 3 rfl rfl (dec_ok (by have : xs.length ≤ 140737488355328 := hs.mx; omega))) ?_
      refine bC rfl rfl (aC (I ((j : Int) - 1)) rfl) ?_
      refine aD ?_
      refine bI ?_
      exact ih (by omega) _ _ hJ2 s0 s1 rfl
  obtain ⟨hh,_⟩ := hI _ _ h0
  refine aP (fn := Try.f85) Try.func85 rfl (Nat.le_of_ble_eq_true rfl) ?_
  show Run X85 [.code c85_0] (fun t => List.getD [.func (.yield l) #[] #[],.pointer (some ⟨bx,0,none⟩)] t undef) w0 (.fn _)
  refine aB e85_0 ?_
  refine aA e85_1 ?_
  refine bC rfl rfl (aN (.slice a xs.length c) sc28 rfl ((aR (hh _ _ hbx)).trans rfl)) ?_
  refine bC rfl rfl (bK u28 rfl) ?_
  refine bC rfl rfl (aQ .sub .i64 (xs.length : Int) 1 (I ((xs.length : Int) - 1)) 3 3 rfl rfl (dec_ok (by have : xs.length ≤ 140737488355328 := hs.mx; omega))) ?_
  refine bC rfl rfl (aC (I ((xs.length : Int) - 1)) rfl) ?_
  refine aD ?_
  refine aT e85_2 ?_
  refine bZ e85_3 ?_
  exact key _ (Nat.le_refl _) _ _ h0 rfl rfl rfl
abbrev ZS34 (k : Nat) : Prop := S34 k ∧ SLl34_0 k ∧ SLl34_1 k ∧ SLl34_2 k
theorem S34_z : S34 0 := by
  unfold S34; intros; rename_i H; exact absurd H (by simp [m34])
theorem S34_s (k : Nat) (ih : ZS34 k) : S34 (k + 1) := by
 intro p0 aG bF cM aH bG cN p1 w0 h0 hh cB fB Rp1 r H
 rw [m34] at H
 refine aP (fn := Try.f34) Try.func34 rfl (Nat.le_of_ble_eq_true rfl) ?_
 show Run X34 [.code c34_0] (fun t => List.getD [.agg #[I p0.Op,I p0.N,.string p0.Name,.slice aG p0.Index.length aH,.slice bF p0.L.length bG],.slice cM p1.length cN] t undef) w0 (.fn (Q34 w0 h0 r))
 have st0 := St.init hh noM
 refine aB e34_0<|aA e34_1<|dW (.agg #[I p0.Op,I p0.N,.string p0.Name,.slice aG p0.Index.length aH,.slice bF p0.L.length bG]) rfl rfl rfl (fun b1 w1 al1 => ?_)
 replace al1 : Al _ (.cells (List.toArray [I p0.Op,I p0.N,.string p0.Name,.slice aG p0.Index.length aH,.slice bF p0.L.length bG]) 31 (0,0)) b1 w1 := al1
 have M1 := Mut.new st0 al1
 have lb1 := st0.alB al1
 have sp1 := al1.st st0.has
 have st1 := st0.call0 sp1
 refine dW (.slice cM p1.length cN) rfl rfl rfl (fun b2 w2 al2 => ?_)
 replace al2 : Al _ (.cells (List.toArray [.slice cM p1.length cN]) 28 (0,0)) b2 w2 := al2
 obtain ⟨h1,le1,g1,sp2⟩ := al2.fz st1.has
 have M2 := M1.call0 sp2
 have st2 := st1.call0 sp2
 refine cG (.agg #[I 0,I 0,.string ByteArray.empty,.slice none 0 0,.slice none 0 0]) zr31 rfl rfl (fun b3 w3 al3 => ?_)
 replace al3 : Al _ (.cells (List.toArray [I 0,I 0,.string ByteArray.empty,.slice none 0 0,.slice none 0 0]) 31 (0,0)) b3 w3 := al3
 have ne1 := M2.ne_al al3
 have M3 := Mut.new st2 al3
 have lb2 := st2.alB al3
 have sp3 := al3.st st2.has
 have M4 := M2.call0 sp3
 have st3 := st2.call0 sp3
 refine aD<|aB e34_2<|aB e34_3<|aA e34_4<|vv rfl (aF (b := b1) (o := 0) fl31_0 rfl)<|vv rfl (aN (I p0.Op) sc3 rfl ((aR M4.get).trans rfl))<|aD<|aT e34_5<|aB e34_6<|aB e34_7 ?_
 refine aA e34_8<|vv rfl (aQ .eql .i64 p0.Op 3 (.bool (decide (p0.Op = 3))) 3 3 rfl rfl rfl)<|vv rfl (aC (.bool (decide (p0.Op = 3))) rfl)<|aD ?_
 rcases aM H with ⟨hc1,H⟩ | ⟨hc1,H⟩
 · refine tr e34_9 (dT hc1) rfl<|aL e34_10<|tr e34_16 (dT hc1) rfl<|aB e34_17<|aA e34_18<|vv rfl (aF (b := b1) (o := 0) fl31_4 rfl)<|vv rfl (aN (.slice bF p0.L.length bG) sc29 rfl ((aR M4.get).trans rfl)) ?_
   obtain ⟨r1,hr1,H⟩ := aK H
   refine aU [.slice bF p0.L.length bG] en58 rfl rfl rfl (F58 st3.has (SlR.mono le1 fB) hr1) ?_
   rintro _ w4 ⟨a1,c1,h2,rfl,sp4,R1⟩
   have M5 := M4.call0 sp4
   have M6 := M3.call0 sp4
   have st4 := st3.call0 sp4
   have ne2 : ¬ blk a1 b1 := fun hx => absurd (Mut.lt M4) (by have := Own.lbs R1 _ hx; omega)
   have ne3 : ¬ blk a1 b3 := fun hx => absurd (Mut.lt M3) (by have := Own.lbs R1 _ hx; omega)
   have O1 := R1.low st3.sp.size
   refine vv rfl (aC (.slice a1 r1.length c1) rfl)<|aD<|aB e34_19<|aB e34_20<|aA e34_21<|vv rfl (aE (.slice a1 r1.length c1) rfl)<|vv rfl (bK u29 rfl)<|vv rfl (aE (I 0) rfl)<|aD<|aT e34_22 ?_
   refine bZ e34_23 ?_
   exact ih.2.1 st4 rfl rfl rfl rfl rfl rfl (SlR.mono (le1.trans sp4.le) cB) (SlR.mono (le1.trans sp4.le) fB) M5 lb1 (SlR.mono (le1.trans sp4.le) Rp1) (sp4.le _ _ g1) M6 lb2 O1 ne2 ne3 ne1 H
 refine fa e34_9 (dF hc1) rfl<|aB e34_11<|aA e34_12<|vv rfl (aQ .eql .i64 p0.Op 4 (.bool (decide (p0.Op = 4))) 3 3 rfl rfl rfl)<|vv rfl (aC (.bool (decide (p0.Op = 4))) rfl)<|aD ?_
 rcases aM H with ⟨hc3,H⟩ | ⟨hc3,H⟩
 · refine tr e34_13 (dT hc3) rfl<|aL e34_14<|tr e34_16 (dT hc3) rfl<|aB e34_17<|aA e34_18<|vv rfl (aF (b := b1) (o := 0) fl31_4 rfl)<|vv rfl (aN (.slice bF p0.L.length bG) sc29 rfl ((aR M4.get).trans rfl)) ?_
   obtain ⟨r2,hr2,H⟩ := aK H
   refine aU [.slice bF p0.L.length bG] en58 rfl rfl rfl (F58 st3.has (SlR.mono le1 fB) hr2) ?_
   rintro _ w7 ⟨a3,c3,h4,rfl,sp7,R6⟩
   have M15 := M4.call0 sp7
   have M16 := M3.call0 sp7
   have st8 := st3.call0 sp7
   have ne7 : ¬ blk a3 b1 := fun hx => absurd (Mut.lt M4) (by have := Own.lbs R6 _ hx; omega)
   have ne8 : ¬ blk a3 b3 := fun hx => absurd (Mut.lt M3) (by have := Own.lbs R6 _ hx; omega)
   have O5 := R6.low st3.sp.size
   refine vv rfl (aC (.slice a3 r2.length c3) rfl)<|aD<|aB e34_19<|aB e34_20<|aA e34_21<|vv rfl (aE (.slice a3 r2.length c3) rfl)<|vv rfl (bK u29 rfl)<|vv rfl (aE (I 0) rfl)<|aD<|aT e34_22 ?_
   refine bZ e34_23 ?_
   exact ih.2.2.1 st8 rfl rfl rfl rfl rfl rfl (SlR.mono (le1.trans sp7.le) cB) (SlR.mono (le1.trans sp7.le) fB) M15 lb1 (SlR.mono (le1.trans sp7.le) Rp1) (sp7.le _ _ g1) M16 lb2 O5 ne7 ne8 ne1 H
 refine fa e34_13 (dF hc3) rfl<|aA e34_15<|vv rfl (aQ .eql .i64 p0.Op 6 (.bool (decide (p0.Op = 6))) 3 3 rfl rfl rfl)<|vv rfl (aC (.bool (decide (p0.Op = 6))) rfl)<|aD ?_
 rcases aM H with ⟨hc5,H⟩ | ⟨hc5,H⟩
 · refine tr e34_16 (dT hc5) rfl<|aB e34_17<|aA e34_18<|vv rfl (aF (b := b1) (o := 0) fl31_4 rfl)<|vv rfl (aN (.slice bF p0.L.length bG) sc29 rfl ((aR M4.get).trans rfl)) ?_
   obtain ⟨r3,hr3,H⟩ := aK H
   refine aU [.slice bF p0.L.length bG] en58 rfl rfl rfl (F58 st3.has (SlR.mono le1 fB) hr3) ?_
   rintro _ w10 ⟨a5,c5,h6,rfl,sp10,R11⟩
   have M25 := M4.call0 sp10
   have M26 := M3.call0 sp10
   have st12 := st3.call0 sp10
   have ne12 : ¬ blk a5 b1 := fun hx => absurd (Mut.lt M4) (by have := Own.lbs R11 _ hx; omega)
   have ne13 : ¬ blk a5 b3 := fun hx => absurd (Mut.lt M3) (by have := Own.lbs R11 _ hx; omega)
   have O9 := R11.low st3.sp.size
   refine vv rfl (aC (.slice a5 r3.length c5) rfl)<|aD<|aB e34_19<|aB e34_20<|aA e34_21<|vv rfl (aE (.slice a5 r3.length c5) rfl)<|vv rfl (bK u29 rfl)<|vv rfl (aE (I 0) rfl)<|aD<|aT e34_22 ?_
   refine bZ e34_23 ?_
   exact ih.2.2.2 st12 rfl rfl rfl rfl rfl rfl (SlR.mono (le1.trans sp10.le) cB) (SlR.mono (le1.trans sp10.le) fB) M25 lb1 (SlR.mono (le1.trans sp10.le) Rp1) (sp10.le _ _ g1) M26 lb2 O9 ne12 ne13 ne1 H
 refine fa e34_16 (dF hc5) rfl<|aL e34_39<|aZ<|aB e34_40<|aB e34_41<|aA e34_42<|vv rfl (bH [I p0.Op,I p0.N,.string p0.Name,.slice aG p0.Index.length aH,.slice bF p0.L.length bG] dX cP rfl rfl (bA M4.get rfl)) ?_
 obtain ⟨r4,hr4,H⟩ := aK H
 refine aU [.agg #[I p0.Op,I p0.N,.string p0.Name,.slice aG p0.Index.length aH,.slice bF p0.L.length bG]] en18 rfl rfl rfl (F18 k (p0 := p0) st3.has (SlR.mono le1 cB) (SlR.mono le1 fB) hr4) ?_
 rintro _ w13 ⟨a7,c7,h8,rfl,sp13,R16⟩
 have M35 := M4.call0 sp13
 have M36 := M3.call0 sp13
 have st16 := st3.call0 sp13
 refine aU [.slice a7 r4.length c7] en59 rfl rfl rfl (B59 (xs := r4) st16.has R16) ?_
 rintro _ w14 ⟨b4,h9,rfl,sp14,g5⟩
 have M37 := M35.call0 sp14
 have M38 := M36.call0 sp14
 have st17 := st16.call0 sp14
 refine aD<|aT e34_43 ?_
 obtain ⟨s1,hf1,H⟩ := aK H
 refine run_range e34_44 rfl rfl rfl en85 (fun fn1 tm1 D1 l4 w15 w16 hsim1 al7 al8 => ?_)
 have M39 := Mut.new st17 al7
 have lb9 := st17.alB al7
 have sp15 := al7.st st17.has
 have M40 := M37.call0 sp15
 have M41 := M38.call0 sp15
 have st18 := st17.call0 sp15
 have M42 := Mut.new st18 al8
 have lb10 := st18.alB al8
 have sp16 := al8.st st18.has
 have M43 := M40.call0 sp16
 have M44 := M41.call0 sp16
 have M45 := M39.call0 sp16
 have st19 := st18.call0 sp16
 obtain ⟨J1,hJ1⟩ : ∃ J : Nat → World → Prop,J = fun j6 w17 => ∃ (s2 : Int × Int × ByteArray × (List ByteArray) × (List GNode)) (h10 : Sto) (a8 : OA) (c8 : Nat) (a9 : OA) (c9 : Nat),foldO (fun (s4 : Int × Int × ByteArray × (List ByteArray) × (List GNode)) (x1 : ByteArray) => (m28 k p1 x1).bind fun r5 => jn (fun (y1 : Int) (y2 : Int) (y3 : ByteArray) (y4 : (List ByteArray)) (y5 : (List GNode)) => some (y1,y2,y3,y4,y5)) fun j9 => if r5 = true then (j9 s4.1 s4.2.1 s4.2.2.1 s4.2.2.2.1 s4.2.2.2.2) else (j9 7 0 x1 ([] : (List ByteArray)) ([(⟨s4.1,s4.2.1,s4.2.2.1,s4.2.2.2.1,s4.2.2.2.2⟩ : GNode)] : List GNode))) s2 ((r4.take j6).reverse) = some s1 ∧ Le h9 h10 ∧ St w0 noM h0 h10 w17 ∧ SlR h10 a8 c8 s2.2.2.2.1 ∧ SlR h10 a9 c9 s2.2.2.2.2 ∧ Mut h10 w17 b1 (.cells (List.toArray [I s2.1,I s2.2.1,.string s2.2.2.1,.slice a8 s2.2.2.2.1.length c8,.slice a9 s2.2.2.2.2.length c9]) 31 (0,0)) ∧ Mut h10 w17 b3 (.cells (List.toArray [I 0,I 0,.string ByteArray.empty,.slice none 0 0,.slice none 0 0]) 31 (0,0)) ∧ Mut h10 w17 D1 (.deferred (some [])) ∧ Mut h10 w17 l4 (.loop { state := .ready,pending := none,fn := fn1,tmps := tm1,params := #[40,41],assign := c34_45,body := c34_46,defers := D1 }) := ⟨_,rfl⟩
 refine ⟨fun _ w_ => J1 0 w_,B85 (h := h9) (r := { state := .ready,pending := none,fn := fn1,tmps := tm1,params := #[40,41],assign := c34_45,body := c34_46,defers := D1 }) (Y := XR X34 l4) (J := J1) (xs := r4) g5 (SlR.mono sp14.le R16) rfl rfl rfl rfl rfl (fun j x => sim_round hsim1 (I (j : Int)) (.string x) rfl rfl) ?_ ?_ ?_,?_⟩
 · intro j7 w18 hj1
   rw [hJ1] at hj1
   obtain ⟨s3,h11,a10,c10,a11,c11,_,le6,st21,R19,R20,M50,M51,M52,M53⟩ := hj1
   exact ⟨Has.le le6 st21.has,M53.get⟩
 · intro j8 x1 w19 hx1 hj2
   rw [hJ1] at hj2
   obtain ⟨s4,h12,a12,c12,a13,c13,hf2,le7,st22,R21,R22,M54,M55,M56,M57⟩ := hj2
   clear H
   obtain ⟨s5,H,hf3⟩ := foldO_step hx1 hf2
   try dsimp only at H
   refine aA e34_45<|vv rfl (aC (.string x1) rfl)<|aD<|run_beginRound rfl M57.get rfl ?_
   have wr4 := setO_wr (o' := .loop { state := .busy,pending := none,fn := fn1,tmps := tm1,params := #[40,41],assign := c34_45,body := c34_46,defers := D1 }) M57.get
   have sp17 := wr4.st st22.has M57.none
   have M58 : Mut _ _ l4 _ := ⟨M57.none,wr4.new⟩
   have M59 := M54.call sp17 (fun e => ((Mut.ne_obj M54 M57 (by intro e; cases e)) e))
   have M60 := M55.call sp17 (fun e => ((Mut.ne_obj M55 M57 (by intro e; cases e)) e))
   have M61 := M56.call sp17 (fun e => ((Mut.ne_obj M56 M57 (by intro e; cases e)) e))
   have st23 := st22.call sp17 (fun x e => (.inl (e ▸ lb10)))
   refine aT e34_46<|aB e34_47<|aA e34_48<|vv rfl (aN (.slice cM p1.length cN) sc28 rfl ((aR (st23.has _ _ ((sp13.le.trans (sp14.le.trans le7)) _ _ g1))).trans rfl))<|vv rfl (aE (.string x1) rfl) ?_
   obtain ⟨r5,hr5,H⟩ := aK H
   refine aU [.slice cM p1.length cN,.string x1] en28 rfl rfl rfl (F28 k st23.has (SlR.mono (le1.trans (sp13.le.trans (sp14.le.trans le7))) Rp1) hr5) ?_
   rintro _ w20 ⟨h13,rfl,sp18⟩
   have M62 := M59.call0 sp18
   have M63 := M60.call0 sp18
   have M64 := M61.call0 sp18
   have M65 := M58.call0 sp18
   have st24 := st23.call0 sp18
   refine vv rfl (dV r5 4 rfl)<|aD ?_
   obtain ⟨j9,hj9,H⟩ := dH H
   have Jj9 : ∀ {y1 y2 : Int} {y3 : ByteArray} {y4 : (List ByteArray)} {y5 : (List GNode)} {a14 a15 : OA} {c14 c15 : Nat} {σ1 : Env} {w23 : World} {h15 : Sto},Le h13 h15 → St w0 noM h0 h15 w23 → σ1 4 = .pointer (some ⟨b3,0,none⟩) → SlR h15 a14 c14 y4 → SlR h15 a15 c15 y5 → Mut h15 w23 b1 (.cells (List.toArray [I y1,I y2,.string y3,.slice a14 y4.length c14,.slice a15 y5.length c15]) 31 (0,0)) → Mut h15 w23 b3 (.cells (List.toArray [I 0,I 0,.string ByteArray.empty,.slice none 0 0,.slice none 0 0]) 31 (0,0)) → Mut h15 w23 D1 (.deferred (some [])) → Mut h15 w23 l4 (.loop { state := .busy,pending := none,fn := fn1,tmps := tm1,params := #[40,41],assign := c34_45,body := c34_46,defers := D1 }) → b1 ≠ b3 → j9 y1 y2 y3 y4 y5 = some s5 → Run (XR X34 l4) [.inBlock 4] σ1 w23 (.round fun w' => w'.heap[l4]? = some (.loop { state := .busy,pending := none,fn := fn1,tmps := tm1,params := #[40,41],assign := c34_45,body := c34_46,defers := D1 }) ∧ J1 j8 (setO w' l4 (.loop { state := .ready,pending := none,fn := fn1,tmps := tm1,params := #[40,41],assign := c34_45,body := c34_46,defers := D1 }))) := by
    intro y1 y2 y3 y4 y5 a14 a15 c14 c15 σ1 w23 h15 le9 st27 s4_j9 R24 R25 M74 M75 M76 M77 ne17 H
    rw [hj9] at H
    refine aZ ?_
    refine run_round ⟨M77.get,?_⟩
    have wr6 := setO_wr (o' := .loop { state := .ready,pending := none,fn := fn1,tmps := tm1,params := #[40,41],assign := c34_45,body := c34_46,defers := D1 }) M77.get
    have sp21 := wr6.st st27.has M77.none
    have M78 : Mut _ _ l4 _ := ⟨M77.none,wr6.new⟩
    have M79 := M74.call sp21 (fun e => ((Mut.ne_obj M74 M77 (by intro e; cases e)) e))
    have M80 := M75.call sp21 (fun e => ((Mut.ne_obj M75 M77 (by intro e; cases e)) e))
    have M81 := M76.call sp21 (fun e => ((Mut.ne_obj M76 M77 (by intro e; cases e)) e))
    have st28 := st27.call sp21 (fun x e => (.inl (e ▸ lb10)))
    cases H
    rw [hJ1]
    exact ⟨_,h15,a14,c14,a15,c15,hf3,(le7.trans (sp18.le.trans le9)),st28,R24,R25,M79,M80,M81,M78⟩
   rcases aM H with ⟨hc7,H⟩ | ⟨hc7,H⟩
   · refine fa e34_49 (bN hc7) rfl<|aL e34_51 ?_
     exact Jj9 (Le.refl _) st24 rfl (SlR.mono sp18.le R21) (SlR.mono sp18.le R22) M62 M63 M64 M65 ne1 H
   refine tr e34_49 (bQ (bY hc7)) rfl<|aA e34_50<|vv rfl (aE (.string x1) rfl)<|vv rfl (bH [I s4.1,I s4.2.1,.string s4.2.2.1,.slice a12 s4.2.2.2.1.length c12,.slice a13 s4.2.2.2.2.length c13] dX cP rfl rfl (bA M62.get rfl))<|cF [I 0,I 0,.string ByteArray.empty,.slice none 0 0,.slice none 0 0] [I s4.1,I s4.2.1,.string s4.2.2.1,.slice a12 s4.2.2.2.1.length c12,.slice a13 s4.2.2.2.2.length c13] [(0,.agg #[I s4.1,I s4.2.1,.string s4.2.2.1,.slice a12 s4.2.2.2.1.length c12,.slice a13 s4.2.2.2.2.length c13])] u29 cP zr31 rfl rfl rfl rfl (by kernel_rfl) rfl (by kernel_rfl) (fun b5 w21 al9 => ?_)
   have li1 : Lits h13 [[I s4.1,I s4.2.1,.string s4.2.2.1,.slice a12 s4.2.2.2.1.length c12,.slice a13 s4.2.2.2.2.length c13]] ([(⟨s4.1,s4.2.1,s4.2.2.1,s4.2.2.2.1,s4.2.2.2.2⟩ : GNode)] : List GNode) := (Lits.cons (GNode.into (h := h13) (x := (⟨s4.1,s4.2.1,s4.2.2.1,s4.2.2.2.1,s4.2.2.2.2⟩ : GNode)) (SlR.mono sp18.le R21) (SlR.mono sp18.le R22)) Lits.nil)
   obtain ⟨h14,le8,g6,sp19⟩ := al9.fz st24.has
   have M66 := M62.call0 sp19
   have M67 := M63.call0 sp19
   have M68 := M64.call0 sp19
   have M69 := M65.call0 sp19
   have st25 := st24.call0 sp19
   have R23 : SlR _ _ _ ([(⟨s4.1,s4.2.1,s4.2.2.1,s4.2.2.2.1,s4.2.2.2.2⟩ : GNode)] : List GNode) := Lits.sl (n := 1) (Lits.mono le8 li1) rfl rfl (by decide) g6
   refine vv rfl (dJ (vs := [I 7,I 0,.string x1,.slice none 0 0,.slice (some ⟨b5,0,none⟩) 1 1]) [(0,I 7),(2,.string x1),(4,.slice (some ⟨b5,0,none⟩) 1 1)] bd31 rfl rfl)<|aV (o := 0) (n := 5) [I 7,I 0,.string x1,.slice none 0 0,.slice (some ⟨b5,0,none⟩) 1 1] [I 7,I 0,.string x1,.slice none 0 0,.slice (some ⟨b5,0,none⟩) 1 1] (.agg #[I 7,I 0,.string x1,.slice none 0 0,.slice (some ⟨b5,0,none⟩) 1 1]) cP rfl rfl rfl rfl M66 rfl rfl rfl rfl rfl (fun w22 wr5 M70 => ?_)
   have sp20 := wr5.st st25.has M66.none
   have M71 := M67.call sp20 (fun e => ((Ne.symm ne1) e))
   have M72 := M68.call sp20 (fun e => ((Mut.ne_obj M68 M66 (by intro e; cases e)) e))
   have M73 := M69.call sp20 (fun e => ((Mut.ne_obj M69 M66 (by intro e; cases e)) e))
   have st26 := st25.call sp20 (fun x e => (.inl (e ▸ lb1)))
   refine aD ?_
   exact Jj9 le8 st26 rfl (SlR.none _) R23 M70 M71 M72 M73 ne1 H
 · rw [hJ1]
   exact ⟨(p0.Op,p0.N,p0.Name,p0.Index,p0.L),h9,aG,aH,bF,bG,by rw [List.take_length]; exact hf1,(Le.refl _),st19,(SlR.mono (le1.trans (sp13.le.trans sp14.le)) cB),(SlR.mono (le1.trans (sp13.le.trans sp14.le)) fB),M43,M44,M45,M42⟩
 rintro _ w24 hj3
 try dsimp only at hj3
 rw [hJ1] at hj3
 obtain ⟨s6,h16,a16,c16,a17,c17,hf4,le10,st29,R26,R27,M82,M83,M84,M85⟩ := hj3
 have es1 : s1 = s6 := (Option.some.inj hf4).symm
 subst es1
 refine ⟨_,M85.get,rfl,rfl,?_⟩
 have wr7 := setO_wr (o' := .loop { state := .exhausted,pending := none,fn := fn1,tmps := tm1,params := #[40,41],assign := c34_45,body := c34_46,defers := D1 }) M85.get
 have sp22 := wr7.st st29.has M85.none
 have M86 : Mut _ _ l4 _ := ⟨M85.none,wr7.new⟩
 have M87 := M82.call sp22 (fun e => ((Mut.ne_obj M82 M85 (by intro e; cases e)) e))
 have M88 := M83.call sp22 (fun e => ((Mut.ne_obj M83 M85 (by intro e; cases e)) e))
 have M89 := M84.call sp22 (fun e => ((Mut.ne_obj M84 M85 (by intro e; cases e)) e))
 have st30 := st29.call sp22 (fun x e => (.inl (e ▸ lb10)))
 refine aZ<|aB e34_52<|aA e34_53<|vv rfl (bH [I s1.1,I s1.2.1,.string s1.2.2.1,.slice a16 s1.2.2.2.1.length c16,.slice a17 s1.2.2.2.2.length c17] dX cP rfl rfl (bA M87.get rfl))<|aV (o := 0) (n := 5) [I s1.1,I s1.2.1,.string s1.2.2.1,.slice a16 s1.2.2.2.1.length c16,.slice a17 s1.2.2.2.2.length c17] [I s1.1,I s1.2.1,.string s1.2.2.1,.slice a16 s1.2.2.2.1.length c16,.slice a17 s1.2.2.2.2.length c17] (.agg #[I s1.1,I s1.2.1,.string s1.2.2.1,.slice a16 s1.2.2.2.1.length c16,.slice a17 s1.2.2.2.2.length c17]) cP rfl rfl rfl rfl M88 rfl rfl rfl rfl rfl (fun w25 wr8 M90 => ?_)
 have sp23 := wr8.st st30.has M88.none
 have M91 := M87.call sp23 (fun e => (ne1 e))
 have M92 := M89.call sp23 (fun e => ((Mut.ne_obj M89 M88 (by intro e; cases e)) e))
 have M93 := M86.call sp23 (fun e => ((Mut.ne_obj M86 M88 (by intro e; cases e)) e))
 have st31 := st30.call sp23 (fun x e => (.inl (e ▸ lb2)))
 refine aD ?_
 have wr9 := setO_wr (o' := .deferred none) M92.get
 have sp24 := wr9.st st31.has M92.none
 have M94 := M91.call sp24 (fun e => ((Mut.ne_obj M91 M92 (by intro e; cases e)) e))
 have M95 := M90.call sp24 (fun e => ((Mut.ne_obj M90 M92 (by intro e; cases e)) e))
 have M96 := M93.call sp24 (fun e => ((Mut.ne_obj M93 M92 (by intro e; cases e)) e))
 have st32 := st31.call sp24 (fun x e => (.inl (e ▸ lb9)))
 cases H
 exact run_retD e34_54 M92.get (cD Try.results34 (eH [I s1.1,I s1.2.1,.string s1.2.2.1,.slice a16 s1.2.2.2.1.length c16,.slice a17 s1.2.2.2.2.length c17] dX cP rfl rfl (bA M95.get rfl)) ⟨a16,c16,a17,c17,h16,rfl,st32,R26,R27⟩)
theorem SLl34_0_z : SLl34_0 0 := by
  unfold SLl34_0; intros; rename_i H; exact absurd H (by simp [l34_0])
theorem SLl34_0_s (k : Nat) (ih : ZS34 k) : SLl34_0 (k + 1) := by
 intro p0 aG bF cM a2 aH bG cN b1 b2 b3 c2 p1 w0 w h0 h r1 l1 σ i1 r st s2 s3 s4 s5 s19 s20 R2 R3 M7 lb3 R4 g2 M8 lb4 O2 ne4 ne5 ne6 H
 rw [l34_0] at H
 refine aB e34_24<|aA e34_25<|vv rfl (aQ .lss .i64 i1 (r1.length : Int) (.bool (decide (i1 < (r1.length : Int)))) 3 3 s20 s19 rfl)<|aD<|aB e34_26 ?_
 rcases aM H with ⟨hc2,H⟩ | ⟨hc2,H⟩
 · refine tr e34_27 (dT hc2) rfl<|aL e34_28<|aB e34_30<|aT e34_31<|aB e34_32<|aA e34_33<|vv rfl (aE (I i1) s20)<|vv rfl (aC (I i1) rfl)<|aD ?_
   refine dY [[(0,false),(1,false),(2,false),(3,false),(4,false),(5,false),(6,false),(7,true),(8,false),(9,true)]] [7,9] [0,1,2,3,4,5,6,7,8,9] [0,1,2,3,4,5,6,7,8,9] (fun w_ => Has h w_ ∧ (∀ x,blk a2 x → w_.heap[x]? = w.heap[x]?) ∧ True) e34_34 k34_34 m34_34 (fun w6 al4 => ?_)
   have sp6 := al4.st st.has
   have M13 := M7.call0 sp6
   have M14 := M8.call0 sp6
   have O4 := O2.call0 sp6
   have st7 := st.call0 sp6
   refine ⟨⟨Has.le (Le.refl _) st7.has,(fun x hx => (Al0.st al4 st.has).sp.keep x (Own.lts O2 x hx) (fun e => e)),trivial⟩,?_,trivial⟩
   refine bV rfl rfl (fun w_ ok_ => aE (.slice a2 l1.length c2) s5)<|bV rfl rfl (fun w_ ok_ => aE (I i1) rfl)<|bV rfl rfl (fun w_ ok_ => aE (.slice a2 l1.length c2) s5)<|bV rfl rfl (fun w_ ok_ => aE (I i1) rfl) ?_
   obtain ⟨eM,hxd1_4_2,H⟩ := aK H
   have hid1_4_3 := dB hxd1_4_2
   obtain ⟨bd1_4_4,habd1_4_5⟩ := Own.adr O4 hid1_4_3.2.2
   refine bV rfl rfl (fun w_ ok_ => aY u29 cP rfl rfl habd1_4_5 hid1_4_3.1 hid1_4_3.2.1) ?_
   obtain ⟨vsd1_5_1,rpd1_5_2,hld1_5_3,cld1_5_4⟩ := Own.cell O2 habd1_4_5 hid1_4_3.2.2
   obtain ⟨ad1_5_5,cd1_5_6,ad1_5_8,cd1_5_9,rfl,Rd1_5_7,Rd1_5_10⟩ := GNode.out rpd1_5_2
   refine bV rfl rfl (fun w_ ok_ => bH [I eM.Op,I eM.N,.string eM.Name,.slice ad1_5_5 eM.Index.length cd1_5_6,.slice ad1_5_8 eM.L.length cd1_5_9] dX cP rfl rfl (fun i hi => (cell_keep (ok_.2.1 _ (blk_of habd1_4_5))).trans (cld1_5_4 i hi)))<|bV rfl rfl (fun w_ ok_ => aN (.slice cM p1.length cN) sc28 s3 ((aR (ok_.1 _ _ g2)).trans rfl)) ?_
   obtain ⟨fG,hrd1_7_2,H⟩ := aK H
   refine dr_c rfl (od_call [.agg #[I eM.Op,I eM.N,.string eM.Name,.slice ad1_5_5 eM.Index.length cd1_5_6,.slice ad1_5_8 eM.L.length cd1_5_9],.slice cM p1.length cN] en34 rfl rfl (ih.1 (p0 := eM) st7.has Rd1_5_7 Rd1_5_10 R4 hrd1_7_2) ?_)
   rintro _ wd1_7_3 ⟨ad1_7_6,cd1_7_7,ad1_7_9,cd1_7_10,hd1_7_4,rfl,spd1_7_5,Rd1_7_8,Rd1_7_11⟩
   have Md1_7_12 := M13.call0 spd1_7_5
   have Md1_7_13 := M14.call0 spd1_7_5
   have Od1_7_14 := O4.call0 spd1_7_5
   have kod1_7_15 := fun x (hx : blk a2 x) => (spd1_7_5.sp.keep x (Own.lts O4 x hx) (fun e => e)).trans ((fun x hx => (Al0.st al4 st.has).sp.keep x (Own.lts O2 x hx) (fun e => e)) x hx)
   have std1_7_16 := st7.call0 spd1_7_5
   refine ⟨.inr ⟨Has.le spd1_7_5.le std1_7_16.has,kod1_7_15,trivial⟩,?_⟩
   obtain ⟨eB,hxd1_8_2,H⟩ := aK H
   have hid1_8_3 := dB hxd1_8_2
   obtain ⟨bd1_8_4,habd1_8_5⟩ := Own.adr Od1_7_14 hid1_8_3.2.2
   refine bV rfl rfl (fun w_ ok_ => aY u29 cP rfl rfl habd1_8_5 hid1_8_3.1 hid1_8_3.2.1) ?_
   obtain ⟨vsd1_9_1,rpd1_9_2,hld1_9_3,cld1_9_4⟩ := Own.cell Od1_7_14 habd1_8_5 hid1_8_3.2.2
   obtain ⟨ad1_9_9,cd1_9_10,ad1_9_12,cd1_9_13,rfl,Rd1_9_11,Rd1_9_14⟩ := GNode.out rpd1_9_2
   refine dr_c rfl (od_storeOwn (off := 0) (n := 5) (us := [I fG.Op,I fG.N,.string fG.Name,.slice ad1_7_6 fG.Index.length cd1_7_7,.slice ad1_7_9 fG.L.length cd1_7_10]) (vs := [I eB.Op,I eB.N,.string eB.Name,.slice ad1_9_9 eB.Index.length cd1_9_10,.slice ad1_9_12 eB.L.length cd1_9_13]) (y := fG) (.agg #[I fG.Op,I fG.N,.string fG.Name,.slice ad1_7_6 fG.Index.length cd1_7_7,.slice ad1_7_9 fG.L.length cd1_7_10]) cP rfl rfl rfl Od1_7_14 habd1_8_5 hid1_8_3.2.2 rfl cld1_9_4 rfl rfl rfl (by decide) std1_7_16.has (GNode.into (h := hd1_7_4) (x := fG) Rd1_7_8 Rd1_7_11) (fun wd1_9_5 Od1_9_6 spd1_9_7 => ?_))
   have Md1_9_15 := Md1_7_12.call spd1_9_7 (fun e => (ne4 e))
   have Md1_9_16 := Md1_7_13.call spd1_9_7 (fun e => (ne5 e))
   have std1_9_17 := std1_7_16.call spd1_9_7 (fun x e => (.inl (Od1_7_14.lbs x e)))
   have hlend1_9_8 := set_len l1 ((i1 : Int).toNat) fG
   refine ⟨.inl rfl,?_⟩
   refine eL<|aZ<|aA e34_35<|vv rfl (aQ .add .i64 i1 1 (I (wr (i1 + 1))) 3 3 s20 rfl rfl)<|vv rfl (aE (I (wr (i1 + 1))) rfl)<|aD<|bI ?_
   exact ih.2.1 std1_9_17 s2 s3 s4 (Eq.trans s5 (sl_len hlend1_9_8)) s19 rfl (SlR.mono spd1_7_5.le R2) (SlR.mono spd1_7_5.le R3) Md1_9_15 lb3 (SlR.mono spd1_7_5.le R4) (spd1_7_5.le _ _ g2) Md1_9_16 lb4 Od1_9_6 ne4 ne5 ne6 H
 refine fa e34_27 (dF hc2) rfl<|bO e34_29 rfl<|aB e34_36<|aA e34_37<|vv rfl (aF (b := b1) (o := 0) fl31_0 s2)<|vv rfl (aN (I p0.Op) sc3 rfl ((aR M7.get).trans rfl))<|vv rfl (aE (.slice a2 l1.length c2) s5)<|vv rfl (dJ (vs := [I p0.Op,I 0,.string ByteArray.empty,.slice none 0 0,.slice a2 l1.length c2]) [(0,I p0.Op),(4,.slice a2 l1.length c2)] bd31 rfl rfl)<|aV (o := 0) (n := 5) [I p0.Op,I 0,.string ByteArray.empty,.slice none 0 0,.slice a2 l1.length c2] [I p0.Op,I 0,.string ByteArray.empty,.slice none 0 0,.slice a2 l1.length c2] (.agg #[I p0.Op,I 0,.string ByteArray.empty,.slice none 0 0,.slice a2 l1.length c2]) cP rfl rfl s4 rfl M8 rfl rfl rfl rfl rfl (fun w5 wr1 M9 => ?_)
 have sp5 := wr1.st st.has M8.none
 have M10 := M7.call sp5 (fun e => (ne6 e))
 have O3 := O2.call sp5 (fun x hx e => (absurd (e ▸ hx) ne5))
 have st5 := st.call sp5 (fun x e => (.inl (e ▸ lb4)))
 refine aD ?_
 obtain ⟨h3,le2,st6,R5,kp1⟩ := O3.frz st5 (Nat.le_refl _)
 have M11 := M10.frB kp1 ne4
 have M12 := M9.frB kp1 ne5
 cases H
 exact aJ e34_38 (cD Try.results34 (eH [I p0.Op,I 0,.string ByteArray.empty,.slice none 0 0,.slice a2 l1.length c2] dX cP s4 rfl (bA M12.get rfl)) ⟨none,0,a2,c2,h3,rfl,st6,(SlR.none _),R5⟩)
theorem SLl34_1_z : SLl34_1 0 := by
  unfold SLl34_1; intros; rename_i H; exact absurd H (by simp [l34_1])
theorem SLl34_1_s (k : Nat) (ih : ZS34 k) : SLl34_1 (k + 1) := by
 intro p0 aG bF cM a4 aH bG cN b1 b2 b3 c4 p1 w0 w h0 h σ r2 l2 i2 r st s2 s3 s4 s5 s19 s20 R7 R8 M17 lb5 R9 g3 M18 lb6 O6 ne9 ne10 ne11 H
 rw [l34_1] at H
 refine aB e34_24<|aA e34_25<|vv rfl (aQ .lss .i64 i2 (r2.length : Int) (.bool (decide (i2 < (r2.length : Int)))) 3 3 s20 s19 rfl)<|aD<|aB e34_26 ?_
 rcases aM H with ⟨hc4,H⟩ | ⟨hc4,H⟩
 · refine tr e34_27 (dT hc4) rfl<|aL e34_28<|aB e34_30<|aT e34_31<|aB e34_32<|aA e34_33<|vv rfl (aE (I i2) s20)<|vv rfl (aC (I i2) rfl)<|aD ?_
   refine dY [[(0,false),(1,false),(2,false),(3,false),(4,false),(5,false),(6,false),(7,true),(8,false),(9,true)]] [7,9] [0,1,2,3,4,5,6,7,8,9] [0,1,2,3,4,5,6,7,8,9] (fun w_ => Has h w_ ∧ (∀ x,blk a4 x → w_.heap[x]? = w.heap[x]?) ∧ True) e34_34 k34_34 m34_34 (fun w9 al5 => ?_)
   have sp9 := al5.st st.has
   have M23 := M17.call0 sp9
   have M24 := M18.call0 sp9
   have O8 := O6.call0 sp9
   have st11 := st.call0 sp9
   refine ⟨⟨Has.le (Le.refl _) st11.has,(fun x hx => (Al0.st al5 st.has).sp.keep x (Own.lts O6 x hx) (fun e => e)),trivial⟩,?_,trivial⟩
   refine bV rfl rfl (fun w_ ok_ => aE (.slice a4 l2.length c4) s5)<|bV rfl rfl (fun w_ ok_ => aE (I i2) rfl)<|bV rfl rfl (fun w_ ok_ => aE (.slice a4 l2.length c4) s5)<|bV rfl rfl (fun w_ ok_ => aE (I i2) rfl) ?_
   obtain ⟨xd2_4_1,hxd2_4_2,H⟩ := aK H
   have hid2_4_3 := dB hxd2_4_2
   obtain ⟨bd2_4_4,habd2_4_5⟩ := Own.adr O8 hid2_4_3.2.2
   refine bV rfl rfl (fun w_ ok_ => aY u29 cP rfl rfl habd2_4_5 hid2_4_3.1 hid2_4_3.2.1) ?_
   obtain ⟨vsd2_5_1,rpd2_5_2,hld2_5_3,cld2_5_4⟩ := Own.cell O6 habd2_4_5 hid2_4_3.2.2
   obtain ⟨ad2_5_5,cd2_5_6,ad2_5_8,cd2_5_9,rfl,Rd2_5_7,Rd2_5_10⟩ := GNode.out rpd2_5_2
   refine bV rfl rfl (fun w_ ok_ => bH [I xd2_4_1.Op,I xd2_4_1.N,.string xd2_4_1.Name,.slice ad2_5_5 xd2_4_1.Index.length cd2_5_6,.slice ad2_5_8 xd2_4_1.L.length cd2_5_9] dX cP rfl rfl (fun i hi => (cell_keep (ok_.2.1 _ (blk_of habd2_4_5))).trans (cld2_5_4 i hi)))<|bV rfl rfl (fun w_ ok_ => aN (.slice cM p1.length cN) sc28 s3 ((aR (ok_.1 _ _ g3)).trans rfl)) ?_
   obtain ⟨fH,hrd2_7_2,H⟩ := aK H
   refine dr_c rfl (od_call [.agg #[I xd2_4_1.Op,I xd2_4_1.N,.string xd2_4_1.Name,.slice ad2_5_5 xd2_4_1.Index.length cd2_5_6,.slice ad2_5_8 xd2_4_1.L.length cd2_5_9],.slice cM p1.length cN] en34 rfl rfl (ih.1 (p0 := xd2_4_1) st11.has Rd2_5_7 Rd2_5_10 R9 hrd2_7_2) ?_)
   rintro _ wd2_7_3 ⟨ad2_7_6,cd2_7_7,ad2_7_9,cd2_7_10,hd2_7_4,rfl,spd2_7_5,Rd2_7_8,Rd2_7_11⟩
   have Md2_7_12 := M23.call0 spd2_7_5
   have Md2_7_13 := M24.call0 spd2_7_5
   have Od2_7_14 := O8.call0 spd2_7_5
   have kod2_7_15 := fun x (hx : blk a4 x) => (spd2_7_5.sp.keep x (Own.lts O8 x hx) (fun e => e)).trans ((fun x hx => (Al0.st al5 st.has).sp.keep x (Own.lts O6 x hx) (fun e => e)) x hx)
   have std2_7_16 := st11.call0 spd2_7_5
   refine ⟨.inr ⟨Has.le spd2_7_5.le std2_7_16.has,kod2_7_15,trivial⟩,?_⟩
   obtain ⟨xd2_8_1,hxd2_8_2,H⟩ := aK H
   have hid2_8_3 := dB hxd2_8_2
   obtain ⟨bd2_8_4,habd2_8_5⟩ := Own.adr Od2_7_14 hid2_8_3.2.2
   refine bV rfl rfl (fun w_ ok_ => aY u29 cP rfl rfl habd2_8_5 hid2_8_3.1 hid2_8_3.2.1) ?_
   obtain ⟨vsd2_9_1,rpd2_9_2,hld2_9_3,cld2_9_4⟩ := Own.cell Od2_7_14 habd2_8_5 hid2_8_3.2.2
   obtain ⟨ad2_9_9,cd2_9_10,ad2_9_12,cd2_9_13,rfl,Rd2_9_11,Rd2_9_14⟩ := GNode.out rpd2_9_2
   refine dr_c rfl (od_storeOwn (off := 0) (n := 5) (us := [I fH.Op,I fH.N,.string fH.Name,.slice ad2_7_6 fH.Index.length cd2_7_7,.slice ad2_7_9 fH.L.length cd2_7_10]) (vs := [I xd2_8_1.Op,I xd2_8_1.N,.string xd2_8_1.Name,.slice ad2_9_9 xd2_8_1.Index.length cd2_9_10,.slice ad2_9_12 xd2_8_1.L.length cd2_9_13]) (y := fH) (.agg #[I fH.Op,I fH.N,.string fH.Name,.slice ad2_7_6 fH.Index.length cd2_7_7,.slice ad2_7_9 fH.L.length cd2_7_10]) cP rfl rfl rfl Od2_7_14 habd2_8_5 hid2_8_3.2.2 rfl cld2_9_4 rfl rfl rfl (by decide) std2_7_16.has (GNode.into (h := hd2_7_4) (x := fH) Rd2_7_8 Rd2_7_11) (fun wd2_9_5 Od2_9_6 spd2_9_7 => ?_))
   have Md2_9_15 := Md2_7_12.call spd2_9_7 (fun e => (ne9 e))
   have Md2_9_16 := Md2_7_13.call spd2_9_7 (fun e => (ne10 e))
   have std2_9_17 := std2_7_16.call spd2_9_7 (fun x e => (.inl (Od2_7_14.lbs x e)))
   have hlend2_9_8 := set_len l2 ((i2 : Int).toNat) fH
   refine ⟨.inl rfl,?_⟩
   refine eL<|aZ<|aA e34_35<|vv rfl (aQ .add .i64 i2 1 (I (wr (i2 + 1))) 3 3 s20 rfl rfl)<|vv rfl (aE (I (wr (i2 + 1))) rfl)<|aD<|bI ?_
   exact ih.2.2.1 std2_9_17 s2 s3 s4 (Eq.trans s5 (sl_len hlend2_9_8)) s19 rfl (SlR.mono spd2_7_5.le R7) (SlR.mono spd2_7_5.le R8) Md2_9_15 lb5 (SlR.mono spd2_7_5.le R9) (spd2_7_5.le _ _ g3) Md2_9_16 lb6 Od2_9_6 ne9 ne10 ne11 H
 refine fa e34_27 (dF hc4) rfl<|bO e34_29 rfl<|aB e34_36<|aA e34_37<|vv rfl (aF (b := b1) (o := 0) fl31_0 s2)<|vv rfl (aN (I p0.Op) sc3 rfl ((aR M17.get).trans rfl))<|vv rfl (aE (.slice a4 l2.length c4) s5)<|vv rfl (dJ (vs := [I p0.Op,I 0,.string ByteArray.empty,.slice none 0 0,.slice a4 l2.length c4]) [(0,I p0.Op),(4,.slice a4 l2.length c4)] bd31 rfl rfl)<|aV (o := 0) (n := 5) [I p0.Op,I 0,.string ByteArray.empty,.slice none 0 0,.slice a4 l2.length c4] [I p0.Op,I 0,.string ByteArray.empty,.slice none 0 0,.slice a4 l2.length c4] (.agg #[I p0.Op,I 0,.string ByteArray.empty,.slice none 0 0,.slice a4 l2.length c4]) cP rfl rfl s4 rfl M18 rfl rfl rfl rfl rfl (fun w8 wr2 M19 => ?_)
 have sp8 := wr2.st st.has M18.none
 have M20 := M17.call sp8 (fun e => (ne11 e))
 have O7 := O6.call sp8 (fun x hx e => (absurd (e ▸ hx) ne10))
 have st9 := st.call sp8 (fun x e => (.inl (e ▸ lb6)))
 refine aD ?_
 obtain ⟨h5,le3,st10,R10,kp2⟩ := O7.frz st9 (Nat.le_refl _)
 have M21 := M20.frB kp2 ne9
 have M22 := M19.frB kp2 ne10
 cases H
 exact aJ e34_38 (cD Try.results34 (eH [I p0.Op,I 0,.string ByteArray.empty,.slice none 0 0,.slice a4 l2.length c4] dX cP s4 rfl (bA M22.get rfl)) ⟨none,0,a4,c4,h5,rfl,st10,(SlR.none _),R10⟩)
theorem SLl34_2_z : SLl34_2 0 := by
  unfold SLl34_2; intros; rename_i H; exact absurd H (by simp [l34_2])
theorem SLl34_2_s (k : Nat) (ih : ZS34 k) : SLl34_2 (k + 1) := by
 intro p0 aG bF cM a6 aH bG cN b1 b2 b3 c6 p1 w0 w h0 h σ r3 l3 i3 r st s2 s3 s4 s5 s19 s20 R12 R13 M27 lb7 R14 g4 M28 lb8 O10 ne14 ne15 ne16 H
 rw [l34_2] at H
 refine aB e34_24<|aA e34_25<|vv rfl (aQ .lss .i64 i3 (r3.length : Int) (.bool (decide (i3 < (r3.length : Int)))) 3 3 s20 s19 rfl)<|aD<|aB e34_26 ?_
 rcases aM H with ⟨hc6,H⟩ | ⟨hc6,H⟩
 · refine tr e34_27 (dT hc6) rfl<|aL e34_28<|aB e34_30<|aT e34_31<|aB e34_32<|aA e34_33<|vv rfl (aE (I i3) s20)<|vv rfl (aC (I i3) rfl)<|aD ?_
   refine dY [[(0,false),(1,false),(2,false),(3,false),(4,false),(5,false),(6,false),(7,true),(8,false),(9,true)]] [7,9] [0,1,2,3,4,5,6,7,8,9] [0,1,2,3,4,5,6,7,8,9] (fun w_ => Has h w_ ∧ (∀ x,blk a6 x → w_.heap[x]? = w.heap[x]?) ∧ True) e34_34 k34_34 m34_34 (fun w12 al6 => ?_)
   have sp12 := al6.st st.has
   have M33 := M27.call0 sp12
   have M34 := M28.call0 sp12
   have O12 := O10.call0 sp12
   have st15 := st.call0 sp12
   refine ⟨⟨Has.le (Le.refl _) st15.has,(fun x hx => (Al0.st al6 st.has).sp.keep x (Own.lts O10 x hx) (fun e => e)),trivial⟩,?_,trivial⟩
   refine bV rfl rfl (fun w_ ok_ => aE (.slice a6 l3.length c6) s5)<|bV rfl rfl (fun w_ ok_ => aE (I i3) rfl)<|bV rfl rfl (fun w_ ok_ => aE (.slice a6 l3.length c6) s5)<|bV rfl rfl (fun w_ ok_ => aE (I i3) rfl) ?_
   obtain ⟨xd3_4_1,hxd3_4_2,H⟩ := aK H
   have hid3_4_3 := dB hxd3_4_2
   obtain ⟨bd3_4_4,habd3_4_5⟩ := Own.adr O12 hid3_4_3.2.2
   refine bV rfl rfl (fun w_ ok_ => aY u29 cP rfl rfl habd3_4_5 hid3_4_3.1 hid3_4_3.2.1) ?_
   obtain ⟨vsd3_5_1,rpd3_5_2,hld3_5_3,cld3_5_4⟩ := Own.cell O10 habd3_4_5 hid3_4_3.2.2
   obtain ⟨ad3_5_5,cd3_5_6,ad3_5_8,cd3_5_9,rfl,Rd3_5_7,Rd3_5_10⟩ := GNode.out rpd3_5_2
   refine bV rfl rfl (fun w_ ok_ => bH [I xd3_4_1.Op,I xd3_4_1.N,.string xd3_4_1.Name,.slice ad3_5_5 xd3_4_1.Index.length cd3_5_6,.slice ad3_5_8 xd3_4_1.L.length cd3_5_9] dX cP rfl rfl (fun i hi => (cell_keep (ok_.2.1 _ (blk_of habd3_4_5))).trans (cld3_5_4 i hi)))<|bV rfl rfl (fun w_ ok_ => aN (.slice cM p1.length cN) sc28 s3 ((aR (ok_.1 _ _ g4)).trans rfl)) ?_
   obtain ⟨fI,hrd3_7_2,H⟩ := aK H
   refine dr_c rfl (od_call [.agg #[I xd3_4_1.Op,I xd3_4_1.N,.string xd3_4_1.Name,.slice ad3_5_5 xd3_4_1.Index.length cd3_5_6,.slice ad3_5_8 xd3_4_1.L.length cd3_5_9],.slice cM p1.length cN] en34 rfl rfl (ih.1 (p0 := xd3_4_1) st15.has Rd3_5_7 Rd3_5_10 R14 hrd3_7_2) ?_)
   rintro _ wd3_7_3 ⟨ad3_7_6,cd3_7_7,ad3_7_9,cd3_7_10,hd3_7_4,rfl,spd3_7_5,Rd3_7_8,Rd3_7_11⟩
   have Md3_7_12 := M33.call0 spd3_7_5
   have Md3_7_13 := M34.call0 spd3_7_5
   have Od3_7_14 := O12.call0 spd3_7_5
   have kod3_7_15 := fun x (hx : blk a6 x) => (spd3_7_5.sp.keep x (Own.lts O12 x hx) (fun e => e)).trans ((fun x hx => (Al0.st al6 st.has).sp.keep x (Own.lts O10 x hx) (fun e => e)) x hx)
   have std3_7_16 := st15.call0 spd3_7_5
   refine ⟨.inr ⟨Has.le spd3_7_5.le std3_7_16.has,kod3_7_15,trivial⟩,?_⟩
   obtain ⟨xd3_8_1,hxd3_8_2,H⟩ := aK H
   have hid3_8_3 := dB hxd3_8_2
   obtain ⟨bd3_8_4,habd3_8_5⟩ := Own.adr Od3_7_14 hid3_8_3.2.2
   refine bV rfl rfl (fun w_ ok_ => aY u29 cP rfl rfl habd3_8_5 hid3_8_3.1 hid3_8_3.2.1) ?_
   obtain ⟨vsd3_9_1,rpd3_9_2,hld3_9_3,cld3_9_4⟩ := Own.cell Od3_7_14 habd3_8_5 hid3_8_3.2.2
   obtain ⟨ad3_9_9,cd3_9_10,ad3_9_12,cd3_9_13,rfl,Rd3_9_11,Rd3_9_14⟩ := GNode.out rpd3_9_2
   refine dr_c rfl (od_storeOwn (off := 0) (n := 5) (us := [I fI.Op,I fI.N,.string fI.Name,.slice ad3_7_6 fI.Index.length cd3_7_7,.slice ad3_7_9 fI.L.length cd3_7_10]) (vs := [I xd3_8_1.Op,I xd3_8_1.N,.string xd3_8_1.Name,.slice ad3_9_9 xd3_8_1.Index.length cd3_9_10,.slice ad3_9_12 xd3_8_1.L.length cd3_9_13]) (y := fI) (.agg #[I fI.Op,I fI.N,.string fI.Name,.slice ad3_7_6 fI.Index.length cd3_7_7,.slice ad3_7_9 fI.L.length cd3_7_10]) cP rfl rfl rfl Od3_7_14 habd3_8_5 hid3_8_3.2.2 rfl cld3_9_4 rfl rfl rfl (by decide) std3_7_16.has (GNode.into (h := hd3_7_4) (x := fI) Rd3_7_8 Rd3_7_11) (fun wd3_9_5 Od3_9_6 spd3_9_7 => ?_))
   have Md3_9_15 := Md3_7_12.call spd3_9_7 (fun e => (ne14 e))
   have Md3_9_16 := Md3_7_13.call spd3_9_7 (fun e => (ne15 e))
   have std3_9_17 := std3_7_16.call spd3_9_7 (fun x e => (.inl (Od3_7_14.lbs x e)))
   have hlend3_9_8 := set_len l3 ((i3 : Int).toNat) fI
   refine ⟨.inl rfl,?_⟩
   refine eL<|aZ<|aA e34_35<|vv rfl (aQ .add .i64 i3 1 (I (wr (i3 + 1))) 3 3 s20 rfl rfl)<|vv rfl (aE (I (wr (i3 + 1))) rfl)<|aD<|bI ?_
   exact ih.2.2.2 std3_9_17 s2 s3 s4 (Eq.trans s5 (sl_len hlend3_9_8)) s19 rfl (SlR.mono spd3_7_5.le R12) (SlR.mono spd3_7_5.le R13) Md3_9_15 lb7 (SlR.mono spd3_7_5.le R14) (spd3_7_5.le _ _ g4) Md3_9_16 lb8 Od3_9_6 ne14 ne15 ne16 H
 refine fa e34_27 (dF hc6) rfl<|bO e34_29 rfl<|aB e34_36<|aA e34_37<|vv rfl (aF (b := b1) (o := 0) fl31_0 s2)<|vv rfl (aN (I p0.Op) sc3 rfl ((aR M27.get).trans rfl))<|vv rfl (aE (.slice a6 l3.length c6) s5)<|vv rfl (dJ (vs := [I p0.Op,I 0,.string ByteArray.empty,.slice none 0 0,.slice a6 l3.length c6]) [(0,I p0.Op),(4,.slice a6 l3.length c6)] bd31 rfl rfl)<|aV (o := 0) (n := 5) [I p0.Op,I 0,.string ByteArray.empty,.slice none 0 0,.slice a6 l3.length c6] [I p0.Op,I 0,.string ByteArray.empty,.slice none 0 0,.slice a6 l3.length c6] (.agg #[I p0.Op,I 0,.string ByteArray.empty,.slice none 0 0,.slice a6 l3.length c6]) cP rfl rfl s4 rfl M28 rfl rfl rfl rfl rfl (fun w11 wr3 M29 => ?_)
 have sp11 := wr3.st st.has M28.none
 have M30 := M27.call sp11 (fun e => (ne16 e))
 have O11 := O10.call sp11 (fun x hx e => (absurd (e ▸ hx) ne15))
 have st13 := st.call sp11 (fun x e => (.inl (e ▸ lb8)))
 refine aD ?_
 obtain ⟨h7,le4,st14,R15,kp3⟩ := O11.frz st13 (Nat.le_refl _)
 have M31 := M30.frB kp3 ne14
 have M32 := M29.frB kp3 ne15
 cases H
 exact aJ e34_38 (cD Try.results34 (eH [I p0.Op,I 0,.string ByteArray.empty,.slice none 0 0,.slice a6 l3.length c6] dX cP s4 rfl (bA M32.get rfl)) ⟨none,0,a6,c6,h7,rfl,st14,(SlR.none _),R15⟩)
theorem ZS34_all : ∀ k,ZS34 k
  | 0 => ⟨S34_z,SLl34_0_z,SLl34_1_z,SLl34_2_z⟩
  | k + 1 => ⟨S34_s k (ZS34_all k),SLl34_0_s k (ZS34_all k),SLl34_1_s k (ZS34_all k),SLl34_2_s k (ZS34_all k)⟩
theorem F34 (k : Nat) : S34 k := (ZS34_all k).1
theorem F17 (k : Nat) : S17 k := by
 intro p0 aG aW bL aH aX bM w0 h0 hh cB eR Rp0_E_L r H
 unfold m17 at H
 refine aP (fn := Try.f17) Try.func17 rfl (Nat.le_of_ble_eq_true rfl) ?_
 show Run X17 [.code c17_0] (fun t => List.getD [.agg #[.string p0.Name,.slice aG p0.Index.length aH,I p0.E.Op,I p0.E.N,.string p0.E.Name,.slice aW p0.E.Index.length aX,.slice bL p0.E.L.length bM]] t undef) w0 (.fn (Q17 w0 h0 r))
 have st0 := St.init hh noM
 refine aB e17_0<|aA e17_1<|dW (.agg #[.string p0.Name,.slice aG p0.Index.length aH,I p0.E.Op,I p0.E.N,.string p0.E.Name,.slice aW p0.E.Index.length aX,.slice bL p0.E.L.length bM]) rfl rfl rfl (fun b1 w1 al1 => ?_)
 replace al1 : Al _ (.cells (List.toArray [.string p0.Name,.slice aG p0.Index.length aH,I p0.E.Op,I p0.E.N,.string p0.E.Name,.slice aW p0.E.Index.length aX,.slice bL p0.E.L.length bM]) 33 (0,0)) b1 w1 := al1
 obtain ⟨h1,le1,g1,sp1⟩ := al1.fz st0.has
 have st1 := st0.call0 sp1
 refine cG (.agg #[I 0,I 0,.string ByteArray.empty,.slice none 0 0,.slice none 0 0]) zr31 rfl rfl (fun b2 w2 al2 => ?_)
 replace al2 : Al _ (.cells (List.toArray [I 0,I 0,.string ByteArray.empty,.slice none 0 0,.slice none 0 0]) 31 (0,0)) b2 w2 := al2
 have M1 := Mut.new st1 al2
 have lb1 := st1.alB al2
 have sp2 := al2.st st1.has
 have st2 := st1.call0 sp2
 refine vv rfl (aC (I 0) rfl)<|aD<|aB e17_2<|aB e17_3<|aA e17_4<|vv rfl (bH [.string p0.Name,.slice aG p0.Index.length aH,I p0.E.Op,I p0.E.N,.string p0.E.Name,.slice aW p0.E.Index.length aX,.slice bL p0.E.L.length bM] ag33 sz33 rfl rfl (bA (st2.has _ _ g1) rfl))<|cF [.string ByteArray.empty,.slice none 0 0,I 0,I 0,.string ByteArray.empty,.slice none 0 0,.slice none 0 0] [.string p0.Name,.slice aG p0.Index.length aH,I p0.E.Op,I p0.E.N,.string p0.E.Name,.slice aW p0.E.Index.length aX,.slice bL p0.E.L.length bM] [(0,.agg #[.string p0.Name,.slice aG p0.Index.length aH,I p0.E.Op,I p0.E.N,.string p0.E.Name,.slice aW p0.E.Index.length aX,.slice bL p0.E.L.length bM])] u23 sz33 zr33 rfl rfl rfl rfl (by kernel_rfl) rfl (by kernel_rfl) (fun b3 w3 al3 => ?_)
 have li1 : Lits h1 [[.string p0.Name,.slice aG p0.Index.length aH,I p0.E.Op,I p0.E.N,.string p0.E.Name,.slice aW p0.E.Index.length aX,.slice bL p0.E.L.length bM]] ([p0] : List GStmt) := (Lits.cons (GStmt.into (h := h1) (x := p0) (SlR.mono le1 cB) (SlR.mono le1 eR) (SlR.mono le1 Rp0_E_L)) Lits.nil)
 obtain ⟨h2,le2,g2,sp3⟩ := al3.fz st2.has
 have M2 := M1.call0 sp3
 have st3 := st2.call0 sp3
 have R1 : SlR _ _ _ ([p0] : List GStmt) := Lits.sl (n := 1) (Lits.mono le2 li1) rfl rfl (by decide) g2
 refine vv rfl (dJ (vs := [.slice none 0 0,.slice (some ⟨b3,0,none⟩) 1 1]) [(1,.slice (some ⟨b3,0,none⟩) 1 1)] bd25 rfl rfl) ?_
 obtain ⟨r1,hr1,H⟩ := aK H
 refine aU [.agg #[.slice none 0 0,.slice (some ⟨b3,0,none⟩) 1 1]] en26 rfl rfl rfl (F26 k (p0 := (⟨[],([p0] : List GStmt)⟩ : GProg)) st3.has (SlR.none _) R1 hr1) ?_
 rintro _ w4 ⟨h3,rfl,sp4⟩
 have M3 := M2.call0 sp4
 have st4 := st3.call0 sp4
 refine vv rfl (aC (I r1) rfl)<|aD<|aB e17_5<|aA e17_6<|vv rfl (aE (I r1) rfl)<|vv rfl (aQ .neq .i64 r1 0 (.bool (!decide (r1 = 0))) 35 35 rfl rfl rfl)<|aD ?_
 rcases aM H with ⟨hc1,H⟩ | ⟨hc1,H⟩
 · refine fa e17_7 (bN (dT hc1)) rfl<|aL e17_11<|aB e17_12<|aA e17_13<|vv rfl (aF (b := b1) (o := 0) fl33_2 rfl)<|vv rfl (bH [I p0.E.Op,I p0.E.N,.string p0.E.Name,.slice aW p0.E.Index.length aX,.slice bL p0.E.L.length bM] dX cP rfl rfl (bA (st4.has _ _ ((le2.trans sp4.le) _ _ g1)) rfl))<|vv rfl (aF (b := b1) (o := 0) fl33_1 rfl)<|vv rfl (aN (.slice aG p0.Index.length aH) sc28 rfl ((aR (st4.has _ _ ((le2.trans sp4.le) _ _ g1))).trans rfl)) ?_
   obtain ⟨r2,hr2,H⟩ := aK H
   refine aU [.agg #[I p0.E.Op,I p0.E.N,.string p0.E.Name,.slice aW p0.E.Index.length aX,.slice bL p0.E.L.length bM],.slice aG p0.Index.length aH] en34 rfl rfl rfl (F34 k (p0 := p0.E) st4.has (SlR.mono (le1.trans (le2.trans sp4.le)) eR) (SlR.mono (le1.trans (le2.trans sp4.le)) Rp0_E_L) (SlR.mono (le1.trans (le2.trans sp4.le)) cB) hr2) ?_
   rintro _ w6 ⟨a1,c1,a2,c2,h4,rfl,sp6,R2,R3⟩
   have M5 := M3.call0 sp6
   have st6 := st4.call0 sp6
   refine aV (o := 0) (n := 5) [I r2.Op,I r2.N,.string r2.Name,.slice a1 r2.Index.length c1,.slice a2 r2.L.length c2] [I r2.Op,I r2.N,.string r2.Name,.slice a1 r2.Index.length c1,.slice a2 r2.L.length c2] (.agg #[I r2.Op,I r2.N,.string r2.Name,.slice a1 r2.Index.length c1,.slice a2 r2.L.length c2]) cP rfl rfl rfl rfl M5 rfl rfl rfl rfl rfl (fun w7 wr2 M6 => ?_)
   have sp7 := wr2.st st6.has M5.none
   have st7 := st6.call sp7 (fun x e => (.inl (e ▸ lb1)))
   refine vv rfl (aC (I 0) rfl)<|aD ?_
   cases H
   exact aJ e17_14 (res2 Try.results17 (eH [I r2.Op,I r2.N,.string r2.Name,.slice a1 r2.Index.length c1,.slice a2 r2.L.length c2] dX cP rfl rfl (bA M6.get rfl)) rfl ⟨a1,c1,a2,c2,h4,rfl,st7,R2,R3⟩)
 refine tr e17_7 (bQ (dF hc1)) rfl<|aB e17_8<|aA e17_9<|vv rfl (dJ (vs := [I 0,I 0,.string ByteArray.empty,.slice none 0 0,.slice none 0 0]) [] bd31 rfl rfl)<|vv rfl (aE (I r1) rfl)<|aV (o := 0) (n := 5) [I 0,I 0,.string ByteArray.empty,.slice none 0 0,.slice none 0 0] [I 0,I 0,.string ByteArray.empty,.slice none 0 0,.slice none 0 0] (.agg #[I 0,I 0,.string ByteArray.empty,.slice none 0 0,.slice none 0 0]) cP rfl rfl rfl rfl M3 rfl rfl rfl rfl rfl (fun w5 wr1 M4 => ?_)
 have sp5 := wr1.st st4.has M3.none
 have st5 := st4.call sp5 (fun x e => (.inl (e ▸ lb1)))
 refine vv rfl (aC (I r1) rfl)<|aD ?_
 cases H
 exact aJ e17_10 (res2 Try.results17 (eH [I 0,I 0,.string ByteArray.empty,.slice none 0 0,.slice none 0 0] dX cP rfl rfl (bA M4.get rfl)) rfl ⟨none,0,none,0,h3,rfl,st5,(SlR.none _),(SlR.none _)⟩)
abbrev ZSLl19_0 (k : Nat) : Prop := SLl19_0 k
theorem SLl19_0_z : SLl19_0 0 := by
  unfold SLl19_0; intros; rename_i H; exact absurd H (by simp [l19_0])
theorem SLl19_0_s (k : Nat) (ih : ZSLl19_0 k) : SLl19_0 (k + 1) := by
 intro p0 bD bE j1 p1 w0 w h0 h σ xs1 r st s1 s7 s8 s9 R1 hd1 H
 cases xs1 with
 | nil =>
  rw [l19_0] at H
  have hk1 := cU hd1
  refine aB e19_7<|aA e19_8<|vv rfl (aQ .lss .i64 (j1 : Int) (p0.length : Int) (.bool (decide ((j1 : Int) < (p0.length : Int)))) 3 3 s9 s8 rfl)<|aD<|aB e19_9<|fa e19_10 hk1 rfl<|bO e19_12 rfl<|aB e19_25<|aA e19_26<|vv rfl (aC (.bool false) rfl) ?_
  refine aD ?_
  cases H
  exact aJ e19_27 (cD Try.results19 rfl ⟨h,rfl,st⟩)
 | cons x1 xs2 =>
  rw [l19_0] at H
  obtain ⟨hk2,hj1,hx1,hd2⟩ := cJ hd1
  refine aB e19_7<|aA e19_8<|vv rfl (aQ .lss .i64 (j1 : Int) (p0.length : Int) (.bool (decide ((j1 : Int) < (p0.length : Int)))) 3 3 s9 s8 rfl)<|aD<|aB e19_9<|tr e19_10 hk2 rfl<|aL e19_11<|aB e19_13<|aT e19_14<|aB e19_15 ?_
  refine aA e19_16 ?_
  obtain ⟨b1,o1,vs1,ea1,rp1,cl1⟩ := SlR.at R1 hx1
  obtain rfl := rp1
  refine vv rfl (aY u28 sz9 s7 s9 ea1 (Int.natCast_nonneg _) (Int.ofNat_lt.2 hj1))<|vv rfl (aN (.string x1) sc9 rfl (((cl1 _ (Has.le (Le.refl _) st.has)) 0 (by decide)).trans rfl))<|vv rfl (aC (.string x1) rfl)<|aD<|aB e19_17<|aA e19_18<|vv rfl (aE (.string x1) rfl)<|vv rfl (aE (.string p1) s1)<|vv rfl (x_strEq x1 p1 9 9 rfl rfl)<|aD ?_
  rcases aM H with ⟨hc1,H⟩ | ⟨hc1,H⟩
  · refine tr e19_19 (dT hc1) rfl<|aB e19_20<|aA e19_21<|vv rfl (aC (.bool true) rfl)<|aD ?_
    cases H
    exact aJ e19_22 (cD Try.results19 rfl ⟨h,rfl,st⟩)
  refine fa e19_19 (dF hc1) rfl<|aL e19_23<|aZ<|aA e19_24<|vv rfl (aQ .add .i64 (j1 : Int) 1 (I ((j1 + 1 : Nat) : Int)) 3 3 s9 rfl (dL hj1 R1.mx))<|vv rfl (aE (I ((j1 + 1 : Nat) : Int)) rfl)<|aD<|bI ?_
  exact ih (j1 := (j1 + 1)) st s1 s7 s8 rfl R1 hd2 H
theorem ZSLl19_0_all : ∀ k,ZSLl19_0 k
  | 0 => SLl19_0_z
  | k + 1 => SLl19_0_s k (ZSLl19_0_all k)
theorem Fl19_0 (k : Nat) : SLl19_0 k := (ZSLl19_0_all k)
theorem F19 (k : Nat) : S19 k := by
 intro p0 bD bE p1 w0 h0 hh Rp0 r H
 unfold m19 at H
 refine aP (fn := Try.f19) Try.func19 rfl (Nat.le_of_ble_eq_true rfl) ?_
 show Run X19 [.code c19_0] (fun t => List.getD [.slice bD p0.length bE,.string p1] t undef) w0 (.fn (Q19 w0 h0 r))
 have st0 := St.init hh noM
 refine aB e19_0<|aA e19_1<|vv rfl (aC (.bool false) rfl)<|aD<|aB e19_2<|aB e19_3<|aA e19_4<|vv rfl (aE (.slice bD p0.length bE) rfl)<|vv rfl (bK u28 rfl)<|vv rfl (aE (I 0) rfl) ?_
 refine aD<|aT e19_5<|bZ e19_6 ?_
 exact Fl19_0 k (j1 := 0) st0 rfl rfl rfl rfl Rp0 rfl H
abbrev ZSLl36_0 (k : Nat) : Prop := SLl36_0 k
theorem SLl36_0_z : SLl36_0 0 := by
  unfold SLl36_0; intros; rename_i H; exact absurd H (by simp [l36_0])
theorem SLl36_0_s (k : Nat) (ih : ZSLl36_0 k) : SLl36_0 (k + 1) := by
 intro p0 p1 bD cM bE cN j2 w0 w h0 h σ xs1 r st s0 s1 s12 s13 R1 R2 hd1 H
 cases xs1 with
 | nil =>
  rw [l36_0] at H
  have hk1 := cU hd1
  refine aB e36_15<|aA e36_16<|vv rfl (aQ .lss .i64 (j2 : Int) (p0.length : Int) (.bool (decide ((j2 : Int) < (p0.length : Int)))) 3 3 s13 s12 rfl)<|aD<|aB e36_17<|fa e36_18 hk1 rfl<|bO e36_20 rfl<|aB e36_33<|aA e36_34<|vv rfl (aC (.bool true) rfl) ?_
  refine aD ?_
  cases H
  exact aJ e36_35 (cD Try.results36 rfl ⟨h,rfl,st⟩)
 | cons x1 xs2 =>
  rw [l36_0] at H
  obtain ⟨hk2,hj1,hx1,hd2⟩ := cJ hd1
  refine aB e36_15<|aA e36_16<|vv rfl (aQ .lss .i64 (j2 : Int) (p0.length : Int) (.bool (decide ((j2 : Int) < (p0.length : Int)))) 3 3 s13 s12 rfl)<|aD<|aB e36_17<|tr e36_18 hk2 rfl<|aL e36_19<|aB e36_21<|aT e36_22<|aB e36_23 ?_
  refine aA e36_24<|vv rfl (aE (I (j2 : Int)) s13)<|vv rfl (aC (I (j2 : Int)) rfl)<|aD<|aB e36_25 ?_
  refine dY [[(0,false),(1,false),(2,false),(3,false),(4,false),(5,false),(6,false),(7,false),(8,false)]] [] [0,1,2,3,4,5,6,7,8] [0,1,2,3,4,5,6,7,8] (fun w_ => Has h w_ ∧ True) e36_26 k36_26 m36_26 (fun w1 al1 => ?_)
  have sp1 := al1.st st.has
  have st1 := st.call0 sp1
  refine ⟨⟨Has.le (Le.refl _) st1.has,trivial⟩,?_,trivial⟩
  refine bV rfl rfl (fun w_ ok_ => aE (.slice bD p0.length bE) s0)<|bV rfl rfl (fun w_ ok_ => aE (I (j2 : Int)) rfl) ?_
  obtain ⟨bd1_2_1,od1_2_2,vsd1_2_3,ead1_2_4,rpd1_2_5,cld1_2_6⟩ := SlR.at R1 hx1
  obtain rfl := rpd1_2_5
  refine bV rfl rfl (fun w_ ok_ => aY u28 sz9 rfl rfl ead1_2_4 (Int.natCast_nonneg _) (Int.ofNat_lt.2 hj1))<|bV rfl rfl (fun w_ ok_ => aN (.string x1) sc9 rfl (((cld1_2_6 _ (Has.le (Le.refl _) ok_.1)) 0 (by decide)).trans rfl))<|bV rfl rfl (fun w_ ok_ => aE (.slice cM p1.length cN) s1)<|bV rfl rfl (fun w_ ok_ => aE (I (j2 : Int)) rfl) ?_
  obtain ⟨eQ,hxd1_6_2,H⟩ := aK H
  have hid1_6_3 := dB hxd1_6_2
  obtain ⟨bd1_6_4,od1_6_5,vsd1_6_6,ead1_6_7,rpd1_6_8,cld1_6_9⟩ := SlR.at R2 hid1_6_3.2.2
  obtain rfl := rpd1_6_8
  refine bV rfl rfl (fun w_ ok_ => aY u28 sz9 rfl rfl ead1_6_7 hid1_6_3.1 hid1_6_3.2.1)<|bV rfl rfl (fun w_ ok_ => aN (.string eQ) sc9 rfl (((cld1_6_9 _ (Has.le (Le.refl _) ok_.1)) 0 (by decide)).trans rfl))<|bV rfl rfl (fun w_ ok_ => x_strNe x1 eQ 9 9 rfl rfl)<|eL ?_
  rcases aM H with ⟨hc2,H⟩ | ⟨hc2,H⟩
  · refine fa e36_27 (bN (dT hc2)) rfl<|aL e36_31<|aZ<|aA e36_32<|vv rfl (aQ .add .i64 (j2 : Int) 1 (I ((j2 + 1 : Nat) : Int)) 3 3 s13 rfl (dL hj1 R1.mx))<|vv rfl (aE (I ((j2 + 1 : Nat) : Int)) rfl)<|aD<|bI ?_
    exact ih (j2 := (j2 + 1)) st1 s0 s1 s12 rfl R1 R2 hd2 H
  refine tr e36_27 (bQ (dF hc2)) rfl<|aB e36_28<|aA e36_29<|vv rfl (aC (.bool false) rfl)<|aD ?_
  cases H
  exact aJ e36_30 (cD Try.results36 rfl ⟨h,rfl,st1⟩)
theorem ZSLl36_0_all : ∀ k,ZSLl36_0 k
  | 0 => SLl36_0_z
  | k + 1 => SLl36_0_s k (ZSLl36_0_all k)
theorem Fl36_0 (k : Nat) : SLl36_0 k := (ZSLl36_0_all k)
theorem F36 (k : Nat) : S36 k := by
 intro p0 p1 bD cM bE cN w0 h0 hh Rp0 Rp1 r H
 unfold m36 at H
 refine aP (fn := Try.f36) Try.func36 rfl (Nat.le_of_ble_eq_true rfl) ?_
 show Run X36 [.code c36_0] (fun t => List.getD [.slice bD p0.length bE,.slice cM p1.length cN] t undef) w0 (.fn (Q36 w0 h0 r))
 have st0 := St.init hh noM
 refine aB e36_0<|aA e36_1<|vv rfl (aC (.bool false) rfl)<|aD<|aB e36_2<|aB e36_3<|aA e36_4<|vv rfl (aE (.slice bD p0.length bE) rfl)<|vv rfl (bK u28 rfl)<|vv rfl (aE (.slice cM p1.length cN) rfl) ?_
 refine vv rfl (bK u28 rfl)<|vv rfl (aQ .neq .i64 (p0.length : Int) (p1.length : Int) (.bool (!decide ((p0.length : Int) = (p1.length : Int)))) 3 3 rfl rfl rfl)<|aD ?_
 rcases aM H with ⟨hc1,H⟩ | ⟨hc1,H⟩
 · refine fa e36_5 (bN (dT hc1)) rfl<|aL e36_9<|aB e36_10<|aB e36_11<|aA e36_12<|vv rfl (aE (.slice bD p0.length bE) rfl)<|vv rfl (bK u28 rfl)<|vv rfl (aE (I 0) rfl)<|aD<|aT e36_13 ?_
   refine bZ e36_14 ?_
   exact Fl36_0 k (j2 := 0) st0 rfl rfl rfl rfl Rp0 Rp1 rfl H
 refine tr e36_5 (bQ (dF hc1)) rfl<|aB e36_6<|aA e36_7<|vv rfl (aC (.bool false) rfl)<|aD ?_
 cases H
 exact aJ e36_8 (cD Try.results36 rfl ⟨h0,rfl,st0⟩)
abbrev ZS37 (k : Nat) : Prop := S37 k ∧ SLl37_0 k ∧ S20 k
theorem S37_z : S37 0 := by
  unfold S37; intros; rename_i H; exact absurd H (by simp [m37])
theorem S37_s (k : Nat) (ih : ZS37 k) : S37 (k + 1) := by
 intro p0 p1 bD cM bE cN w0 h0 hh Rp0 Rp1 r H
 rw [m37] at H
 refine aP (fn := Try.f37) Try.func37 rfl (Nat.le_of_ble_eq_true rfl) ?_
 show Run X37 [.code c37_0] (fun t => List.getD [.slice bD p0.length bE,.slice cM p1.length cN,.func (.func 20) #[] #[]] t undef) w0 (.fn (Q37 w0 h0 r))
 have st0 := St.init hh noM
 refine aB e37_0<|aA e37_1<|vv rfl (aC (.bool false) rfl)<|aD<|aB e37_2<|aB e37_3<|aA e37_4<|vv rfl (aE (.slice bD p0.length bE) rfl)<|vv rfl (bK u29 rfl)<|vv rfl (aE (.slice cM p1.length cN) rfl) ?_
 refine vv rfl (bK u29 rfl)<|vv rfl (aQ .neq .i64 (p0.length : Int) (p1.length : Int) (.bool (!decide ((p0.length : Int) = (p1.length : Int)))) 3 3 rfl rfl rfl)<|aD ?_
 rcases aM H with ⟨hc1,H⟩ | ⟨hc1,H⟩
 · refine fa e37_5 (bN (dT hc1)) rfl<|aL e37_9<|aB e37_10<|aB e37_11<|aA e37_12<|vv rfl (aE (.slice bD p0.length bE) rfl)<|vv rfl (bK u29 rfl)<|vv rfl (aE (I 0) rfl)<|aD<|aT e37_13 ?_
   refine bZ e37_14 ?_
   exact ih.2.1 (j2 := 0) st0 rfl rfl rfl rfl rfl Rp1 Rp0 rfl H
 refine tr e37_5 (bQ (dF hc1)) rfl<|aB e37_6<|aA e37_7<|vv rfl (aC (.bool false) rfl)<|aD ?_
 cases H
 exact aJ e37_8 (cD Try.results37 rfl ⟨h0,rfl,st0⟩)
theorem SLl37_0_z : SLl37_0 0 := by
  unfold SLl37_0; intros; rename_i H; exact absurd H (by simp [l37_0])
theorem SLl37_0_s (k : Nat) (ih : ZS37 k) : SLl37_0 (k + 1) := by
 intro p0 p1 bD cM bE cN j2 w0 w h0 h σ xs1 r st s1 s2 s15 s16 s17 R1 R2 hd1 H
 cases xs1 with
 | nil =>
  rw [l37_0] at H
  have hk1 := cU hd1
  refine aB e37_15<|aA e37_16<|vv rfl (aQ .lss .i64 (j2 : Int) (p0.length : Int) (.bool (decide ((j2 : Int) < (p0.length : Int)))) 3 3 s17 s16 rfl)<|aD<|aB e37_17<|fa e37_18 hk1 rfl<|bO e37_20 rfl<|aB e37_35<|aA e37_36<|vv rfl (aC (.bool true) rfl) ?_
  refine aD ?_
  cases H
  exact aJ e37_37 (cD Try.results37 rfl ⟨h,rfl,st⟩)
 | cons x1 xs2 =>
  rw [l37_0] at H
  obtain ⟨hk2,hj1,hx1,hd2⟩ := cJ hd1
  refine aB e37_15<|aA e37_16<|vv rfl (aQ .lss .i64 (j2 : Int) (p0.length : Int) (.bool (decide ((j2 : Int) < (p0.length : Int)))) 3 3 s17 s16 rfl)<|aD<|aB e37_17<|tr e37_18 hk2 rfl<|aL e37_19<|aB e37_21<|aT e37_22<|aB e37_23 ?_
  refine aA e37_24<|vv rfl (aE (I (j2 : Int)) s17) ?_
  obtain ⟨b1,o1,vs1,ea1,rp1,cl1⟩ := SlR.at R2 hx1
  obtain ⟨a1,c1,a2,c2,rfl,R3,R4⟩ := GNode.out rp1
  refine vv rfl (aY u29 cP s15 s17 ea1 (Int.natCast_nonneg _) (Int.ofNat_lt.2 hj1))<|vv rfl (bH [I x1.Op,I x1.N,.string x1.Name,.slice a1 x1.Index.length c1,.slice a2 x1.L.length c2] dX cP rfl rfl (cl1 _ (Has.le (Le.refl _) st.has)))<|cG (.agg #[I 0,I 0,.string ByteArray.empty,.slice none 0 0,.slice none 0 0]) zr31 rfl rfl (fun b2 w1 al1 => ?_)
  replace al1 : Al _ (.cells (List.toArray [I 0,I 0,.string ByteArray.empty,.slice none 0 0,.slice none 0 0]) 31 (0,0)) b2 w1 := al1
  have M1 := Mut.new st al1
  have lb1 := st.alB al1
  have sp1 := al1.st st.has
  have st1 := st.call0 sp1
  refine vv rfl (aC (I (j2 : Int)) rfl)<|aV (o := 0) (n := 5) [I x1.Op,I x1.N,.string x1.Name,.slice a1 x1.Index.length c1,.slice a2 x1.L.length c2] [I x1.Op,I x1.N,.string x1.Name,.slice a1 x1.Index.length c1,.slice a2 x1.L.length c2] (.agg #[I x1.Op,I x1.N,.string x1.Name,.slice a1 x1.Index.length c1,.slice a2 x1.L.length c2]) cP rfl rfl rfl rfl M1 rfl rfl rfl rfl rfl (fun w2 wr1 M2 => ?_)
  have sp2 := wr1.st st1.has M1.none
  have st2 := st1.call sp2 (fun x e => (.inl (e ▸ lb1)))
  obtain ⟨h1,le1,g1,st3,kp1⟩ := M2.fz st2 lb1
  refine aD<|aB e37_25<|aA e37_26<|vv rfl (aE (.slice cM p1.length cN) s1)<|vv rfl (aE (I (j2 : Int)) rfl) ?_
  obtain ⟨x2,hx2,H⟩ := aK H
  have hi1 := dB hx2
  obtain ⟨b3,o2,vs2,ea2,rp2,cl2⟩ := SlR.at (SlR.mono le1 R1) hi1.2.2
  obtain ⟨a3,c3,a4,c4,rfl,R5,R6⟩ := GNode.out rp2
  refine vv rfl (aY u29 cP rfl rfl ea2 hi1.1 hi1.2.1)<|vv rfl (bH [I x2.Op,I x2.N,.string x2.Name,.slice a3 x2.Index.length c3,.slice a4 x2.L.length c4] dX cP rfl rfl (cl2 _ (Has.le (Le.refl _) st3.has)))<|cG (.agg #[I 0,I 0,.string ByteArray.empty,.slice none 0 0,.slice none 0 0]) zr31 rfl rfl (fun b4 w3 al2 => ?_)
  replace al2 : Al _ (.cells (List.toArray [I 0,I 0,.string ByteArray.empty,.slice none 0 0,.slice none 0 0]) 31 (0,0)) b4 w3 := al2
  have M3 := Mut.new st3 al2
  have lb2 := st3.alB al2
  have sp3 := al2.st st3.has
  have st4 := st3.call0 sp3
  refine aV (o := 0) (n := 5) [I x2.Op,I x2.N,.string x2.Name,.slice a3 x2.Index.length c3,.slice a4 x2.L.length c4] [I x2.Op,I x2.N,.string x2.Name,.slice a3 x2.Index.length c3,.slice a4 x2.L.length c4] (.agg #[I x2.Op,I x2.N,.string x2.Name,.slice a3 x2.Index.length c3,.slice a4 x2.L.length c4]) cP rfl rfl rfl rfl M3 rfl rfl rfl rfl rfl (fun w4 wr2 M4 => ?_)
  have sp4 := wr2.st st4.has M3.none
  have st5 := st4.call sp4 (fun x e => (.inl (e ▸ lb2)))
  obtain ⟨h2,le2,g2,st6,kp2⟩ := M4.fz st5 lb2
  refine aD<|aB e37_27<|aA e37_28<|vv rfl (aE (.func (.func 20) #[] #[]) s2)<|vv rfl (bH [I x1.Op,I x1.N,.string x1.Name,.slice a1 x1.Index.length c1,.slice a2 x1.L.length c2] dX cP rfl rfl (bA (st6.has _ _ (le2 _ _ g1)) rfl))<|vv rfl (bH [I x2.Op,I x2.N,.string x2.Name,.slice a3 x2.Index.length c3,.slice a4 x2.L.length c4] dX cP rfl rfl (bA (st6.has _ _ g2) rfl)) ?_
  obtain ⟨r1,hr1,H⟩ := aK H
  refine dQ [] [] [.agg #[I x1.Op,I x1.N,.string x1.Name,.slice a1 x1.Index.length c1,.slice a2 x1.L.length c2],.agg #[I x2.Op,I x2.N,.string x2.Name,.slice a3 x2.Index.length c3,.slice a4 x2.L.length c4]] [.agg #[I x1.Op,I x1.N,.string x1.Name,.slice a1 x1.Index.length c1,.slice a2 x1.L.length c2],.agg #[I x2.Op,I x2.N,.string x2.Name,.slice a3 x2.Index.length c3,.slice a4 x2.L.length c4]] en20 rfl rfl rfl rfl rfl (ih.2.2 (p0 := x1) (p1 := x2) st6.has (SlR.mono (le1.trans le2) R3) (SlR.mono (le1.trans le2) R4) (SlR.mono le2 R5) (SlR.mono le2 R6) hr1) ?_
  rintro _ w5 ⟨h3,rfl,sp5⟩
  have st7 := st6.call0 sp5
  refine vv rfl (dV r1 4 rfl)<|aD ?_
  rcases aM H with ⟨hc2,H⟩ | ⟨hc2,H⟩
  · refine fa e37_29 (bN hc2) rfl<|aL e37_33<|aZ<|aA e37_34<|vv rfl (aQ .add .i64 (j2 : Int) 1 (I ((j2 + 1 : Nat) : Int)) 3 3 s17 rfl (dL hj1 (SlR.mono (le1.trans (le2.trans sp5.le)) R2).mx))<|vv rfl (aE (I ((j2 + 1 : Nat) : Int)) rfl)<|aD<|bI ?_
    exact ih.2.1 (j2 := (j2 + 1)) st7 s1 s2 s15 s16 rfl (SlR.mono (le1.trans (le2.trans sp5.le)) R1) (SlR.mono (le1.trans (le2.trans sp5.le)) R2) hd2 H
  refine tr e37_29 (bQ (bY hc2)) rfl<|aB e37_30<|aA e37_31<|vv rfl (aC (.bool false) rfl)<|aD ?_
  cases H
  exact aJ e37_32 (cD Try.results37 rfl ⟨h3,rfl,st7⟩)
theorem S20_z : S20 0 := by
  unfold S20; intros; rename_i H; exact absurd H (by simp [m20])
theorem S20_s (k : Nat) (ih : ZS37 k) : S20 (k + 1) := by
 intro p0 p1 aG bF fS p1_L_a aH bG fT p1_L_c w0 h0 hh cB fB Rp1_Index Rp1_L r H
 rw [m20] at H
 refine aP (fn := Try.f20) Try.func20 rfl (Nat.le_of_ble_eq_true rfl) ?_
 show Run X20 [.code c20_0] (fun t => List.getD [.agg #[I p0.Op,I p0.N,.string p0.Name,.slice aG p0.Index.length aH,.slice bF p0.L.length bG],.agg #[I p1.Op,I p1.N,.string p1.Name,.slice fS p1.Index.length fT,.slice p1_L_a p1.L.length p1_L_c]] t undef) w0 (.fn (Q20 w0 h0 r))
 have st0 := St.init hh noM
 refine aB e20_0<|aA e20_1<|dW (.agg #[I p0.Op,I p0.N,.string p0.Name,.slice aG p0.Index.length aH,.slice bF p0.L.length bG]) rfl rfl rfl (fun b1 w1 al1 => ?_)
 replace al1 : Al _ (.cells (List.toArray [I p0.Op,I p0.N,.string p0.Name,.slice aG p0.Index.length aH,.slice bF p0.L.length bG]) 31 (0,0)) b1 w1 := al1
 obtain ⟨h1,le1,g1,sp1⟩ := al1.fz st0.has
 have st1 := st0.call0 sp1
 refine dW (.agg #[I p1.Op,I p1.N,.string p1.Name,.slice fS p1.Index.length fT,.slice p1_L_a p1.L.length p1_L_c]) rfl rfl rfl (fun b2 w2 al2 => ?_)
 replace al2 : Al _ (.cells (List.toArray [I p1.Op,I p1.N,.string p1.Name,.slice fS p1.Index.length fT,.slice p1_L_a p1.L.length p1_L_c]) 31 (0,0)) b2 w2 := al2
 obtain ⟨h2,le2,g2,sp2⟩ := al2.fz st1.has
 have st2 := st1.call0 sp2
 refine vv rfl (aC (.bool false) rfl)<|aD<|aB e20_2<|aA e20_3 ?_
 obtain ⟨j1,hj1,H⟩ := dH H
 have Jj1 : ∀ {y1 : Bool} {σ1 : Env} {w5 : World} {h5 : Sto},Le h2 h5 → St w0 noM h0 h5 w5 → σ1 4 = .bool y1 → j1 y1 = some r → Run X20 [.code c20_4] σ1 w5 (.fn (Q20 w0 h0 r)) := by
  intro y1 σ1 w5 h5 le3 st5 s4_j1 H
  rw [hj1] at H
  cases H
  exact aJ e20_4 (cD Try.results20 s4_j1 ⟨h5,rfl,st5⟩)
 refine vv rfl (aF (b := b1) (o := 0) fl31_0 rfl)<|vv rfl (aN (I p0.Op) sc3 rfl ((aR (st2.has _ _ (le2 _ _ g1))).trans rfl))<|vv rfl (aF (b := b2) (o := 0) fl31_0 rfl)<|vv rfl (aN (I p1.Op) sc3 rfl ((aR (st2.has _ _ g2)).trans rfl))<|vv rfl (aQ .eql .i64 p0.Op p1.Op (.bool (decide (p0.Op = p1.Op))) 3 3 rfl rfl rfl)<|vv rfl (aE (.bool (decide (p0.Op = p1.Op))) rfl) ?_
 rcases aM H with ⟨hc1,H⟩ | ⟨hc1,H⟩
 · refine bC (wt2 (dT hc1) rfl) rfl (aF (b := b1) (o := 0) fl31_1 rfl)<|bC (wt2 (dT hc1) rfl) rfl (aN (I p0.N) sc2 rfl ((aR (st2.has _ _ (le2 _ _ g1))).trans rfl))<|bC (wt2 (dT hc1) rfl) rfl (aF (b := b2) (o := 0) fl31_1 rfl)<|bC (wt2 (dT hc1) rfl) rfl (aN (I p1.N) sc2 rfl ((aR (st2.has _ _ g2)).trans rfl))<|bC (wt2 (dT hc1) rfl) rfl (aQ .eql .i64 p0.N p1.N (.bool (decide (p0.N = p1.N))) 2 2 rfl rfl rfl)<|vv rfl (dD (.bool (decide (p0.N = p1.N))) (dT hc1) rfl rfl)<|vv rfl (aE (.bool (decide (p0.N = p1.N))) rfl) ?_
   rcases aM H with ⟨hc2,H⟩ | ⟨hc2,H⟩
   · refine bC (wt2 (dT hc2) rfl) rfl (aF (b := b1) (o := 0) fl31_2 rfl)<|bC (wt2 (dT hc2) rfl) rfl (aN (.string p0.Name) sc9 rfl ((aR (st2.has _ _ (le2 _ _ g1))).trans rfl))<|bC (wt2 (dT hc2) rfl) rfl (aF (b := b2) (o := 0) fl31_2 rfl)<|bC (wt2 (dT hc2) rfl) rfl (aN (.string p1.Name) sc9 rfl ((aR (st2.has _ _ g2)).trans rfl))<|bC (wt2 (dT hc2) rfl) rfl (x_strEq p0.Name p1.Name 9 9 rfl rfl)<|vv rfl (dD (.bool (decide (p0.Name = p1.Name))) (dT hc2) rfl rfl)<|vv rfl (aE (.bool (decide (p0.Name = p1.Name))) rfl) ?_
     rcases aM H with ⟨hc3,H⟩ | ⟨hc3,H⟩
     · refine bC (wt2 (dT hc3) rfl) rfl (aF (b := b1) (o := 0) fl31_3 rfl)<|bC (wt2 (dT hc3) rfl) rfl (aN (.slice aG p0.Index.length aH) sc28 rfl ((aR (st2.has _ _ (le2 _ _ g1))).trans rfl))<|bC (wt2 (dT hc3) rfl) rfl (aF (b := b2) (o := 0) fl31_3 rfl)<|bC (wt2 (dT hc3) rfl) rfl (aN (.slice fS p1.Index.length fT) sc28 rfl ((aR (st2.has _ _ g2)).trans rfl)) ?_
       obtain ⟨r1,hr1,H⟩ := aK H
       refine aU [.slice aG p0.Index.length aH,.slice fS p1.Index.length fT] en36 (wt2 (dT hc3) rfl) rfl rfl (F36 k st2.has (SlR.mono (le1.trans le2) cB) (SlR.mono (le1.trans le2) Rp1_Index) hr1) ?_
       rintro _ w3 ⟨h3,rfl,sp3⟩
       have st3 := st2.call0 sp3
       refine vv rfl (dD (.bool r1) (dT hc3) rfl rfl)<|vv rfl (aE (.bool r1) rfl) ?_
       rcases aM H with ⟨hc4,H⟩ | ⟨hc4,H⟩
       · refine bC (wt2 hc4 rfl) rfl (aF (b := b1) (o := 0) fl31_4 rfl)<|bC (wt2 hc4 rfl) rfl (aN (.slice bF p0.L.length bG) sc29 rfl ((aR (st3.has _ _ ((le2.trans sp3.le) _ _ g1))).trans rfl))<|bC (wt2 hc4 rfl) rfl (aF (b := b2) (o := 0) fl31_4 rfl)<|bC (wt2 hc4 rfl) rfl (aN (.slice p1_L_a p1.L.length p1_L_c) sc29 rfl ((aR (st3.has _ _ (sp3.le _ _ g2))).trans rfl)) ?_
         obtain ⟨r2,hr2,H⟩ := aK H
         refine aU [.slice bF p0.L.length bG,.slice p1_L_a p1.L.length p1_L_c,.func (.func 20) #[] #[]] en37 (wt2 hc4 rfl) rfl rfl (ih.1 st3.has (SlR.mono (le1.trans (le2.trans sp3.le)) fB) (SlR.mono (le1.trans (le2.trans sp3.le)) Rp1_L) hr2) ?_
         rintro _ w4 ⟨h4,rfl,sp4⟩
         have st4 := st3.call0 sp4
         refine vv rfl (dD (.bool r2) hc4 rfl rfl)<|vv rfl (aC (.bool r2) rfl)<|aD ?_
         exact Jj1 (sp3.le.trans sp4.le) st4 rfl H
       refine aO (wf2 (bY hc4) rfl) rfl<|aO (wf2 (bY hc4) rfl) rfl<|aO (wf2 (bY hc4) rfl) rfl<|aO (wf2 (bY hc4) rfl) rfl<|aO (wf2 (bY hc4) rfl) rfl<|vv rfl (dE (.bool false) (bY hc4) rfl rfl)<|vv rfl (aC (.bool false) rfl)<|aD ?_
       exact Jj1 sp3.le st3 rfl H
     refine aO (wf2 (dF hc3) rfl) rfl<|aO (wf2 (dF hc3) rfl) rfl<|aO (wf2 (dF hc3) rfl) rfl<|aO (wf2 (dF hc3) rfl) rfl<|aO (wf2 (dF hc3) rfl) rfl<|vv rfl (dE (.bool false) (dF hc3) rfl rfl)<|vv rfl (aE (.bool false) rfl)<|aO (wf (p := false) rfl rfl) rfl<|aO (wf (p := false) rfl rfl) rfl<|aO (wf (p := false) rfl rfl) rfl ?_
     refine aO (wf (p := false) rfl rfl) rfl<|aO (wf (p := false) rfl rfl) rfl<|vv rfl (cA (.bool false) (p := false) rfl rfl rfl)<|vv rfl (aC (.bool false) rfl)<|aD ?_
     exact Jj1 (Le.refl _) st2 rfl H
   refine aO (wf2 (dF hc2) rfl) rfl<|aO (wf2 (dF hc2) rfl) rfl<|aO (wf2 (dF hc2) rfl) rfl<|aO (wf2 (dF hc2) rfl) rfl<|aO (wf2 (dF hc2) rfl) rfl<|vv rfl (dE (.bool false) (dF hc2) rfl rfl)<|vv rfl (aE (.bool false) rfl)<|aO (wf (p := false) rfl rfl) rfl<|aO (wf (p := false) rfl rfl) rfl<|aO (wf (p := false) rfl rfl) rfl ?_
   refine aO (wf (p := false) rfl rfl) rfl<|aO (wf (p := false) rfl rfl) rfl<|vv rfl (cA (.bool false) (p := false) rfl rfl rfl)<|vv rfl (aE (.bool false) rfl)<|aO (wf (p := false) rfl rfl) rfl<|aO (wf (p := false) rfl rfl) rfl<|aO (wf (p := false) rfl rfl) rfl<|aO (wf (p := false) rfl rfl) rfl<|aO (wf (p := false) rfl rfl) rfl<|vv rfl (cA (.bool false) (p := false) rfl rfl rfl) ?_
   refine vv rfl (aC (.bool false) rfl)<|aD ?_
   exact Jj1 (Le.refl _) st2 rfl H
 refine aO (wf2 (dF hc1) rfl) rfl<|aO (wf2 (dF hc1) rfl) rfl<|aO (wf2 (dF hc1) rfl) rfl<|aO (wf2 (dF hc1) rfl) rfl<|aO (wf2 (dF hc1) rfl) rfl<|vv rfl (dE (.bool false) (dF hc1) rfl rfl)<|vv rfl (aE (.bool false) rfl)<|aO (wf (p := false) rfl rfl) rfl<|aO (wf (p := false) rfl rfl) rfl<|aO (wf (p := false) rfl rfl) rfl ?_
 refine aO (wf (p := false) rfl rfl) rfl<|aO (wf (p := false) rfl rfl) rfl<|vv rfl (cA (.bool false) (p := false) rfl rfl rfl)<|vv rfl (aE (.bool false) rfl)<|aO (wf (p := false) rfl rfl) rfl<|aO (wf (p := false) rfl rfl) rfl<|aO (wf (p := false) rfl rfl) rfl<|aO (wf (p := false) rfl rfl) rfl<|aO (wf (p := false) rfl rfl) rfl<|vv rfl (cA (.bool false) (p := false) rfl rfl rfl) ?_
 refine vv rfl (aE (.bool false) rfl)<|aO (wf (p := false) rfl rfl) rfl<|aO (wf (p := false) rfl rfl) rfl<|aO (wf (p := false) rfl rfl) rfl<|aO (wf (p := false) rfl rfl) rfl<|aO (wf (p := false) rfl rfl) rfl<|vv rfl (cA (.bool false) (p := false) rfl rfl rfl)<|vv rfl (aC (.bool false) rfl)<|aD ?_
 exact Jj1 (Le.refl _) st2 rfl H
theorem ZS37_all : ∀ k,ZS37 k
  | 0 => ⟨S37_z,SLl37_0_z,S20_z⟩
  | k + 1 => ⟨S37_s k (ZS37_all k),SLl37_0_s k (ZS37_all k),S20_s k (ZS37_all k)⟩
theorem F20 (k : Nat) : S20 k := (ZS37_all k).2.2
theorem F32 : S32 := by
 intro p0 dM dN p1_b p1_0 w0 h0 hh Rp0_Shape gp1 r H
 unfold m32 at H
 refine aP (fn := Try.f32) Try.func32 rfl (Nat.le_of_ble_eq_true rfl) ?_
 show Run X32 [.code c32_0] (fun t => List.getD [.agg #[.string p0.Name,.slice dM p0.Shape.length dN,.string p0.Form,I p0.Block],.pointer (some ⟨p1_b,0,none⟩)] t undef) w0 (.fn (Q32 w0 h0 r))
 have st0 := St.init hh noM
 refine aB e32_0<|aA e32_1<|dW (.agg #[.string p0.Name,.slice dM p0.Shape.length dN,.string p0.Form,I p0.Block]) rfl rfl rfl (fun b1 w1 al1 => ?_)
 replace al1 : Al _ (.cells (List.toArray [.string p0.Name,.slice dM p0.Shape.length dN,.string p0.Form,I p0.Block]) 45 (0,0)) b1 w1 := al1
 obtain ⟨h1,le1,g1,sp1⟩ := al1.fz st0.has
 have st1 := st0.call0 sp1
 refine vv rfl (aC (.bool false) rfl)<|aD<|aB e32_2<|aA e32_3<|vv rfl (aF (b := b1) (o := 0) fl45_0 rfl)<|vv rfl (aN (.string p0.Name) sc9 rfl ((aR (st1.has _ _ g1)).trans rfl))<|vv rfl (aN (.string p1_0) sc9 rfl ((aR (st1.has _ _ (le1 _ _ gp1))).trans rfl))<|vv rfl (x_strEq p0.Name p1_0 9 9 rfl rfl)<|vv rfl (aC (.bool (decide (p0.Name = p1_0))) rfl)<|aD ?_
 cases H
 exact aJ e32_4 (cD Try.results32 rfl ⟨h1,rfl,st1⟩)
abbrev ZSLl31_0 (k : Nat) : Prop := SLl31_0 k
theorem SLl31_0_z : SLl31_0 0 := by
  unfold SLl31_0; intros; rename_i H; exact absurd H (by simp [l31_0])
theorem SLl31_0_s (k : Nat) (ih : ZSLl31_0 k) : SLl31_0 (k + 1) := by
 intro p0 bD bE cV j1 cO w0 w h0 h σ xs1 r st s0 s1 s7 s8 R1 g1 hd1 H
 cases xs1 with
 | nil =>
  rw [l31_0] at H
  have hk1 := cU hd1
  refine aB e31_7<|aA e31_8<|vv rfl (aQ .lss .i64 (j1 : Int) (p0.length : Int) (.bool (decide ((j1 : Int) < (p0.length : Int)))) 3 3 s8 s7 rfl)<|aD<|aB e31_9<|fa e31_10 hk1 rfl<|bO e31_12 rfl<|aB e31_25<|aA e31_26<|vv rfl (aC (I (-1)) rfl) ?_
  refine aD ?_
  cases H
  exact aJ e31_27 (cD Try.results31 rfl ⟨h,rfl,st⟩)
 | cons x1 xs2 =>
  rw [l31_0] at H
  obtain ⟨hk2,hj1,hx1,hd2⟩ := cJ hd1
  refine aB e31_7<|aA e31_8<|vv rfl (aQ .lss .i64 (j1 : Int) (p0.length : Int) (.bool (decide ((j1 : Int) < (p0.length : Int)))) 3 3 s8 s7 rfl)<|aD<|aB e31_9<|tr e31_10 hk2 rfl<|aL e31_11<|aB e31_13<|aT e31_14<|aB e31_15 ?_
  refine aA e31_16<|vv rfl (aE (I (j1 : Int)) s8)<|vv rfl (aC (I (j1 : Int)) rfl)<|aD<|aB e31_17<|aA e31_18<|vv rfl (aE (.func (.func 32) #[] #[.pointer (some ⟨cV,0,none⟩)]) s1)<|vv rfl (aE (.slice bD p0.length bE) s0)<|vv rfl (aE (I (j1 : Int)) rfl) ?_
  obtain ⟨b1,o1,vs1,ea1,rp1,cl1⟩ := SlR.at R1 hx1
  obtain ⟨a1,c1,rfl,R2⟩ := GDecl.out rp1
  refine vv rfl (aY u22 sz45 rfl rfl ea1 (Int.natCast_nonneg _) (Int.ofNat_lt.2 hj1))<|vv rfl (bH [.string x1.Name,.slice a1 x1.Shape.length c1,.string x1.Form,I x1.Block] ag45 sz45 rfl rfl (cl1 _ (Has.le (Le.refl _) st.has))) ?_
  obtain ⟨r1,hr1,H⟩ := aK H
  refine dQ [] [.pointer (some ⟨cV,0,none⟩)] [.agg #[.string x1.Name,.slice a1 x1.Shape.length c1,.string x1.Form,I x1.Block]] [.agg #[.string x1.Name,.slice a1 x1.Shape.length c1,.string x1.Form,I x1.Block],.pointer (some ⟨cV,0,none⟩)] en32 rfl rfl rfl rfl rfl (F32 (p0 := x1) st.has R2 g1 hr1) ?_
  rintro _ w1 ⟨h1,rfl,sp1⟩
  have st1 := st.call0 sp1
  refine aD ?_
  rcases aM H with ⟨hc1,H⟩ | ⟨hc1,H⟩
  · refine tr e31_19 hc1 rfl<|aB e31_20<|aA e31_21<|vv rfl (aE (I (j1 : Int)) rfl)<|vv rfl (aC (I (j1 : Int)) rfl)<|aD ?_
    cases H
    exact aJ e31_22 (cD Try.results31 rfl ⟨h1,rfl,st1⟩)
  refine fa e31_19 (bY hc1) rfl<|aL e31_23<|aZ<|aA e31_24<|vv rfl (aQ .add .i64 (j1 : Int) 1 (I ((j1 + 1 : Nat) : Int)) 3 3 s8 rfl (dL hj1 (SlR.mono sp1.le R1).mx))<|vv rfl (aE (I ((j1 + 1 : Nat) : Int)) rfl)<|aD<|bI ?_
  exact ih (j1 := (j1 + 1)) st1 s0 s1 s7 rfl (SlR.mono sp1.le R1) (sp1.le _ _ g1) hd2 H
theorem ZSLl31_0_all : ∀ k,ZSLl31_0 k
  | 0 => SLl31_0_z
  | k + 1 => SLl31_0_s k (ZSLl31_0_all k)
theorem Fl31_0 (k : Nat) : SLl31_0 k := (ZSLl31_0_all k)
theorem F31 (k : Nat) : S31 k := by
 intro p0 bD bE cV cO w0 h0 hh Rp0 gp1_v0 r H
 unfold m31 at H
 refine aP (fn := Try.f31) Try.func31 rfl (Nat.le_of_ble_eq_true rfl) ?_
 show Run X31 [.code c31_0] (fun t => List.getD [.slice bD p0.length bE,.func (.func 32) #[] #[.pointer (some ⟨cV,0,none⟩)]] t undef) w0 (.fn (Q31 w0 h0 r))
 have st0 := St.init hh noM
 refine aB e31_0<|aA e31_1<|vv rfl (aC (I 0) rfl)<|aD<|aB e31_2<|aB e31_3<|aA e31_4<|vv rfl (aE (.slice bD p0.length bE) rfl)<|vv rfl (bK u22 rfl)<|vv rfl (aE (I 0) rfl) ?_
 refine aD<|aT e31_5<|bZ e31_6 ?_
 exact Fl31_0 k (j1 := 0) st0 rfl rfl rfl rfl Rp0 gp1_v0 rfl H
theorem F13 (k : Nat) : S13 k := by
 intro p0 p1 cM cN w0 h0 hh Rp1 r H
 unfold m13 at H
 refine aP (fn := Try.f13) Try.func13 rfl (Nat.le_of_ble_eq_true rfl) ?_
 show Run X13 [.code c13_0] (fun t => List.getD [.string p0,.slice cM p1.length cN] t undef) w0 (.fn (Q13 w0 h0 r))
 have st0 := St.init hh noM
 refine aB e13_0<|aA e13_1<|dW (.string p0) rfl rfl rfl (fun b1 w1 al1 => ?_)
 replace al1 : Al _ (.cells (List.toArray [.string p0]) 9 (0,0)) b1 w1 := al1
 obtain ⟨h1,le1,g1,sp1⟩ := al1.fz st0.has
 have st1 := st0.call0 sp1
 refine cG (.agg #[.string ByteArray.empty,.slice none 0 0,.string ByteArray.empty,I 0]) zr45 rfl rfl (fun b2 w2 al2 => ?_)
 replace al2 : Al _ (.cells (List.toArray [.string ByteArray.empty,.slice none 0 0,.string ByteArray.empty,I 0]) 45 (0,0)) b2 w2 := al2
 have M1 := Mut.new st1 al2
 have lb1 := st1.alB al2
 have sp2 := al2.st st1.has
 have st2 := st1.call0 sp2
 refine vv rfl (aC (.bool false) rfl)<|aD<|aB e13_2<|aA e13_3<|vv rfl (aE (.slice cM p1.length cN) rfl)<|vv rfl (eU (.func (.func 32) #[] #[.pointer (some ⟨b1,0,none⟩)]) (mf rfl rfl)) ?_
 obtain ⟨r1,hr1,H⟩ := aK H
 refine aU [.slice cM p1.length cN,.func (.func 32) #[] #[.pointer (some ⟨b1,0,none⟩)]] en31 rfl rfl rfl (F31 k st2.has (SlR.mono le1 Rp1) g1 hr1) ?_
 rintro _ w3 ⟨h2,rfl,sp3⟩
 have M2 := M1.call0 sp3
 have st3 := st2.call0 sp3
 refine vv rfl (aC (I r1) rfl)<|aD<|aB e13_4<|aB e13_5<|aA e13_6<|vv rfl (aE (I r1) rfl)<|vv rfl (aQ .lss .i64 r1 0 (.bool (decide (r1 < 0))) 3 3 rfl rfl rfl)<|aD ?_
 rcases aM H with ⟨hc1,H⟩ | ⟨hc1,H⟩
 · refine tr e13_7 (dT hc1) rfl<|aB e13_8<|aA e13_9<|vv rfl (dJ (vs := [.string ByteArray.empty,.slice none 0 0,.string ByteArray.empty,I 0]) [] bd45 rfl rfl)<|aV (o := 0) (n := 4) [.string ByteArray.empty,.slice none 0 0,.string ByteArray.empty,I 0] [.string ByteArray.empty,.slice none 0 0,.string ByteArray.empty,I 0] (.agg #[.string ByteArray.empty,.slice none 0 0,.string ByteArray.empty,I 0]) sz45 rfl rfl rfl rfl M2 rfl rfl rfl rfl rfl (fun w4 wr1 M3 => ?_)
   have sp4 := wr1.st st3.has M2.none
   have st4 := st3.call sp4 (fun x e => (.inl (e ▸ lb1)))
   refine vv rfl (aC (.bool false) rfl)<|aD ?_
   cases H
   exact aJ e13_10 (res2 Try.results13 (eH [.string ByteArray.empty,.slice none 0 0,.string ByteArray.empty,I 0] ag45 sz45 rfl rfl (bA M3.get rfl)) rfl ⟨none,0,h2,rfl,st4,(SlR.none _)⟩)
 refine fa e13_7 (dF hc1) rfl<|aL e13_11<|aB e13_12<|aA e13_13<|vv rfl (aE (.slice cM p1.length cN) rfl)<|vv rfl (aE (I r1) rfl) ?_
 obtain ⟨x1,hx1,H⟩ := aK H
 have hi1 := dB hx1
 obtain ⟨b3,o1,vs1,ea1,rp1,cl1⟩ := SlR.at (SlR.mono (le1.trans sp3.le) Rp1) hi1.2.2
 obtain ⟨a1,c1,rfl,R1⟩ := GDecl.out rp1
 refine vv rfl (aY u22 sz45 rfl rfl ea1 hi1.1 hi1.2.1)<|vv rfl (bH [.string x1.Name,.slice a1 x1.Shape.length c1,.string x1.Form,I x1.Block] ag45 sz45 rfl rfl (cl1 _ (Has.le (Le.refl _) st3.has)))<|aV (o := 0) (n := 4) [.string x1.Name,.slice a1 x1.Shape.length c1,.string x1.Form,I x1.Block] [.string x1.Name,.slice a1 x1.Shape.length c1,.string x1.Form,I x1.Block] (.agg #[.string x1.Name,.slice a1 x1.Shape.length c1,.string x1.Form,I x1.Block]) sz45 rfl rfl rfl rfl M2 rfl rfl rfl rfl rfl (fun w5 wr2 M4 => ?_)
 have sp5 := wr2.st st3.has M2.none
 have st5 := st3.call sp5 (fun x e => (.inl (e ▸ lb1)))
 refine vv rfl (aC (.bool true) rfl)<|aD ?_
 cases H
 exact aJ e13_14 (res2 Try.results13 (eH [.string x1.Name,.slice a1 x1.Shape.length c1,.string x1.Form,I x1.Block] ag45 sz45 rfl rfl (bA M4.get rfl)) rfl ⟨a1,c1,h2,rfl,st5,R1⟩)
abbrev ZSLl82_0 (k : Nat) : Prop := SLl82_0 k
theorem SLl82_0_z : SLl82_0 0 := by
  unfold SLl82_0; intros; rename_i H; exact absurd H (by simp [l82_0])
theorem SLl82_0_s (k : Nat) (ih : ZSLl82_0 k) : SLl82_0 (k + 1) := by
 intro p0 bD a1 bE c1 w0 w h0 h σ l1 i1 r st s0 s2 s3 R1 O1 H
 rw [l82_0] at H
 refine aB e82_7<|aB e82_8<|aA e82_9<|vv rfl (aE (I i1) s3)<|vv rfl (aQ .add .i64 i1 1 (I (wr (i1 + 1))) 3 3 rfl rfl rfl)<|vv rfl (aE (.slice bD p0.length bE) s0)<|vv rfl (bK u43 rfl)<|vv rfl (aQ .lss .i64 (wr (i1 + 1)) (p0.length : Int) (.bool (decide ((wr (i1 + 1)) < (p0.length : Int)))) 3 3 rfl rfl rfl)<|aD ?_
 rcases aM H with ⟨hc1,H⟩ | ⟨hc1,H⟩
 · refine tr e82_10 (dT hc1) rfl<|aL e82_11<|aB e82_13<|aT e82_14 ?_
   refine dY [[(0,false),(1,false),(2,false),(3,false),(4,false),(5,false),(6,false),(7,false),(8,false),(9,false),(10,false),(11,true),(12,true),(13,true)]] [11,12,13] [0,1,2,3,4,5,6,7,8,9,10,11,12,13] [0,1,2,3,4,5,6,7,8,9,10,11,12,13] (fun w_ => Has h w_ ∧ True) e82_15 k82_15 m82_15 (fun w1 al1 => ?_)
   have sp1 := al1.st st.has
   have O2 := O1.call0 sp1
   have st1 := st.call0 sp1
   refine ⟨⟨Has.le (Le.refl _) st1.has,trivial⟩,?_,trivial⟩
   refine bV rfl rfl (fun w_ ok_ => aE (.slice a1 l1.length c1) s2)<|bV rfl rfl (fun w_ ok_ => aE (.slice bD p0.length bE) s0)<|bV rfl rfl (fun w_ ok_ => aE (I i1) s3) ?_
   obtain ⟨fR,hxd1_3_2,H⟩ := aK H
   have hid1_3_3 := dB hxd1_3_2
   obtain ⟨bd1_3_4,od1_3_5,vsd1_3_6,ead1_3_7,rpd1_3_8,cld1_3_9⟩ := SlR.at R1 hid1_3_3.2.2
   obtain rfl := rpd1_3_8
   refine bV rfl rfl (fun w_ ok_ => aY u43 sz3 rfl rfl ead1_3_7 hid1_3_3.1 hid1_3_3.2.1)<|bV rfl rfl (fun w_ ok_ => aN (I fR) sc3 rfl (((cld1_3_9 _ (Has.le (Le.refl _) ok_.1)) 0 (by decide)).trans rfl))<|bV rfl rfl (fun w_ ok_ => aE (.slice bD p0.length bE) s0)<|bV rfl rfl (fun w_ ok_ => aE (I i1) s3)<|bV rfl rfl (fun w_ ok_ => aQ .add .i64 i1 1 (I (wr (i1 + 1))) 3 3 rfl rfl rfl) ?_
   obtain ⟨eB,hxd1_8_2,H⟩ := aK H
   have hid1_8_3 := dB hxd1_8_2
   obtain ⟨bd1_8_4,od1_8_5,vsd1_8_6,ead1_8_7,rpd1_8_8,cld1_8_9⟩ := SlR.at R1 hid1_8_3.2.2
   obtain rfl := rpd1_8_8
   refine bV rfl rfl (fun w_ ok_ => aY u43 sz3 rfl rfl ead1_8_7 hid1_8_3.1 hid1_8_3.2.1)<|bV rfl rfl (fun w_ ok_ => aN (I eB) sc3 rfl (((cld1_8_9 _ (Has.le (Le.refl _) ok_.1)) 0 (by decide)).trans rfl))<|bV rfl rfl (fun w_ ok_ => dJ (vs := [I fR,I eB,I 0]) [(0,I fR),(1,I eB)] bd137 rfl rfl)<|dr_c rfl (eJ [I 0,I 0,I 0] [I fR,I eB,I 0] [(0,.agg #[I fR,I eB,I 0])] u78 sz137 zr137 rfl rfl rfl (by kernel_rfl) rfl (by kernel_rfl) (fun bd1_11_1 wd1_11_2 ald1_11_3 => ?_))
   have lid1_11_8 : Lits h [[I fR,I eB,I 0]] ([(⟨fR,eB,0⟩ : GSpec)] : List GSpec) := (Lits.cons (GSpec.into (h := h) (x := (⟨fR,eB,0⟩ : GSpec)) ) Lits.nil)
   obtain ⟨hd1_11_4,led1_11_5,gd1_11_6,spd1_11_7⟩ := ald1_11_3.fz st1.has
   have Od1_11_9 := O2.call0 spd1_11_7
   have std1_11_10 := st1.call0 spd1_11_7
   have Rd1_11_11 : SlR _ _ _ ([(⟨fR,eB,0⟩ : GSpec)] : List GSpec) := Lits.sl (n := 1) (Lits.mono led1_11_5 lid1_11_8) rfl rfl (by decide) gd1_11_6
   refine ⟨.inr ⟨Has.le led1_11_5 std1_11_10.has,trivial⟩,?_⟩
   obtain ⟨hsd1_12_1,H⟩ := cC H
   refine dr_c rfl (od_append (α := GSpec) (B := w0.heap.size) (l := l1) (l2 := ([(⟨fR,eB,0⟩ : GSpec)] : List GSpec)) u78 u78 ap137 rfl rfl rfl std1_11_10.has std1_11_10.sp.size Od1_11_9 Rd1_11_11 rfl rfl hsd1_12_1 (fun ad1_12_2 cd1_12_3 wd1_12_4 Od1_12_5 spd1_12_6 bld1_12_7 => ?_))
   have std1_12_8 := std1_11_10.call spd1_12_6 (fun x e => (.inl (Od1_11_9.lbs x e)))
   refine ⟨.inr ⟨Has.le led1_11_5 std1_12_8.has,trivial⟩,?_⟩
   refine dr_c rfl (od_v rfl (aC (.slice ad1_12_2 ((l1 ++ ([(⟨fR,eB,0⟩ : GSpec)] : List GSpec)).length) cd1_12_3) rfl) ?_)
   refine ⟨.inl rfl,?_⟩
   refine eL<|aZ<|aA e82_16<|vv rfl (aE (I i1) s3)<|vv rfl (aQ .add .i64 i1 2 (I (wr (i1 + 2))) 3 3 rfl rfl rfl)<|vv rfl (aC (I (wr (i1 + 2))) rfl)<|aD<|bI ?_
   exact ih std1_12_8 s0 rfl rfl (SlR.mono led1_11_5 R1) Od1_12_5 H
 refine fa e82_10 (dF hc1) rfl<|bO e82_12 rfl<|aB e82_17<|aA e82_18<|vv rfl (aE (.slice a1 l1.length c1) s2)<|vv rfl (aC (.slice a1 l1.length c1) rfl)<|aD ?_
 cases H
 exact aJ e82_19 (cD Try.results82 rfl ⟨a1,c1,h,rfl,st,O1⟩)
theorem ZSLl82_0_all : ∀ k,ZSLl82_0 k
  | 0 => SLl82_0_z
  | k + 1 => SLl82_0_s k (ZSLl82_0_all k)
theorem Fl82_0 (k : Nat) : SLl82_0 k := (ZSLl82_0_all k)
theorem F82 (k : Nat) : S82 k := by
 intro p0 bD bE w0 h0 hh Rp0 r H
 unfold m82 at H
 refine aP (fn := Try.f82) Try.func82 rfl (Nat.le_of_ble_eq_true rfl) ?_
 show Run X82 [.code c82_0] (fun t => List.getD [.slice bD p0.length bE] t undef) w0 (.fn (Q82 w0 h0 r))
 have st0 := St.init hh noM
 refine aB e82_0<|aA e82_1<|vv rfl (aC (.slice none 0 0) rfl)<|aD<|aB e82_2<|aB e82_3<|aA e82_4<|vv rfl (aC (I 0) rfl)<|aD<|aT e82_5 ?_
 refine bZ e82_6 ?_
 exact Fl82_0 k st0 rfl rfl rfl Rp0 (Own.nil _ _ _ _) H
abbrev ZSLl83_0 (k : Nat) : Prop := SLl83_0 k
theorem SLl83_0_z : SLl83_0 0 := by
  unfold SLl83_0; intros; rename_i H; exact absurd H (by simp [l83_0])
theorem SLl83_0_s (k : Nat) (ih : ZSLl83_0 k) : SLl83_0 (k + 1) := by
 intro p0 p1 p2_0 i1 w0 w h0 h σ l1 a1 c1 r st s0 s1 s5 s7 s8 O1 H
 rw [l83_0] at H
 refine aB e83_7<|aA e83_8<|vv rfl (aQ .lss .i64 i1 p2_0 (.bool (decide (i1 < p2_0))) 3 3 s8 s7 rfl)<|aD<|aB e83_9 ?_
 rcases aM H with ⟨hc1,H⟩ | ⟨hc1,H⟩
 · refine tr e83_10 (dT hc1) rfl<|aL e83_11<|aB e83_13<|aT e83_14<|aB e83_15<|aA e83_16<|vv rfl (aE (I i1) s8)<|vv rfl (aC (I i1) rfl)<|aD<|aB e83_17 ?_
   refine aA e83_18<|vv rfl (aE (.slice a1 l1.length c1) s5)<|vv rfl (aE (I p1) s1)<|vv rfl (aE (I i1) rfl)<|vv rfl (dJ (vs := [I p1,I i1,I 0]) [(0,I p1),(1,I i1)] bd137 rfl rfl)<|cF [I 0,I 0,I 0] [I p1,I i1,I 0] [(0,.agg #[I p1,I i1,I 0])] u78 sz137 zr137 rfl rfl rfl rfl (by kernel_rfl) rfl (by kernel_rfl) (fun b1 w1 al1 => ?_)
   have li1 : Lits h [[I p1,I i1,I 0]] ([(⟨p1,i1,0⟩ : GSpec)] : List GSpec) := (Lits.cons (GSpec.into (h := h) (x := (⟨p1,i1,0⟩ : GSpec)) ) Lits.nil)
   obtain ⟨h2,le2,g1,sp1⟩ := al1.fz st.has
   have O2 := O1.call0 sp1
   have st2 := st.call0 sp1
   have R2 : SlR _ _ _ ([(⟨p1,i1,0⟩ : GSpec)] : List GSpec) := Lits.sl (n := 1) (Lits.mono le2 li1) rfl rfl (by decide) g1
   obtain ⟨hs1,H⟩ := cC H
   refine eF (α := GSpec) (B := w0.heap.size) (l := l1) (l2 := ([(⟨p1,i1,0⟩ : GSpec)] : List GSpec)) u78 u78 ap137 rfl rfl rfl rfl st2.has st2.sp.size O2 R2 rfl rfl hs1 (fun a2 c2 w2 O3 sp2 bl1 => ?_)
   have st3 := st2.call sp2 (fun x e => (.inl (O2.lbs x e)))
   refine vv rfl (aC (.slice a2 ((l1 ++ ([(⟨p1,i1,0⟩ : GSpec)] : List GSpec)).length) c2) rfl)<|aD<|aA e83_19<|vv rfl (aE (.slice a2 ((l1 ++ ([(⟨p1,i1,0⟩ : GSpec)] : List GSpec)).length) c2) rfl)<|vv rfl (aE (I p0) s0) ?_
   obtain ⟨x1,hx1,H⟩ := aK H
   have hi1 := dB hx1
   obtain ⟨b2,hab1⟩ := Own.adr O3 hi1.2.2
   refine vv rfl (aY u78 sz137 rfl rfl hab1 hi1.1 hi1.2.1)<|vv rfl (aF (b := b2) (o := 0 + (0 : Int).toNat * 3) fl137_0 rfl) ?_
   obtain ⟨vs1,rp1,hl1,cl1⟩ := Own.cell O3 hab1 hi1.2.2
   obtain rfl := GSpec.out rp1
   refine rr_storeOwn (off := 0) (n := 1) (us := [I p0]) (vs := [I x1.Kind,I x1.Mode,I x1.Size]) (y := (⟨p0,x1.Mode,x1.Size⟩ : GSpec)) (I p0) sz3 rfl rfl rfl rfl O3 hab1 hi1.2.2 rfl cl1 rfl rfl rfl (by decide) st3.has (GSpec.into (h := h2) (x := (⟨p0,x1.Mode,x1.Size⟩ : GSpec)) ) (fun w3 O4 sp3 => ?_)
   have st4 := st3.call sp3 (fun x e => (.inl (O3.lbs x e)))
   have hlen1 := set_len (l1 ++ ([(⟨p1,i1,0⟩ : GSpec)] : List GSpec)) ((0 : Int).toNat) (⟨p0,x1.Mode,x1.Size⟩ : GSpec)
   refine aD<|aZ<|aA e83_20<|vv rfl (aQ .add .i64 i1 1 (I (wr (i1 + 1))) 3 3 s8 rfl rfl)<|vv rfl (aE (I (wr (i1 + 1))) rfl)<|aD<|bI ?_
   exact ih st4 s0 s1 (Eq.trans rfl (sl_len hlen1)) s7 rfl O4 H
 refine fa e83_10 (dF hc1) rfl<|bO e83_12 rfl<|aB e83_21<|aA e83_22<|vv rfl (aE (.slice a1 l1.length c1) s5)<|vv rfl (aC (.slice a1 l1.length c1) rfl)<|aD ?_
 obtain ⟨h1,le1,st1,R1,kp1⟩ := O1.frz st (Nat.le_refl _)
 cases H
 exact aJ e83_23 (cD Try.results83 rfl ⟨a1,c1,h1,rfl,st1,R1⟩)
theorem ZSLl83_0_all : ∀ k,ZSLl83_0 k
  | 0 => SLl83_0_z
  | k + 1 => SLl83_0_s k (ZSLl83_0_all k)
theorem Fl83_0 (k : Nat) : SLl83_0 k := (ZSLl83_0_all k)
theorem F83 (k : Nat) : S83 k := by
 intro p0 p1 p2_0 p2_b w0 h0 hh gp2 r H
 unfold m83 at H
 refine aP (fn := Try.f83) Try.func83 rfl (Nat.le_of_ble_eq_true rfl) ?_
 show Run X83 [.code c83_0] (fun t => List.getD [I p0,I p1,.pointer (some ⟨p2_b,0,none⟩)] t undef) w0 (.fn (Q83 w0 h0 r))
 have st0 := St.init hh noM
 refine aB e83_0<|aA e83_1<|vv rfl (aC (.slice none 0 0) rfl)<|aD<|aB e83_2<|aB e83_3<|aA e83_4<|vv rfl (aN (I p2_0) sc3 rfl ((aR (st0.has _ _ gp2)).trans rfl))<|vv rfl (aE (I 0) rfl)<|aD ?_
 refine aT e83_5<|bZ e83_6 ?_
 exact Fl83_0 k st0 rfl rfl rfl rfl rfl (Own.nil _ _ _ _) H
theorem F56 (k : Nat) : S56 k := by
 intro p0 p1 p2 w0 h0 hh r H
 unfold m56 at H
 refine aP (fn := Try.f56) Try.func56 rfl (Nat.le_of_ble_eq_true rfl) ?_
 show Run X56 [.code c56_0] (fun t => List.getD [.string p0,I p1,I p2] t undef) w0 (.fn (Q56 w0 h0 r))
 have st0 := St.init hh noM
 refine aB e56_0<|aA e56_1<|dW (I p1) rfl rfl rfl (fun b1 w1 al1 => ?_)
 replace al1 : Al _ (.cells (List.toArray [I p1]) 3 (0,0)) b1 w1 := al1
 obtain ⟨h1,le1,g1,sp1⟩ := al1.fz st0.has
 have st1 := st0.call0 sp1
 refine vv rfl (aC (.slice none 0 0) rfl)<|vv rfl (aC (I 0) rfl)<|aD<|aB e56_2<|aB e56_3<|aA e56_4<|vv rfl (aN (I p1) sc3 rfl ((aR (st1.has _ _ g1)).trans rfl))<|vv rfl (aQ .lss .i64 p1 0 (.bool (decide (p1 < 0))) 3 3 rfl rfl rfl)<|vv rfl (aE (.bool (decide (p1 < 0))) rfl) ?_
 rcases aM H with ⟨hc1,H⟩ | ⟨hc1,H⟩
 · refine aO (wf2 (dT hc1) rfl) rfl<|aO (wf2 (dT hc1) rfl) rfl<|vv rfl (dD (.bool true) (dT hc1) rfl rfl)<|aD<|cZ e56_5 (p := true) rfl rfl<|aB e56_6<|aA e56_7<|vv rfl (aC (.slice none 0 0) rfl)<|vv rfl (aC (I 1) rfl)<|aD ?_
   cases H
   exact aJ e56_8 (res2 Try.results56 rfl rfl ⟨none,0,h1,rfl,st1,(SlR.none _)⟩)
 refine bC (wt2 (dF hc1) rfl) rfl (aN (I p1) sc3 rfl ((aR (st1.has _ _ g1)).trans rfl))<|bC (wt2 (dF hc1) rfl) rfl (aQ .gtr .i64 p1 4 (.bool (decide (4 < p1))) 3 3 rfl rfl rfl)<|vv rfl (dE (.bool (decide (4 < p1))) (dF hc1) rfl rfl)<|aD ?_
 rcases aM H with ⟨hc2,H⟩ | ⟨hc2,H⟩
 · refine tr e56_5 (dT hc2) rfl<|aB e56_6<|aA e56_7<|vv rfl (aC (.slice none 0 0) rfl)<|vv rfl (aC (I 1) rfl)<|aD ?_
   cases H
   exact aJ e56_8 (res2 Try.results56 rfl rfl ⟨none,0,h1,rfl,st1,(SlR.none _)⟩)
 refine fa e56_5 (dF hc2) rfl<|aL e56_9<|aB e56_10<|aA e56_11<|vv rfl (aC (.func (.func 82) #[] #[]) rfl)<|aD<|aB e56_12<|aA e56_13<|vv rfl (eU (.func (.func 83) #[] #[.pointer (some ⟨b1,0,none⟩)]) (mf rfl rfl))<|vv rfl (aC (.func (.func 83) #[] #[.pointer (some ⟨b1,0,none⟩)]) rfl) ?_
 refine aD<|aB e56_14<|aA e56_15<|rr_makeMap rfl rfl (fun b2 w2 al2 => ?_)
 have M1 : MpM _ _ b2 ([] : (List (ByteArray × (List GSpec)))) := MpM.new st1 al2
 have lb1 := st1.alB al2
 have sp2 := al2.st st1.has
 have st2 := st1.call0 sp2
 refine vv rfl (aE (.func (.func 82) #[] #[]) rfl)<|cF [I 0,I 0,I 0,I 0] [I 0,I 0,I 1,I 1] [(0,I 0),(1,I 0),(2,I 1),(3,I 1)] u43 sz3 zr3 rfl rfl rfl rfl (by kernel_rfl) rfl (by kernel_rfl) (fun b3 w3 al3 => ?_)
 have li1 : Lits h1 [[I 0],[I 0],[I 1],[I 1]] ([0,0,1,1] : List Int) := (Lits.cons rfl (Lits.cons rfl (Lits.cons rfl (Lits.cons rfl Lits.nil))))
 obtain ⟨h2,le2,g2,sp3⟩ := al3.fz st2.has
 have M2 := M1.call0 sp3
 have st3 := st2.call0 sp3
 have R1 : SlR _ _ _ ([0,0,1,1] : List Int) := Lits.sl (n := 4) (Lits.mono le2 li1) rfl rfl (by decide) g2
 obtain ⟨r1,hr1,H⟩ := aK H
 refine dQ [] [] [.slice (some ⟨b3,0,none⟩) 4 4] [.slice (some ⟨b3,0,none⟩) 4 4] en82 rfl rfl rfl rfl rfl (F82 k st3.has R1 hr1) ?_
 rintro _ w4 ⟨a1,c1,h3,rfl,sp4,R2⟩
 have M3 := M2.call0 sp4
 have st4 := st3.call0 sp4
 have O1 := R2.low st3.sp.size
 obtain ⟨h4,le3,st5,R3,kp1⟩ := O1.frz st4 (Nat.le_refl _)
 have M4 := M3.frB le3 kp1 (MpM.ne_own M3 O1)
 refine rr_insert (l := ([] : (List (ByteArray × (List GSpec))))) (key := (⟨#[99,115,114]⟩ : ByteArray)) (v := (.slice a1 r1.length c1)) r1 mt140 rfl rfl rfl rfl rfl M4 ⟨_,_,rfl,R3⟩ st5.has (fun w5 M5 sp5 => ?_)
 have st6 := st5.call sp5 (fun x e => (.inl (e ▸ lb1)))
 refine vv rfl (aE (.func (.func 82) #[] #[]) rfl)<|cF [I 0,I 0,I 0,I 0] [I 0,I 1,I 1,I 0] [(0,I 0),(1,I 1),(2,I 1),(3,I 0)] u43 sz3 zr3 rfl rfl rfl rfl (by kernel_rfl) rfl (by kernel_rfl) (fun b4 w6 al4 => ?_)
 have li2 : Lits h4 [[I 0],[I 1],[I 1],[I 0]] ([0,1,1,0] : List Int) := (Lits.cons rfl (Lits.cons rfl (Lits.cons rfl (Lits.cons rfl Lits.nil))))
 obtain ⟨h5,le4,g3,sp6⟩ := al4.fz st6.has
 have M6 := M5.call0 sp6
 have st7 := st6.call0 sp6
 have R4 : SlR _ _ _ ([0,1,1,0] : List Int) := Lits.sl (n := 4) (Lits.mono le4 li2) rfl rfl (by decide) g3
 obtain ⟨r2,hr2,H⟩ := aK H
 refine dQ [] [] [.slice (some ⟨b4,0,none⟩) 4 4] [.slice (some ⟨b4,0,none⟩) 4 4] en82 rfl rfl rfl rfl rfl (F82 k st7.has R4 hr2) ?_
 rintro _ w7 ⟨a2,c2,h6,rfl,sp7,R5⟩
 have M7 := M6.call0 sp7
 have st8 := st7.call0 sp7
 have O2 := R5.low st7.sp.size
 obtain ⟨h7,le5,st9,R6,kp2⟩ := O2.frz st8 (Nat.le_refl _)
 have M8 := M7.frB le5 kp2 (MpM.ne_own M7 O2)
 refine rr_insert (l := (cH ([] : (List (ByteArray × (List GSpec)))) (⟨#[99,115,114]⟩ : ByteArray) r1)) (key := (⟨#[99,115,99]⟩ : ByteArray)) (v := (.slice a2 r2.length c2)) r2 mt140 rfl rfl rfl rfl rfl M8 ⟨_,_,rfl,R6⟩ st9.has (fun w8 M9 sp8 => ?_)
 have st10 := st9.call sp8 (fun x e => (.inl (e ▸ lb1)))
 refine vv rfl (aE (.func (.func 82) #[] #[]) rfl)<|cF [I 0,I 0,I 0,I 0] [I 1,I 0,I 1,I 1] [(0,I 1),(1,I 0),(2,I 1),(3,I 1)] u43 sz3 zr3 rfl rfl rfl rfl (by kernel_rfl) rfl (by kernel_rfl) (fun b5 w9 al5 => ?_)
 have li3 : Lits h7 [[I 1],[I 0],[I 1],[I 1]] ([1,0,1,1] : List Int) := (Lits.cons rfl (Lits.cons rfl (Lits.cons rfl (Lits.cons rfl Lits.nil))))
 obtain ⟨h8,le6,g4,sp9⟩ := al5.fz st10.has
 have M10 := M9.call0 sp9
 have st11 := st10.call0 sp9
 have R7 : SlR _ _ _ ([1,0,1,1] : List Int) := Lits.sl (n := 4) (Lits.mono le6 li3) rfl rfl (by decide) g4
 obtain ⟨r3,hr3,H⟩ := aK H
 refine dQ [] [] [.slice (some ⟨b5,0,none⟩) 4 4] [.slice (some ⟨b5,0,none⟩) 4 4] en82 rfl rfl rfl rfl rfl (F82 k st11.has R7 hr3) ?_
 rintro _ w10 ⟨a3,c3,h9,rfl,sp10,R8⟩
 have M11 := M10.call0 sp10
 have st12 := st11.call0 sp10
 have O3 := R8.low st11.sp.size
 obtain ⟨h10,le7,st13,R9,kp3⟩ := O3.frz st12 (Nat.le_refl _)
 have M12 := M11.frB le7 kp3 (MpM.ne_own M11 O3)
 refine rr_insert (l := (cH (cH ([] : (List (ByteArray × (List GSpec)))) (⟨#[99,115,114]⟩ : ByteArray) r1) (⟨#[99,115,99]⟩ : ByteArray) r2)) (key := (⟨#[100,99,115,114]⟩ : ByteArray)) (v := (.slice a3 r3.length c3)) r3 mt140 rfl rfl rfl rfl rfl M12 ⟨_,_,rfl,R9⟩ st13.has (fun w11 M13 sp11 => ?_)
 have st14 := st13.call sp11 (fun x e => (.inl (e ▸ lb1)))
 refine vv rfl (aE (.func (.func 82) #[] #[]) rfl)<|cF [I 0,I 0,I 0,I 0] [I 1,I 1,I 1,I 0] [(0,I 1),(1,I 1),(2,I 1),(3,I 0)] u43 sz3 zr3 rfl rfl rfl rfl (by kernel_rfl) rfl (by kernel_rfl) (fun b6 w12 al6 => ?_)
 have li4 : Lits h10 [[I 1],[I 1],[I 1],[I 0]] ([1,1,1,0] : List Int) := (Lits.cons rfl (Lits.cons rfl (Lits.cons rfl (Lits.cons rfl Lits.nil))))
 obtain ⟨h11,le8,g5,sp12⟩ := al6.fz st14.has
 have M14 := M13.call0 sp12
 have st15 := st14.call0 sp12
 have R10 : SlR _ _ _ ([1,1,1,0] : List Int) := Lits.sl (n := 4) (Lits.mono le8 li4) rfl rfl (by decide) g5
 obtain ⟨r4,hr4,H⟩ := aK H
 refine dQ [] [] [.slice (some ⟨b6,0,none⟩) 4 4] [.slice (some ⟨b6,0,none⟩) 4 4] en82 rfl rfl rfl rfl rfl (F82 k st15.has R10 hr4) ?_
 rintro _ w13 ⟨a4,c4,h12,rfl,sp13,R11⟩
 have M15 := M14.call0 sp13
 have st16 := st15.call0 sp13
 have O4 := R11.low st15.sp.size
 obtain ⟨h13,le9,st17,R12,kp4⟩ := O4.frz st16 (Nat.le_refl _)
 have M16 := M15.frB le9 kp4 (MpM.ne_own M15 O4)
 refine rr_insert (l := (cH (cH (cH ([] : (List (ByteArray × (List GSpec)))) (⟨#[99,115,114]⟩ : ByteArray) r1) (⟨#[99,115,99]⟩ : ByteArray) r2) (⟨#[100,99,115,114]⟩ : ByteArray) r3)) (key := (⟨#[100,99,115,99]⟩ : ByteArray)) (v := (.slice a4 r4.length c4)) r4 mt140 rfl rfl rfl rfl rfl M16 ⟨_,_,rfl,R12⟩ st17.has (fun w14 M17 sp14 => ?_)
 have st18 := st17.call sp14 (fun x e => (.inl (e ▸ lb1)))
 refine vv rfl (aE (.func (.func 82) #[] #[]) rfl)<|cF [I 0,I 0,I 0,I 0] [I 0,I 0,I 1,I 1] [(0,I 0),(1,I 0),(2,I 1),(3,I 1)] u43 sz3 zr3 rfl rfl rfl rfl (by kernel_rfl) rfl (by kernel_rfl) (fun b7 w15 al7 => ?_)
 have li5 : Lits h13 [[I 0],[I 0],[I 1],[I 1]] ([0,0,1,1] : List Int) := (Lits.cons rfl (Lits.cons rfl (Lits.cons rfl (Lits.cons rfl Lits.nil))))
 obtain ⟨h14,le10,g6,sp15⟩ := al7.fz st18.has
 have M18 := M17.call0 sp15
 have st19 := st18.call0 sp15
 have R13 : SlR _ _ _ ([0,0,1,1] : List Int) := Lits.sl (n := 4) (Lits.mono le10 li5) rfl rfl (by decide) g6
 obtain ⟨r5,hr5,H⟩ := aK H
 refine dQ [] [] [.slice (some ⟨b7,0,none⟩) 4 4] [.slice (some ⟨b7,0,none⟩) 4 4] en82 rfl rfl rfl rfl rfl (F82 k st19.has R13 hr5) ?_
 rintro _ w16 ⟨a5,c5,h15,rfl,sp16,R14⟩
 have M19 := M18.call0 sp16
 have st20 := st19.call0 sp16
 have O5 := R14.low st19.sp.size
 refine vv rfl (aE (I p2) rfl)<|vv rfl (dJ (vs := [I 4,I 0,I p2]) [(0,I 4),(2,I p2)] bd137 rfl rfl)<|vv rfl (aE (I p2) rfl)<|vv rfl (dJ (vs := [I 4,I 1,I p2]) [(0,I 4),(1,I 1),(2,I p2)] bd137 rfl rfl)<|cF [I 0,I 0,I 0,I 0,I 0,I 0] [I 4,I 0,I p2,I 4,I 1,I p2] [(0,.agg #[I 4,I 0,I p2]),(1,.agg #[I 4,I 1,I p2])] u78 sz137 zr137 rfl rfl rfl rfl (by kernel_rfl) rfl (by kernel_rfl) (fun b8 w17 al8 => ?_)
 have li6 : Lits h15 [[I 4,I 0,I p2],[I 4,I 1,I p2]] ([(⟨4,0,p2⟩ : GSpec),(⟨4,1,p2⟩ : GSpec)] : List GSpec) := (Lits.cons (GSpec.into (h := h15) (x := (⟨4,0,p2⟩ : GSpec)) ) (Lits.cons (GSpec.into (h := h15) (x := (⟨4,1,p2⟩ : GSpec)) ) Lits.nil))
 obtain ⟨h16,le11,g7,sp17⟩ := al8.fz st20.has
 have M20 := M19.call0 sp17
 have O6 := O5.call0 sp17
 have st21 := st20.call0 sp17
 have R15 : SlR _ _ _ ([(⟨4,0,p2⟩ : GSpec),(⟨4,1,p2⟩ : GSpec)] : List GSpec) := Lits.sl (n := 2) (Lits.mono le11 li6) rfl rfl (by decide) g7
 obtain ⟨hs1,H⟩ := cC H
 refine eF (α := GSpec) (B := w0.heap.size) (l := r5) (l2 := ([(⟨4,0,p2⟩ : GSpec),(⟨4,1,p2⟩ : GSpec)] : List GSpec)) u78 u78 ap137 rfl rfl rfl rfl st21.has st21.sp.size O6 R15 rfl rfl hs1 (fun a6 c6 w18 O7 sp18 bl1 => ?_)
 have M21 := M20.call sp18 (fun e => ((MpM.ne_own M20 O6) e))
 have st22 := st21.call sp18 (fun x e => (.inl (O6.lbs x e)))
 obtain ⟨h17,le12,st23,R16,kp5⟩ := O7.frz st22 (Nat.le_refl _)
 have M22 := M21.frB le12 kp5 (MpM.ne_own M21 O7)
 refine rr_insert (l := (cH (cH (cH (cH ([] : (List (ByteArray × (List GSpec)))) (⟨#[99,115,114]⟩ : ByteArray) r1) (⟨#[99,115,99]⟩ : ByteArray) r2) (⟨#[100,99,115,114]⟩ : ByteArray) r3) (⟨#[100,99,115,99]⟩ : ByteArray) r4)) (key := (⟨#[98,115,114]⟩ : ByteArray)) (v := (.slice a6 ((r5 ++ ([(⟨4,0,p2⟩ : GSpec),(⟨4,1,p2⟩ : GSpec)] : List GSpec)).length) c6)) (r5 ++ ([(⟨4,0,p2⟩ : GSpec),(⟨4,1,p2⟩ : GSpec)] : List GSpec)) mt140 rfl rfl rfl rfl rfl M22 ⟨_,_,rfl,R16⟩ st23.has (fun w19 M23 sp19 => ?_)
 have st24 := st23.call sp19 (fun x e => (.inl (e ▸ lb1)))
 refine vv rfl (aE (.map (some b2)) rfl)<|vv rfl (aC (.map (some b2)) rfl)<|aD<|aB e56_16<|aA e56_17<|vv rfl (aE (.map (some b2)) rfl)<|vv rfl (aE (.string p0) rfl) ?_
 obtain ⟨v1,rp1,lk1⟩ := MpM.look (zv := (.slice none 0 0)) (zu := ([] : (List GSpec))) M23 mt140 zr78 ⟨none,0,rfl,SlR.none _⟩ p0
 obtain ⟨a7,c7,rfl,R17⟩ := rep_sl rp1
 refine vv rfl (x_lookup (v := (.tuple #[.slice a7 (((dZ (cH (cH (cH (cH (cH ([] : (List (ByteArray × (List GSpec)))) (⟨#[99,115,114]⟩ : ByteArray) r1) (⟨#[99,115,99]⟩ : ByteArray) r2) (⟨#[100,99,115,114]⟩ : ByteArray) r3) (⟨#[100,99,115,99]⟩ : ByteArray) r4) (⟨#[98,115,114]⟩ : ByteArray) (r5 ++ ([(⟨4,0,p2⟩ : GSpec),(⟨4,1,p2⟩ : GSpec)] : List GSpec))) p0).getD ([] : (List GSpec))).length) c7,.bool ((dZ (cH (cH (cH (cH (cH ([] : (List (ByteArray × (List GSpec)))) (⟨#[99,115,114]⟩ : ByteArray) r1) (⟨#[99,115,99]⟩ : ByteArray) r2) (⟨#[100,99,115,114]⟩ : ByteArray) r3) (⟨#[100,99,115,99]⟩ : ByteArray) r4) (⟨#[98,115,114]⟩ : ByteArray) (r5 ++ ([(⟨4,0,p2⟩ : GSpec),(⟨4,1,p2⟩ : GSpec)] : List GSpec))) p0).isSome)])) rfl rfl (lk1 true))<|vv rfl (aE (.tuple #[.slice a7 (((dZ (cH (cH (cH (cH (cH ([] : (List (ByteArray × (List GSpec)))) (⟨#[99,115,114]⟩ : ByteArray) r1) (⟨#[99,115,99]⟩ : ByteArray) r2) (⟨#[100,99,115,114]⟩ : ByteArray) r3) (⟨#[100,99,115,99]⟩ : ByteArray) r4) (⟨#[98,115,114]⟩ : ByteArray) (r5 ++ ([(⟨4,0,p2⟩ : GSpec),(⟨4,1,p2⟩ : GSpec)] : List GSpec))) p0).getD ([] : (List GSpec))).length) c7,.bool ((dZ (cH (cH (cH (cH (cH ([] : (List (ByteArray × (List GSpec)))) (⟨#[99,115,114]⟩ : ByteArray) r1) (⟨#[99,115,99]⟩ : ByteArray) r2) (⟨#[100,99,115,114]⟩ : ByteArray) r3) (⟨#[100,99,115,99]⟩ : ByteArray) r4) (⟨#[98,115,114]⟩ : ByteArray) (r5 ++ ([(⟨4,0,p2⟩ : GSpec),(⟨4,1,p2⟩ : GSpec)] : List GSpec))) p0).isSome)]) rfl)<|vv rfl (bS (.slice a7 (((dZ (cH (cH (cH (cH (cH ([] : (List (ByteArray × (List GSpec)))) (⟨#[99,115,114]⟩ : ByteArray) r1) (⟨#[99,115,99]⟩ : ByteArray) r2) (⟨#[100,99,115,114]⟩ : ByteArray) r3) (⟨#[100,99,115,99]⟩ : ByteArray) r4) (⟨#[98,115,114]⟩ : ByteArray) (r5 ++ ([(⟨4,0,p2⟩ : GSpec),(⟨4,1,p2⟩ : GSpec)] : List GSpec))) p0).getD ([] : (List GSpec))).length) c7) rfl rfl)<|vv rfl (bS (.bool ((dZ (cH (cH (cH (cH (cH ([] : (List (ByteArray × (List GSpec)))) (⟨#[99,115,114]⟩ : ByteArray) r1) (⟨#[99,115,99]⟩ : ByteArray) r2) (⟨#[100,99,115,114]⟩ : ByteArray) r3) (⟨#[100,99,115,99]⟩ : ByteArray) r4) (⟨#[98,115,114]⟩ : ByteArray) (r5 ++ ([(⟨4,0,p2⟩ : GSpec),(⟨4,1,p2⟩ : GSpec)] : List GSpec))) p0).isSome)) rfl rfl)<|vv rfl (aC (.slice a7 (((dZ (cH (cH (cH (cH (cH ([] : (List (ByteArray × (List GSpec)))) (⟨#[99,115,114]⟩ : ByteArray) r1) (⟨#[99,115,99]⟩ : ByteArray) r2) (⟨#[100,99,115,114]⟩ : ByteArray) r3) (⟨#[100,99,115,99]⟩ : ByteArray) r4) (⟨#[98,115,114]⟩ : ByteArray) (r5 ++ ([(⟨4,0,p2⟩ : GSpec),(⟨4,1,p2⟩ : GSpec)] : List GSpec))) p0).getD ([] : (List GSpec))).length) c7) rfl)<|vv rfl (aC (.bool ((dZ (cH (cH (cH (cH (cH ([] : (List (ByteArray × (List GSpec)))) (⟨#[99,115,114]⟩ : ByteArray) r1) (⟨#[99,115,99]⟩ : ByteArray) r2) (⟨#[100,99,115,114]⟩ : ByteArray) r3) (⟨#[100,99,115,99]⟩ : ByteArray) r4) (⟨#[98,115,114]⟩ : ByteArray) (r5 ++ ([(⟨4,0,p2⟩ : GSpec),(⟨4,1,p2⟩ : GSpec)] : List GSpec))) p0).isSome)) rfl)<|aD<|aB e56_18<|aT e56_19<|aB e56_20 ?_
 refine aA e56_21<|vv rfl (aE (.string p0) rfl)<|vv rfl (x_strEq p0 (⟨#[100,101,110,115,101]⟩ : ByteArray) 9 9 rfl rfl)<|vv rfl (aC (.bool (decide (p0 = (⟨#[100,101,110,115,101]⟩ : ByteArray)))) rfl)<|aD ?_
 rcases aM H with ⟨hc3,H⟩ | ⟨hc3,H⟩
 · refine tr e56_22 (dT hc3) rfl<|aB e56_23<|aA e56_24<|vv rfl (aE (.func (.func 83) #[] #[.pointer (some ⟨b1,0,none⟩)]) rfl) ?_
   obtain ⟨r6,hr6,H⟩ := aK H
   refine dQ [] [.pointer (some ⟨b1,0,none⟩)] [I 0,I 0] [I 0,I 0,.pointer (some ⟨b1,0,none⟩)] en83 rfl rfl rfl rfl rfl (F83 k st24.has ((le2.trans (sp4.le.trans (le3.trans (le4.trans (sp7.le.trans (le5.trans (le6.trans (sp10.le.trans (le7.trans (le8.trans (sp13.le.trans (le9.trans (le10.trans (sp16.le.trans (le11.trans le12))))))))))))))) _ _ g1) hr6) ?_
   rintro _ w20 ⟨a8,c8,h18,rfl,sp20,R18⟩
   have M24 := M23.call0 sp20
   have st25 := st24.call0 sp20
   refine vv rfl (aC (.slice a8 r6.length c8) rfl)<|vv rfl (aC (I 0) rfl)<|aD ?_
   cases H
   exact aJ e56_25 (res2 Try.results56 rfl rfl ⟨a8,c8,h18,rfl,st25,R18⟩)
 refine fa e56_22 (dF hc3) rfl<|aB e56_26<|aA e56_27<|vv rfl (aE (.string p0) rfl)<|vv rfl (x_strEq p0 (⟨#[99,115,102]⟩ : ByteArray) 9 9 rfl rfl)<|vv rfl (aC (.bool (decide (p0 = (⟨#[99,115,102]⟩ : ByteArray)))) rfl)<|aD ?_
 rcases aM H with ⟨hc4,H⟩ | ⟨hc4,H⟩
 · refine tr e56_28 (dT hc4) rfl<|aB e56_29<|aA e56_30<|vv rfl (aE (.func (.func 83) #[] #[.pointer (some ⟨b1,0,none⟩)]) rfl) ?_
   obtain ⟨r7,hr7,H⟩ := aK H
   refine dQ [] [.pointer (some ⟨b1,0,none⟩)] [I 1,I 1] [I 1,I 1,.pointer (some ⟨b1,0,none⟩)] en83 rfl rfl rfl rfl rfl (F83 k st24.has ((le2.trans (sp4.le.trans (le3.trans (le4.trans (sp7.le.trans (le5.trans (le6.trans (sp10.le.trans (le7.trans (le8.trans (sp13.le.trans (le9.trans (le10.trans (sp16.le.trans (le11.trans le12))))))))))))))) _ _ g1) hr7) ?_
   rintro _ w21 ⟨a9,c9,h19,rfl,sp21,R19⟩
   have M25 := M23.call0 sp21
   have st26 := st24.call0 sp21
   refine vv rfl (aC (.slice a9 r7.length c9) rfl)<|vv rfl (aC (I 0) rfl)<|aD ?_
   cases H
   exact aJ e56_31 (res2 Try.results56 rfl rfl ⟨a9,c9,h19,rfl,st26,R19⟩)
 refine fa e56_28 (dF hc4) rfl<|aB e56_32<|aA e56_33 ?_
 obtain ⟨j3,hj3,H⟩ := dH H
 have Jj3 : ∀  {σ3 : Env} {w25 : World} {h23 : Sto},Le h17 h23 → St w0 noM h0 h23 w25 → σ3 11 = .slice a7 (((dZ (cH (cH (cH (cH (cH ([] : (List (ByteArray × (List GSpec)))) (⟨#[99,115,114]⟩ : ByteArray) r1) (⟨#[99,115,99]⟩ : ByteArray) r2) (⟨#[100,99,115,114]⟩ : ByteArray) r3) (⟨#[100,99,115,99]⟩ : ByteArray) r4) (⟨#[98,115,114]⟩ : ByteArray) (r5 ++ ([(⟨4,0,p2⟩ : GSpec),(⟨4,1,p2⟩ : GSpec)] : List GSpec))) p0).getD ([] : (List GSpec))).length) c7 → SlR h23 a7 c7 ((dZ (cH (cH (cH (cH (cH ([] : (List (ByteArray × (List GSpec)))) (⟨#[99,115,114]⟩ : ByteArray) r1) (⟨#[99,115,99]⟩ : ByteArray) r2) (⟨#[100,99,115,114]⟩ : ByteArray) r3) (⟨#[100,99,115,99]⟩ : ByteArray) r4) (⟨#[98,115,114]⟩ : ByteArray) (r5 ++ ([(⟨4,0,p2⟩ : GSpec),(⟨4,1,p2⟩ : GSpec)] : List GSpec))) p0).getD ([] : (List GSpec))) → MpM h23 w25 b2 (cH (cH (cH (cH (cH ([] : (List (ByteArray × (List GSpec)))) (⟨#[99,115,114]⟩ : ByteArray) r1) (⟨#[99,115,99]⟩ : ByteArray) r2) (⟨#[100,99,115,114]⟩ : ByteArray) r3) (⟨#[100,99,115,99]⟩ : ByteArray) r4) (⟨#[98,115,114]⟩ : ByteArray) (r5 ++ ([(⟨4,0,p2⟩ : GSpec),(⟨4,1,p2⟩ : GSpec)] : List GSpec))) → j3 () = some r → Run X56 [.inBlock 0,.code c56_51] σ3 w25 (.fn (Q56 w0 h0 r)) := by
  intro σ3 w25 h23 le15 st30 s11_j3 R23 M29 H
  rw [hj3] at H
  refine aZ<|aB e56_51<|aA e56_52<|vv rfl (aE (.slice a7 (((dZ (cH (cH (cH (cH (cH ([] : (List (ByteArray × (List GSpec)))) (⟨#[99,115,114]⟩ : ByteArray) r1) (⟨#[99,115,99]⟩ : ByteArray) r2) (⟨#[100,99,115,114]⟩ : ByteArray) r3) (⟨#[100,99,115,99]⟩ : ByteArray) r4) (⟨#[98,115,114]⟩ : ByteArray) (r5 ++ ([(⟨4,0,p2⟩ : GSpec),(⟨4,1,p2⟩ : GSpec)] : List GSpec))) p0).getD ([] : (List GSpec))).length) c7) s11_j3)<|vv rfl (aC (.slice a7 (((dZ (cH (cH (cH (cH (cH ([] : (List (ByteArray × (List GSpec)))) (⟨#[99,115,114]⟩ : ByteArray) r1) (⟨#[99,115,99]⟩ : ByteArray) r2) (⟨#[100,99,115,114]⟩ : ByteArray) r3) (⟨#[100,99,115,99]⟩ : ByteArray) r4) (⟨#[98,115,114]⟩ : ByteArray) (r5 ++ ([(⟨4,0,p2⟩ : GSpec),(⟨4,1,p2⟩ : GSpec)] : List GSpec))) p0).getD ([] : (List GSpec))).length) c7) rfl)<|vv rfl (aC (I 0) rfl)<|aD ?_
  cases H
  exact aJ e56_53 (res2 Try.results56 rfl rfl ⟨a7,c7,h23,rfl,st30,R23⟩)
 refine vv rfl (aE (.string p0) rfl)<|vv rfl (x_strEq p0 (⟨#[99,111,111]⟩ : ByteArray) 9 9 rfl rfl)<|vv rfl (aE (.bool (decide (p0 = (⟨#[99,111,111]⟩ : ByteArray)))) rfl) ?_
 rcases aM H with ⟨hc5,H⟩ | ⟨hc5,H⟩
 · refine bC (wt2 (dT hc5) rfl) rfl (aN (I p1) sc3 rfl ((aR (st24.has _ _ ((le2.trans (sp4.le.trans (le3.trans (le4.trans (sp7.le.trans (le5.trans (le6.trans (sp10.le.trans (le7.trans (le8.trans (sp13.le.trans (le9.trans (le10.trans (sp16.le.trans (le11.trans le12))))))))))))))) _ _ g1))).trans rfl))<|bC (wt2 (dT hc5) rfl) rfl (aQ .gtr .i64 p1 0 (.bool (decide (0 < p1))) 3 3 rfl rfl rfl)<|vv rfl (dD (.bool (decide (0 < p1))) (dT hc5) rfl rfl)<|vv rfl (aC (.bool (decide (0 < p1))) rfl)<|aD ?_
   rcases aM H with ⟨hc6,H⟩ | ⟨hc6,H⟩
   · refine tr e56_34 (dT hc6) rfl<|aB e56_35<|aA e56_36<|vv rfl (aE (.func (.func 83) #[] #[.pointer (some ⟨b1,0,none⟩)]) rfl) ?_
     obtain ⟨r8,hr8,H⟩ := aK H
     refine dQ [] [.pointer (some ⟨b1,0,none⟩)] [I 2,I 3] [I 2,I 3,.pointer (some ⟨b1,0,none⟩)] en83 rfl rfl rfl rfl rfl (F83 k st24.has ((le2.trans (sp4.le.trans (le3.trans (le4.trans (sp7.le.trans (le5.trans (le6.trans (sp10.le.trans (le7.trans (le8.trans (sp13.le.trans (le9.trans (le10.trans (sp16.le.trans (le11.trans le12))))))))))))))) _ _ g1) hr8) ?_
     rintro _ w22 ⟨a10,c10,h20,rfl,sp22,R20⟩
     have M26 := M23.call0 sp22
     have st27 := st24.call0 sp22
     refine vv rfl (aC (.slice a10 r8.length c10) rfl)<|vv rfl (aC (I 0) rfl)<|aD ?_
     cases H
     exact aJ e56_37 (res2 Try.results56 rfl rfl ⟨a10,c10,h20,rfl,st27,R20⟩)
   refine fa e56_34 (dF hc6) rfl<|aB e56_38<|aA e56_39<|vv rfl (aE (.bool ((dZ (cH (cH (cH (cH (cH ([] : (List (ByteArray × (List GSpec)))) (⟨#[99,115,114]⟩ : ByteArray) r1) (⟨#[99,115,99]⟩ : ByteArray) r2) (⟨#[100,99,115,114]⟩ : ByteArray) r3) (⟨#[100,99,115,99]⟩ : ByteArray) r4) (⟨#[98,115,114]⟩ : ByteArray) (r5 ++ ([(⟨4,0,p2⟩ : GSpec),(⟨4,1,p2⟩ : GSpec)] : List GSpec))) p0).isSome)) rfl)<|vv rfl (dV ((dZ (cH (cH (cH (cH (cH ([] : (List (ByteArray × (List GSpec)))) (⟨#[99,115,114]⟩ : ByteArray) r1) (⟨#[99,115,99]⟩ : ByteArray) r2) (⟨#[100,99,115,114]⟩ : ByteArray) r3) (⟨#[100,99,115,99]⟩ : ByteArray) r4) (⟨#[98,115,114]⟩ : ByteArray) (r5 ++ ([(⟨4,0,p2⟩ : GSpec),(⟨4,1,p2⟩ : GSpec)] : List GSpec))) p0).isSome) 4 rfl)<|vv rfl (aE (.bool (!((dZ (cH (cH (cH (cH (cH ([] : (List (ByteArray × (List GSpec)))) (⟨#[99,115,114]⟩ : ByteArray) r1) (⟨#[99,115,99]⟩ : ByteArray) r2) (⟨#[100,99,115,114]⟩ : ByteArray) r3) (⟨#[100,99,115,99]⟩ : ByteArray) r4) (⟨#[98,115,114]⟩ : ByteArray) (r5 ++ ([(⟨4,0,p2⟩ : GSpec),(⟨4,1,p2⟩ : GSpec)] : List GSpec))) p0).isSome))) rfl) ?_
   rcases aM H with ⟨hc7,H⟩ | ⟨hc7,H⟩
   · refine bC (wt2 (bN hc7) rfl) rfl (aN (I p1) sc3 rfl ((aR (st24.has _ _ ((le2.trans (sp4.le.trans (le3.trans (le4.trans (sp7.le.trans (le5.trans (le6.trans (sp10.le.trans (le7.trans (le8.trans (sp13.le.trans (le9.trans (le10.trans (sp16.le.trans (le11.trans le12))))))))))))))) _ _ g1))).trans rfl))<|bC (wt2 (bN hc7) rfl) rfl (aQ .neq .i64 p1 2 (.bool (!decide (p1 = 2))) 3 3 rfl rfl rfl)<|vv rfl (dE (.bool (!decide (p1 = 2))) (bN hc7) rfl rfl)<|vv rfl (aC (.bool (!decide (p1 = 2))) rfl)<|aD ?_
     rcases aM H with ⟨hc8,H⟩ | ⟨hc8,H⟩
     · refine fa e56_40 (bN (dT hc8)) rfl<|aB e56_44<|aA e56_45 ?_
       obtain ⟨j5,hj5,H⟩ := dH H
       have Jj5 : ∀  {σ1 : Env} {w23 : World} {h21 : Sto},Le h17 h21 → St w0 noM h0 h21 w23 → σ1 11 = .slice a7 (((dZ (cH (cH (cH (cH (cH ([] : (List (ByteArray × (List GSpec)))) (⟨#[99,115,114]⟩ : ByteArray) r1) (⟨#[99,115,99]⟩ : ByteArray) r2) (⟨#[100,99,115,114]⟩ : ByteArray) r3) (⟨#[100,99,115,99]⟩ : ByteArray) r4) (⟨#[98,115,114]⟩ : ByteArray) (r5 ++ ([(⟨4,0,p2⟩ : GSpec),(⟨4,1,p2⟩ : GSpec)] : List GSpec))) p0).getD ([] : (List GSpec))).length) c7 → SlR h21 a7 c7 ((dZ (cH (cH (cH (cH (cH ([] : (List (ByteArray × (List GSpec)))) (⟨#[99,115,114]⟩ : ByteArray) r1) (⟨#[99,115,99]⟩ : ByteArray) r2) (⟨#[100,99,115,114]⟩ : ByteArray) r3) (⟨#[100,99,115,99]⟩ : ByteArray) r4) (⟨#[98,115,114]⟩ : ByteArray) (r5 ++ ([(⟨4,0,p2⟩ : GSpec),(⟨4,1,p2⟩ : GSpec)] : List GSpec))) p0).getD ([] : (List GSpec))) → MpM h21 w23 b2 (cH (cH (cH (cH (cH ([] : (List (ByteArray × (List GSpec)))) (⟨#[99,115,114]⟩ : ByteArray) r1) (⟨#[99,115,99]⟩ : ByteArray) r2) (⟨#[100,99,115,114]⟩ : ByteArray) r3) (⟨#[100,99,115,99]⟩ : ByteArray) r4) (⟨#[98,115,114]⟩ : ByteArray) (r5 ++ ([(⟨4,0,p2⟩ : GSpec),(⟨4,1,p2⟩ : GSpec)] : List GSpec))) → j5 () = some r → Run X56 [.inBlock 0,.code c56_51] σ1 w23 (.fn (Q56 w0 h0 r)) := by
        intro σ1 w23 h21 le13 st28 s11_j5 R21 M27 H
        rw [hj5] at H
        exact Jj3 le13 st28 s11_j5 R21 M27 H
       refine vv rfl (aE (.string p0) rfl)<|vv rfl (x_strEq p0 (⟨#[98,115,114]⟩ : ByteArray) 9 9 rfl rfl)<|vv rfl (aE (.bool (decide (p0 = (⟨#[98,115,114]⟩ : ByteArray)))) rfl) ?_
       rcases aM H with ⟨hc9,H⟩ | ⟨hc9,H⟩
       · refine bC (wt2 (dT hc9) rfl) rfl (aE (I p2) rfl)<|bC (wt2 (dT hc9) rfl) rfl (aQ .lss .i64 p2 1 (.bool (decide (p2 < 1))) 3 3 rfl rfl rfl)<|vv rfl (dD (.bool (decide (p2 < 1))) (dT hc9) rfl rfl)<|vv rfl (aC (.bool (decide (p2 < 1))) rfl)<|aD ?_
         rcases aM H with ⟨hc10,H⟩ | ⟨hc10,H⟩
         · refine tr e56_46 (dT hc10) rfl<|aB e56_47<|aA e56_48<|vv rfl (aC (.slice none 0 0) rfl)<|vv rfl (aC (I 1) rfl)<|aD ?_
           cases H
           exact aJ e56_49 (res2 Try.results56 rfl rfl ⟨none,0,h17,rfl,st24,(SlR.none _)⟩)
         refine fa e56_46 (dF hc10) rfl<|aL e56_50 ?_
         exact Jj5 (Le.refl _) st24 rfl R17 M23 H
       refine aO (wf2 (dF hc9) rfl) rfl<|aO (wf2 (dF hc9) rfl) rfl<|vv rfl (dE (.bool false) (dF hc9) rfl rfl)<|vv rfl (aC (.bool false) rfl)<|aD<|dK e56_46 (p := false) rfl rfl<|aL e56_50 ?_
       exact Jj5 (Le.refl _) st24 rfl R17 M23 H
     refine tr e56_40 (bQ (dF hc8)) rfl<|aB e56_41<|aA e56_42<|vv rfl (aC (.slice none 0 0) rfl)<|vv rfl (aC (I 5) rfl)<|aD ?_
     cases H
     exact aJ e56_43 (res2 Try.results56 rfl rfl ⟨none,0,h17,rfl,st24,(SlR.none _)⟩)
   refine aO (wf2 (bQ (bY hc7)) rfl) rfl<|aO (wf2 (bQ (bY hc7)) rfl) rfl<|vv rfl (dD (.bool true) (bQ (bY hc7)) rfl rfl)<|vv rfl (aC (.bool true) rfl)<|aD<|cZ e56_40 (p := true) rfl rfl<|aB e56_41<|aA e56_42<|vv rfl (aC (.slice none 0 0) rfl)<|vv rfl (aC (I 5) rfl) ?_
   refine aD ?_
   cases H
   exact aJ e56_43 (res2 Try.results56 rfl rfl ⟨none,0,h17,rfl,st24,(SlR.none _)⟩)
 refine aO (wf2 (dF hc5) rfl) rfl<|aO (wf2 (dF hc5) rfl) rfl<|vv rfl (dE (.bool false) (dF hc5) rfl rfl)<|vv rfl (aC (.bool false) rfl)<|aD<|dK e56_34 (p := false) rfl rfl<|aB e56_38<|aA e56_39<|vv rfl (aE (.bool ((dZ (cH (cH (cH (cH (cH ([] : (List (ByteArray × (List GSpec)))) (⟨#[99,115,114]⟩ : ByteArray) r1) (⟨#[99,115,99]⟩ : ByteArray) r2) (⟨#[100,99,115,114]⟩ : ByteArray) r3) (⟨#[100,99,115,99]⟩ : ByteArray) r4) (⟨#[98,115,114]⟩ : ByteArray) (r5 ++ ([(⟨4,0,p2⟩ : GSpec),(⟨4,1,p2⟩ : GSpec)] : List GSpec))) p0).isSome)) rfl)<|vv rfl (dV ((dZ (cH (cH (cH (cH (cH ([] : (List (ByteArray × (List GSpec)))) (⟨#[99,115,114]⟩ : ByteArray) r1) (⟨#[99,115,99]⟩ : ByteArray) r2) (⟨#[100,99,115,114]⟩ : ByteArray) r3) (⟨#[100,99,115,99]⟩ : ByteArray) r4) (⟨#[98,115,114]⟩ : ByteArray) (r5 ++ ([(⟨4,0,p2⟩ : GSpec),(⟨4,1,p2⟩ : GSpec)] : List GSpec))) p0).isSome) 4 rfl) ?_
 refine vv rfl (aE (.bool (!((dZ (cH (cH (cH (cH (cH ([] : (List (ByteArray × (List GSpec)))) (⟨#[99,115,114]⟩ : ByteArray) r1) (⟨#[99,115,99]⟩ : ByteArray) r2) (⟨#[100,99,115,114]⟩ : ByteArray) r3) (⟨#[100,99,115,99]⟩ : ByteArray) r4) (⟨#[98,115,114]⟩ : ByteArray) (r5 ++ ([(⟨4,0,p2⟩ : GSpec),(⟨4,1,p2⟩ : GSpec)] : List GSpec))) p0).isSome))) rfl) ?_
 rcases aM H with ⟨hc11,H⟩ | ⟨hc11,H⟩
 · refine bC (wt2 (bN hc11) rfl) rfl (aN (I p1) sc3 rfl ((aR (st24.has _ _ ((le2.trans (sp4.le.trans (le3.trans (le4.trans (sp7.le.trans (le5.trans (le6.trans (sp10.le.trans (le7.trans (le8.trans (sp13.le.trans (le9.trans (le10.trans (sp16.le.trans (le11.trans le12))))))))))))))) _ _ g1))).trans rfl))<|bC (wt2 (bN hc11) rfl) rfl (aQ .neq .i64 p1 2 (.bool (!decide (p1 = 2))) 3 3 rfl rfl rfl)<|vv rfl (dE (.bool (!decide (p1 = 2))) (bN hc11) rfl rfl)<|vv rfl (aC (.bool (!decide (p1 = 2))) rfl)<|aD ?_
   rcases aM H with ⟨hc12,H⟩ | ⟨hc12,H⟩
   · refine fa e56_40 (bN (dT hc12)) rfl<|aB e56_44<|aA e56_45 ?_
     obtain ⟨j7,hj7,H⟩ := dH H
     have Jj7 : ∀  {σ2 : Env} {w24 : World} {h22 : Sto},Le h17 h22 → St w0 noM h0 h22 w24 → σ2 11 = .slice a7 (((dZ (cH (cH (cH (cH (cH ([] : (List (ByteArray × (List GSpec)))) (⟨#[99,115,114]⟩ : ByteArray) r1) (⟨#[99,115,99]⟩ : ByteArray) r2) (⟨#[100,99,115,114]⟩ : ByteArray) r3) (⟨#[100,99,115,99]⟩ : ByteArray) r4) (⟨#[98,115,114]⟩ : ByteArray) (r5 ++ ([(⟨4,0,p2⟩ : GSpec),(⟨4,1,p2⟩ : GSpec)] : List GSpec))) p0).getD ([] : (List GSpec))).length) c7 → SlR h22 a7 c7 ((dZ (cH (cH (cH (cH (cH ([] : (List (ByteArray × (List GSpec)))) (⟨#[99,115,114]⟩ : ByteArray) r1) (⟨#[99,115,99]⟩ : ByteArray) r2) (⟨#[100,99,115,114]⟩ : ByteArray) r3) (⟨#[100,99,115,99]⟩ : ByteArray) r4) (⟨#[98,115,114]⟩ : ByteArray) (r5 ++ ([(⟨4,0,p2⟩ : GSpec),(⟨4,1,p2⟩ : GSpec)] : List GSpec))) p0).getD ([] : (List GSpec))) → MpM h22 w24 b2 (cH (cH (cH (cH (cH ([] : (List (ByteArray × (List GSpec)))) (⟨#[99,115,114]⟩ : ByteArray) r1) (⟨#[99,115,99]⟩ : ByteArray) r2) (⟨#[100,99,115,114]⟩ : ByteArray) r3) (⟨#[100,99,115,99]⟩ : ByteArray) r4) (⟨#[98,115,114]⟩ : ByteArray) (r5 ++ ([(⟨4,0,p2⟩ : GSpec),(⟨4,1,p2⟩ : GSpec)] : List GSpec))) → j7 () = some r → Run X56 [.inBlock 0,.code c56_51] σ2 w24 (.fn (Q56 w0 h0 r)) := by
      intro σ2 w24 h22 le14 st29 s11_j7 R22 M28 H
      rw [hj7] at H
      exact Jj3 le14 st29 s11_j7 R22 M28 H
     refine vv rfl (aE (.string p0) rfl)<|vv rfl (x_strEq p0 (⟨#[98,115,114]⟩ : ByteArray) 9 9 rfl rfl)<|vv rfl (aE (.bool (decide (p0 = (⟨#[98,115,114]⟩ : ByteArray)))) rfl) ?_
     rcases aM H with ⟨hc13,H⟩ | ⟨hc13,H⟩
     · refine bC (wt2 (dT hc13) rfl) rfl (aE (I p2) rfl)<|bC (wt2 (dT hc13) rfl) rfl (aQ .lss .i64 p2 1 (.bool (decide (p2 < 1))) 3 3 rfl rfl rfl)<|vv rfl (dD (.bool (decide (p2 < 1))) (dT hc13) rfl rfl)<|vv rfl (aC (.bool (decide (p2 < 1))) rfl)<|aD ?_
       rcases aM H with ⟨hc14,H⟩ | ⟨hc14,H⟩
       · refine tr e56_46 (dT hc14) rfl<|aB e56_47<|aA e56_48<|vv rfl (aC (.slice none 0 0) rfl)<|vv rfl (aC (I 1) rfl)<|aD ?_
         cases H
         exact aJ e56_49 (res2 Try.results56 rfl rfl ⟨none,0,h17,rfl,st24,(SlR.none _)⟩)
       refine fa e56_46 (dF hc14) rfl<|aL e56_50 ?_
       exact Jj7 (Le.refl _) st24 rfl R17 M23 H
     refine aO (wf2 (dF hc13) rfl) rfl<|aO (wf2 (dF hc13) rfl) rfl<|vv rfl (dE (.bool false) (dF hc13) rfl rfl)<|vv rfl (aC (.bool false) rfl)<|aD<|dK e56_46 (p := false) rfl rfl<|aL e56_50 ?_
     exact Jj7 (Le.refl _) st24 rfl R17 M23 H
   refine tr e56_40 (bQ (dF hc12)) rfl<|aB e56_41<|aA e56_42<|vv rfl (aC (.slice none 0 0) rfl)<|vv rfl (aC (I 5) rfl)<|aD ?_
   cases H
   exact aJ e56_43 (res2 Try.results56 rfl rfl ⟨none,0,h17,rfl,st24,(SlR.none _)⟩)
 refine aO (wf2 (bQ (bY hc11)) rfl) rfl<|aO (wf2 (bQ (bY hc11)) rfl) rfl<|vv rfl (dD (.bool true) (bQ (bY hc11)) rfl rfl)<|vv rfl (aC (.bool true) rfl)<|aD<|cZ e56_40 (p := true) rfl rfl<|aB e56_41<|aA e56_42<|vv rfl (aC (.slice none 0 0) rfl)<|vv rfl (aC (I 5) rfl) ?_
 refine aD ?_
 cases H
 exact aJ e56_43 (res2 Try.results56 rfl rfl ⟨none,0,h17,rfl,st24,(SlR.none _)⟩)
theorem F97 : S97 := by
 intro p0 w0 h0 hh r H
 unfold m97 at H
 refine aP (fn := Try.f97) Try.func97 rfl (Nat.le_of_ble_eq_true rfl) ?_
 show Run X97 [.code c97_0] (fun t => List.getD [I p0] t undef) w0 (.fn (Q97 w0 h0 r))
 have st0 := St.init hh noM
 refine aB e97_0<|aA e97_1<|vv rfl (aC (.bool false) rfl)<|aD<|aB e97_2<|aA e97_3<|vv rfl (aE (I p0) rfl)<|vv rfl (aQ .lss .i64 p0 0 (.bool (decide (p0 < 0))) 3 3 rfl rfl rfl)<|vv rfl (aC (.bool (decide (p0 < 0))) rfl)<|aD ?_
 cases H
 exact aJ e97_4 (cD Try.results97 rfl ⟨h0,rfl,st0⟩)
abbrev ZSLl91_1_0 (k : Nat) : Prop := SLl91_1_0 k
theorem SLl91_1_0_z : SLl91_1_0 0 := by
  unfold SLl91_1_0; intros; rename_i H; exact absurd H (by simp [l91_1_0])
theorem SLl91_1_0_s (k : Nat) (ih : ZSLl91_1_0 k) : SLl91_1_0 (k + 1) := by
 intro p0 bD bE j1 w0 w h0 h σ xs1 r st s0 s1 s7 s8 R1 hd1 H
 cases xs1 with
 | nil =>
  rw [l91_1_0] at H
  have hk1 := cU hd1
  refine aB e91_7<|aA e91_8<|vv rfl (aQ .lss .i64 (j1 : Int) (p0.length : Int) (.bool (decide ((j1 : Int) < (p0.length : Int)))) 3 3 s8 s7 rfl)<|aD<|aB e91_9<|fa e91_10 hk1 rfl<|bO e91_12 rfl<|aB e91_25<|aA e91_26<|vv rfl (aC (I (-1)) rfl) ?_
  refine aD ?_
  cases H
  exact aJ e91_27 (cD Try.results91 rfl ⟨h,rfl,st⟩)
 | cons x1 xs2 =>
  rw [l91_1_0] at H
  obtain ⟨hk2,hj1,hx1,hd2⟩ := cJ hd1
  refine aB e91_7<|aA e91_8<|vv rfl (aQ .lss .i64 (j1 : Int) (p0.length : Int) (.bool (decide ((j1 : Int) < (p0.length : Int)))) 3 3 s8 s7 rfl)<|aD<|aB e91_9<|tr e91_10 hk2 rfl<|aL e91_11<|aB e91_13<|aT e91_14<|aB e91_15 ?_
  refine aA e91_16<|vv rfl (aE (I (j1 : Int)) s8)<|vv rfl (aC (I (j1 : Int)) rfl)<|aD<|aB e91_17<|aA e91_18<|vv rfl (aE (.func (.func 97) #[] #[]) s1)<|vv rfl (aE (.slice bD p0.length bE) s0)<|vv rfl (aE (I (j1 : Int)) rfl) ?_
  obtain ⟨b1,o1,vs1,ea1,rp1,cl1⟩ := SlR.at R1 hx1
  obtain rfl := rp1
  refine vv rfl (aY u43 sz3 rfl rfl ea1 (Int.natCast_nonneg _) (Int.ofNat_lt.2 hj1))<|vv rfl (aN (I x1) sc3 rfl (((cl1 _ (Has.le (Le.refl _) st.has)) 0 (by decide)).trans rfl)) ?_
  obtain ⟨r1,hr1,H⟩ := aK H
  refine dQ [] [] [I x1] [I x1] en97 rfl rfl rfl rfl rfl (F97 st.has hr1) ?_
  rintro _ w1 ⟨h1,rfl,sp1⟩
  have st1 := st.call0 sp1
  refine aD ?_
  rcases aM H with ⟨hc1,H⟩ | ⟨hc1,H⟩
  · refine tr e91_19 hc1 rfl<|aB e91_20<|aA e91_21<|vv rfl (aE (I (j1 : Int)) rfl)<|vv rfl (aC (I (j1 : Int)) rfl)<|aD ?_
    cases H
    exact aJ e91_22 (cD Try.results91 rfl ⟨h1,rfl,st1⟩)
  refine fa e91_19 (bY hc1) rfl<|aL e91_23<|aZ<|aA e91_24<|vv rfl (aQ .add .i64 (j1 : Int) 1 (I ((j1 + 1 : Nat) : Int)) 3 3 s8 rfl (dL hj1 (SlR.mono sp1.le R1).mx))<|vv rfl (aE (I ((j1 + 1 : Nat) : Int)) rfl)<|aD<|bI ?_
  exact ih (j1 := (j1 + 1)) st1 s0 s1 s7 rfl (SlR.mono sp1.le R1) hd2 H
theorem ZSLl91_1_0_all : ∀ k,ZSLl91_1_0 k
  | 0 => SLl91_1_0_z
  | k + 1 => SLl91_1_0_s k (ZSLl91_1_0_all k)
theorem Fl91_1_0 (k : Nat) : SLl91_1_0 k := (ZSLl91_1_0_all k)
theorem F91_1 (k : Nat) : S91_1 k := by
 intro p0 bD bE w0 h0 hh Rp0 r H
 unfold m91_1 at H
 refine aP (fn := Try.f91) Try.func91 rfl (Nat.le_of_ble_eq_true rfl) ?_
 show Run X91 [.code c91_0] (fun t => List.getD [.slice bD p0.length bE,.func (.func 97) #[] #[]] t undef) w0 (.fn (Q91_1 w0 h0 r))
 have st0 := St.init hh noM
 refine aB e91_0<|aA e91_1<|vv rfl (aC (I 0) rfl)<|aD<|aB e91_2<|aB e91_3<|aA e91_4<|vv rfl (aE (.slice bD p0.length bE) rfl)<|vv rfl (bK u43 rfl)<|vv rfl (aE (I 0) rfl) ?_
 refine aD<|aT e91_5<|bZ e91_6 ?_
 exact Fl91_1_0 k (j1 := 0) st0 rfl rfl rfl rfl Rp0 rfl H
theorem F77_1 (k : Nat) : S77_1 k := by
 intro p0 bD bE w0 h0 hh Rp0 r H
 unfold m77_1 at H
 refine aP (fn := Try.f77) Try.func77 rfl (Nat.le_of_ble_eq_true rfl) ?_
 show Run X77 [.code c77_0] (fun t => List.getD [.slice bD p0.length bE,.func (.func 97) #[] #[]] t undef) w0 (.fn (Q77_1 w0 h0 r))
 have st0 := St.init hh noM
 refine aB e77_0<|aA e77_1<|vv rfl (aC (.bool false) rfl)<|aD<|aB e77_2<|aA e77_3<|vv rfl (aE (.slice bD p0.length bE) rfl)<|vv rfl (aE (.func (.func 97) #[] #[]) rfl) ?_
 obtain ⟨r1,hr1,H⟩ := aK H
 refine aU [.slice bD p0.length bE,.func (.func 97) #[] #[]] en91 rfl rfl rfl (F91_1 k st0.has Rp0 hr1) ?_
 rintro _ w1 ⟨h1,rfl,sp1⟩
 have st1 := st0.call0 sp1
 refine vv rfl (aQ .geq .i64 r1 0 (.bool (decide (0 ≤ r1))) 3 3 rfl rfl rfl)<|vv rfl (aC (.bool (decide (0 ≤ r1))) rfl)<|aD ?_
 cases H
 exact aJ e77_4 (cD Try.results77 rfl ⟨h1,rfl,st1⟩)
abbrev ZSLl101_0 (k : Nat) : Prop := SLl101_0 k
theorem SLl101_0_z : SLl101_0 0 := by
  unfold SLl101_0; intros; rename_i H; exact absurd H (by simp [l101_0])
theorem SLl101_0_s (k : Nat) (ih : ZSLl101_0 k) : SLl101_0 (k + 1) := by
 intro p0 bD bE j1 p1 w0 w h0 h σ xs1 r st s0 s1 s7 s8 R1 hd1 H
 cases xs1 with
 | nil =>
  rw [l101_0] at H
  have hk1 := cU hd1
  refine aB e101_7<|aA e101_8<|vv rfl (aQ .lss .i64 (j1 : Int) (p0.length : Int) (.bool (decide ((j1 : Int) < (p0.length : Int)))) 3 3 s8 s7 rfl)<|aD<|aB e101_9<|fa e101_10 hk1 rfl<|bO e101_12 rfl<|aB e101_25<|aA e101_26<|vv rfl (aC (I (-1)) rfl) ?_
  refine aD ?_
  cases H
  exact aJ e101_27 (cD Try.results101 rfl ⟨h,rfl,st⟩)
 | cons x1 xs2 =>
  rw [l101_0] at H
  obtain ⟨hk2,hj1,hx1,hd2⟩ := cJ hd1
  refine aB e101_7<|aA e101_8<|vv rfl (aQ .lss .i64 (j1 : Int) (p0.length : Int) (.bool (decide ((j1 : Int) < (p0.length : Int)))) 3 3 s8 s7 rfl)<|aD<|aB e101_9<|tr e101_10 hk2 rfl<|aL e101_11<|aB e101_13<|aT e101_14<|aB e101_15 ?_
  refine aA e101_16<|vv rfl (aE (I (j1 : Int)) s8)<|vv rfl (aC (I (j1 : Int)) rfl)<|aD<|aB e101_17<|aA e101_18<|vv rfl (aE (I p1) s1)<|vv rfl (aE (.slice bD p0.length bE) s0)<|vv rfl (aE (I (j1 : Int)) rfl) ?_
  obtain ⟨b1,o1,vs1,ea1,rp1,cl1⟩ := SlR.at R1 hx1
  obtain rfl := rp1
  refine vv rfl (aY u43 sz3 rfl rfl ea1 (Int.natCast_nonneg _) (Int.ofNat_lt.2 hj1))<|vv rfl (aN (I x1) sc3 rfl (((cl1 _ (Has.le (Le.refl _) st.has)) 0 (by decide)).trans rfl))<|vv rfl (aQ .eql .i64 p1 x1 (.bool (decide (p1 = x1))) 3 3 rfl rfl rfl)<|aD ?_
  rcases aM H with ⟨hc1,H⟩ | ⟨hc1,H⟩
  · refine tr e101_19 (dT hc1) rfl<|aB e101_20<|aA e101_21<|vv rfl (aE (I (j1 : Int)) rfl)<|vv rfl (aC (I (j1 : Int)) rfl)<|aD ?_
    cases H
    exact aJ e101_22 (cD Try.results101 rfl ⟨h,rfl,st⟩)
  refine fa e101_19 (dF hc1) rfl<|aL e101_23<|aZ<|aA e101_24<|vv rfl (aQ .add .i64 (j1 : Int) 1 (I ((j1 + 1 : Nat) : Int)) 3 3 s8 rfl (dL hj1 R1.mx))<|vv rfl (aE (I ((j1 + 1 : Nat) : Int)) rfl)<|aD<|bI ?_
  exact ih (j1 := (j1 + 1)) st s0 s1 s7 rfl R1 hd2 H
theorem ZSLl101_0_all : ∀ k,ZSLl101_0 k
  | 0 => SLl101_0_z
  | k + 1 => SLl101_0_s k (ZSLl101_0_all k)
theorem Fl101_0 (k : Nat) : SLl101_0 k := (ZSLl101_0_all k)
theorem F101 (k : Nat) : S101 k := by
 intro p0 bD bE p1 w0 h0 hh Rp0 r H
 unfold m101 at H
 refine aP (fn := Try.f101) Try.func101 rfl (Nat.le_of_ble_eq_true rfl) ?_
 show Run X101 [.code c101_0] (fun t => List.getD [.slice bD p0.length bE,I p1] t undef) w0 (.fn (Q101 w0 h0 r))
 have st0 := St.init hh noM
 refine aB e101_0<|aA e101_1<|vv rfl (aC (I 0) rfl)<|aD<|aB e101_2<|aB e101_3<|aA e101_4<|vv rfl (aE (.slice bD p0.length bE) rfl)<|vv rfl (bK u43 rfl)<|vv rfl (aE (I 0) rfl) ?_
 refine aD<|aT e101_5<|bZ e101_6 ?_
 exact Fl101_0 k (j1 := 0) st0 rfl rfl rfl rfl Rp0 rfl H
theorem F98 (k : Nat) : S98 k := by
 intro p0 bD bE p1 w0 h0 hh Rp0 r H
 unfold m98 at H
 refine aP (fn := Try.f98) Try.func98 rfl (Nat.le_of_ble_eq_true rfl) ?_
 show Run X98 [.code c98_0] (fun t => List.getD [.slice bD p0.length bE,I p1] t undef) w0 (.fn (Q98 w0 h0 r))
 have st0 := St.init hh noM
 refine aB e98_0<|aA e98_1<|vv rfl (aC (.bool false) rfl)<|aD<|aB e98_2<|aA e98_3<|vv rfl (aE (.slice bD p0.length bE) rfl)<|vv rfl (aE (I p1) rfl) ?_
 obtain ⟨r1,hr1,H⟩ := aK H
 refine aU [.slice bD p0.length bE,I p1] en101 rfl rfl rfl (F101 k st0.has Rp0 hr1) ?_
 rintro _ w1 ⟨h1,rfl,sp1⟩
 have st1 := st0.call0 sp1
 refine vv rfl (aQ .geq .i64 r1 0 (.bool (decide (0 ≤ r1))) 3 3 rfl rfl rfl)<|vv rfl (aC (.bool (decide (0 ≤ r1))) rfl)<|aD ?_
 cases H
 exact aJ e98_4 (cD Try.results98 rfl ⟨h1,rfl,st1⟩)
theorem F99 : S99 := by
 intro p0 p1 w0 h0 hh r H
 unfold m99 at H
 refine aP (fn := Try.f99) Try.func99 rfl (Nat.le_of_ble_eq_true rfl) ?_
 show Run X99 [.code c99_0] (fun t => List.getD [.int .u64 p0,.int .u64 p1] t undef) w0 (.fn (Q99 w0 h0 r))
 have st0 := St.init hh noM
 refine aB e99_0<|aA e99_1<|vv rfl (aC (.int .u64 0) rfl)<|vv rfl (aC (.int .u64 0) rfl)<|aD<|aB e99_2<|aA e99_3<|vv rfl (aE (.int .u64 p0) rfl)<|vv rfl (aQ .and .u64 p0 4294967295 (.int .u64 (bP p0 4294967295)) 158 158 rfl rfl rfl)<|vv rfl (aC (.int .u64 (bP p0 4294967295)) rfl) ?_
 refine aD<|aB e99_4<|aA e99_5<|vv rfl (aE (.int .u64 p0) rfl)<|vv rfl (x_shr .u64 .u64 p0 32 (.int .u64 (Int.fdiv p0 4294967296)) 158 163 rfl rfl (by decide) rfl)<|vv rfl (aC (.int .u64 (Int.fdiv p0 4294967296)) rfl)<|aD<|aB e99_6<|aA e99_7<|vv rfl (aE (.int .u64 p1) rfl) ?_
 refine vv rfl (aQ .and .u64 p1 4294967295 (.int .u64 (bP p1 4294967295)) 158 158 rfl rfl rfl)<|vv rfl (aC (.int .u64 (bP p1 4294967295)) rfl)<|aD<|aB e99_8<|aA e99_9<|vv rfl (aE (.int .u64 p1) rfl)<|vv rfl (x_shr .u64 .u64 p1 32 (.int .u64 (Int.fdiv p1 4294967296)) 158 163 rfl rfl (by decide) rfl)<|vv rfl (aC (.int .u64 (Int.fdiv p1 4294967296)) rfl)<|aD<|aB e99_10 ?_
 refine aA e99_11<|vv rfl (aE (.int .u64 (bP p0 4294967295)) rfl)<|vv rfl (aE (.int .u64 (bP p1 4294967295)) rfl)<|vv rfl (aQ .mul .u64 (bP p0 4294967295) (bP p1 4294967295) (.int .u64 (bR ((bP p0 4294967295) * (bP p1 4294967295)))) 158 158 rfl rfl rfl)<|vv rfl (aC (.int .u64 (bR ((bP p0 4294967295) * (bP p1 4294967295)))) rfl)<|aD<|aB e99_12<|aA e99_13<|vv rfl (aE (.int .u64 (Int.fdiv p0 4294967296)) rfl)<|vv rfl (aE (.int .u64 (bP p1 4294967295)) rfl) ?_
 refine vv rfl (aQ .mul .u64 (Int.fdiv p0 4294967296) (bP p1 4294967295) (.int .u64 (bR ((Int.fdiv p0 4294967296) * (bP p1 4294967295)))) 158 158 rfl rfl rfl)<|vv rfl (aE (.int .u64 (bR ((bP p0 4294967295) * (bP p1 4294967295)))) rfl)<|vv rfl (x_shr .u64 .u64 (bR ((bP p0 4294967295) * (bP p1 4294967295))) 32 (.int .u64 (Int.fdiv (bR ((bP p0 4294967295) * (bP p1 4294967295))) 4294967296)) 158 163 rfl rfl (by decide) rfl)<|vv rfl (aQ .add .u64 (bR ((Int.fdiv p0 4294967296) * (bP p1 4294967295))) (Int.fdiv (bR ((bP p0 4294967295) * (bP p1 4294967295))) 4294967296) (.int .u64 (bR ((bR ((Int.fdiv p0 4294967296) * (bP p1 4294967295))) + (Int.fdiv (bR ((bP p0 4294967295) * (bP p1 4294967295))) 4294967296)))) 158 158 rfl rfl rfl)<|vv rfl (aC (.int .u64 (bR ((bR ((Int.fdiv p0 4294967296) * (bP p1 4294967295))) + (Int.fdiv (bR ((bP p0 4294967295) * (bP p1 4294967295))) 4294967296)))) rfl)<|aD<|aB e99_14<|aA e99_15<|vv rfl (aE (.int .u64 (bR ((bR ((Int.fdiv p0 4294967296) * (bP p1 4294967295))) + (Int.fdiv (bR ((bP p0 4294967295) * (bP p1 4294967295))) 4294967296)))) rfl)<|vv rfl (aQ .and .u64 (bR ((bR ((Int.fdiv p0 4294967296) * (bP p1 4294967295))) + (Int.fdiv (bR ((bP p0 4294967295) * (bP p1 4294967295))) 4294967296))) 4294967295 (.int .u64 (bP (bR ((bR ((Int.fdiv p0 4294967296) * (bP p1 4294967295))) + (Int.fdiv (bR ((bP p0 4294967295) * (bP p1 4294967295))) 4294967296))) 4294967295)) 158 158 rfl rfl rfl) ?_
 refine vv rfl (aC (.int .u64 (bP (bR ((bR ((Int.fdiv p0 4294967296) * (bP p1 4294967295))) + (Int.fdiv (bR ((bP p0 4294967295) * (bP p1 4294967295))) 4294967296))) 4294967295)) rfl)<|aD<|aB e99_16<|aA e99_17<|vv rfl (aE (.int .u64 (bR ((bR ((Int.fdiv p0 4294967296) * (bP p1 4294967295))) + (Int.fdiv (bR ((bP p0 4294967295) * (bP p1 4294967295))) 4294967296)))) rfl)<|vv rfl (x_shr .u64 .u64 (bR ((bR ((Int.fdiv p0 4294967296) * (bP p1 4294967295))) + (Int.fdiv (bR ((bP p0 4294967295) * (bP p1 4294967295))) 4294967296))) 32 (.int .u64 (Int.fdiv (bR ((bR ((Int.fdiv p0 4294967296) * (bP p1 4294967295))) + (Int.fdiv (bR ((bP p0 4294967295) * (bP p1 4294967295))) 4294967296))) 4294967296)) 158 163 rfl rfl (by decide) rfl)<|vv rfl (aC (.int .u64 (Int.fdiv (bR ((bR ((Int.fdiv p0 4294967296) * (bP p1 4294967295))) + (Int.fdiv (bR ((bP p0 4294967295) * (bP p1 4294967295))) 4294967296))) 4294967296)) rfl)<|aD<|aB e99_18<|aA e99_19 ?_
 refine vv rfl (aE (.int .u64 (bP (bR ((bR ((Int.fdiv p0 4294967296) * (bP p1 4294967295))) + (Int.fdiv (bR ((bP p0 4294967295) * (bP p1 4294967295))) 4294967296))) 4294967295)) rfl)<|vv rfl (aE (.int .u64 (bP p0 4294967295)) rfl)<|vv rfl (aE (.int .u64 (Int.fdiv p1 4294967296)) rfl)<|vv rfl (aQ .mul .u64 (bP p0 4294967295) (Int.fdiv p1 4294967296) (.int .u64 (bR ((bP p0 4294967295) * (Int.fdiv p1 4294967296)))) 158 158 rfl rfl rfl)<|vv rfl (aQ .add .u64 (bP (bR ((bR ((Int.fdiv p0 4294967296) * (bP p1 4294967295))) + (Int.fdiv (bR ((bP p0 4294967295) * (bP p1 4294967295))) 4294967296))) 4294967295) (bR ((bP p0 4294967295) * (Int.fdiv p1 4294967296))) (.int .u64 (bR ((bP (bR ((bR ((Int.fdiv p0 4294967296) * (bP p1 4294967295))) + (Int.fdiv (bR ((bP p0 4294967295) * (bP p1 4294967295))) 4294967296))) 4294967295) + (bR ((bP p0 4294967295) * (Int.fdiv p1 4294967296)))))) 158 158 rfl rfl rfl)<|vv rfl (aC (.int .u64 (bR ((bP (bR ((bR ((Int.fdiv p0 4294967296) * (bP p1 4294967295))) + (Int.fdiv (bR ((bP p0 4294967295) * (bP p1 4294967295))) 4294967296))) 4294967295) + (bR ((bP p0 4294967295) * (Int.fdiv p1 4294967296)))))) rfl)<|aD<|aB e99_20<|aA e99_21<|vv rfl (aE (.int .u64 (Int.fdiv p0 4294967296)) rfl) ?_
 refine vv rfl (aE (.int .u64 (Int.fdiv p1 4294967296)) rfl)<|vv rfl (aQ .mul .u64 (Int.fdiv p0 4294967296) (Int.fdiv p1 4294967296) (.int .u64 (bR ((Int.fdiv p0 4294967296) * (Int.fdiv p1 4294967296)))) 158 158 rfl rfl rfl)<|vv rfl (aE (.int .u64 (Int.fdiv (bR ((bR ((Int.fdiv p0 4294967296) * (bP p1 4294967295))) + (Int.fdiv (bR ((bP p0 4294967295) * (bP p1 4294967295))) 4294967296))) 4294967296)) rfl)<|vv rfl (aQ .add .u64 (bR ((Int.fdiv p0 4294967296) * (Int.fdiv p1 4294967296))) (Int.fdiv (bR ((bR ((Int.fdiv p0 4294967296) * (bP p1 4294967295))) + (Int.fdiv (bR ((bP p0 4294967295) * (bP p1 4294967295))) 4294967296))) 4294967296) (.int .u64 (bR ((bR ((Int.fdiv p0 4294967296) * (Int.fdiv p1 4294967296))) + (Int.fdiv (bR ((bR ((Int.fdiv p0 4294967296) * (bP p1 4294967295))) + (Int.fdiv (bR ((bP p0 4294967295) * (bP p1 4294967295))) 4294967296))) 4294967296)))) 158 158 rfl rfl rfl)<|vv rfl (aE (.int .u64 (bR ((bP (bR ((bR ((Int.fdiv p0 4294967296) * (bP p1 4294967295))) + (Int.fdiv (bR ((bP p0 4294967295) * (bP p1 4294967295))) 4294967296))) 4294967295) + (bR ((bP p0 4294967295) * (Int.fdiv p1 4294967296)))))) rfl)<|vv rfl (x_shr .u64 .u64 (bR ((bP (bR ((bR ((Int.fdiv p0 4294967296) * (bP p1 4294967295))) + (Int.fdiv (bR ((bP p0 4294967295) * (bP p1 4294967295))) 4294967296))) 4294967295) + (bR ((bP p0 4294967295) * (Int.fdiv p1 4294967296))))) 32 (.int .u64 (Int.fdiv (bR ((bP (bR ((bR ((Int.fdiv p0 4294967296) * (bP p1 4294967295))) + (Int.fdiv (bR ((bP p0 4294967295) * (bP p1 4294967295))) 4294967296))) 4294967295) + (bR ((bP p0 4294967295) * (Int.fdiv p1 4294967296))))) 4294967296)) 158 163 rfl rfl (by decide) rfl)<|vv rfl (aQ .add .u64 (bR ((bR ((Int.fdiv p0 4294967296) * (Int.fdiv p1 4294967296))) + (Int.fdiv (bR ((bR ((Int.fdiv p0 4294967296) * (bP p1 4294967295))) + (Int.fdiv (bR ((bP p0 4294967295) * (bP p1 4294967295))) 4294967296))) 4294967296))) (Int.fdiv (bR ((bP (bR ((bR ((Int.fdiv p0 4294967296) * (bP p1 4294967295))) + (Int.fdiv (bR ((bP p0 4294967295) * (bP p1 4294967295))) 4294967296))) 4294967295) + (bR ((bP p0 4294967295) * (Int.fdiv p1 4294967296))))) 4294967296) (.int .u64 (bR ((bR ((bR ((Int.fdiv p0 4294967296) * (Int.fdiv p1 4294967296))) + (Int.fdiv (bR ((bR ((Int.fdiv p0 4294967296) * (bP p1 4294967295))) + (Int.fdiv (bR ((bP p0 4294967295) * (bP p1 4294967295))) 4294967296))) 4294967296))) + (Int.fdiv (bR ((bP (bR ((bR ((Int.fdiv p0 4294967296) * (bP p1 4294967295))) + (Int.fdiv (bR ((bP p0 4294967295) * (bP p1 4294967295))) 4294967296))) 4294967295) + (bR ((bP p0 4294967295) * (Int.fdiv p1 4294967296))))) 4294967296)))) 158 158 rfl rfl rfl)<|vv rfl (aC (.int .u64 (bR ((bR ((bR ((Int.fdiv p0 4294967296) * (Int.fdiv p1 4294967296))) + (Int.fdiv (bR ((bR ((Int.fdiv p0 4294967296) * (bP p1 4294967295))) + (Int.fdiv (bR ((bP p0 4294967295) * (bP p1 4294967295))) 4294967296))) 4294967296))) + (Int.fdiv (bR ((bP (bR ((bR ((Int.fdiv p0 4294967296) * (bP p1 4294967295))) + (Int.fdiv (bR ((bP p0 4294967295) * (bP p1 4294967295))) 4294967296))) 4294967295) + (bR ((bP p0 4294967295) * (Int.fdiv p1 4294967296))))) 4294967296)))) rfl)<|aD<|aB e99_22 ?_
 refine aA e99_23<|vv rfl (aE (.int .u64 p0) rfl)<|vv rfl (aE (.int .u64 p1) rfl)<|vv rfl (aQ .mul .u64 p0 p1 (.int .u64 (bR (p0 * p1))) 158 158 rfl rfl rfl)<|vv rfl (aC (.int .u64 (bR (p0 * p1))) rfl)<|aD ?_
 cases H
 exact aJ e99_24 (res2 Try.results99 rfl rfl ⟨h0,rfl,st0⟩)
abbrev ZSLl93_0 (k : Nat) : Prop := SLl93_0 k
theorem SLl93_0_z : SLl93_0 0 := by
  unfold SLl93_0; intros; rename_i H; exact absurd H (by simp [l93_0])
theorem SLl93_0_s (k : Nat) (ih : ZSLl93_0 k) : SLl93_0 (k + 1) := by
 intro p0 bD bE j3 w0 w h0 h σ i1 xs1 r st s4 s18 s19 s20 R1 hd1 H
 cases xs1 with
 | nil =>
  rw [l93_0] at H
  have hk1 := cU hd1
  refine aB e93_25<|aA e93_26<|vv rfl (aQ .lss .i64 (j3 : Int) (p0.length : Int) (.bool (decide ((j3 : Int) < (p0.length : Int)))) 3 3 s20 s19 rfl)<|aD<|aB e93_27<|fa e93_28 hk1 rfl<|bO e93_30 rfl<|aB e93_47<|aA e93_48<|vv rfl (aE (.int .u64 i1) s4) ?_
  refine vv rfl (x_conv .u64 .i64 i1 u3 u158 rfl)<|vv rfl (aC (I (wr (i1))) rfl)<|vv rfl (aC (I 0) rfl)<|aD ?_
  cases H
  exact aJ e93_49 (res2 Try.results93 rfl rfl ⟨h,rfl,st⟩)
 | cons x1 xs2 =>
  rw [l93_0] at H
  obtain ⟨hk2,hj1,hx1,hd2⟩ := cJ hd1
  refine aB e93_25<|aA e93_26<|vv rfl (aQ .lss .i64 (j3 : Int) (p0.length : Int) (.bool (decide ((j3 : Int) < (p0.length : Int)))) 3 3 s20 s19 rfl)<|aD<|aB e93_27<|tr e93_28 hk2 rfl<|aL e93_29<|aB e93_31<|aT e93_32<|aB e93_33 ?_
  refine aA e93_34 ?_
  obtain ⟨b1,o1,vs1,ea1,rp1,cl1⟩ := SlR.at R1 hx1
  obtain rfl := rp1
  refine vv rfl (aY u43 sz3 s18 s20 ea1 (Int.natCast_nonneg _) (Int.ofNat_lt.2 hj1))<|vv rfl (aN (I x1) sc3 rfl (((cl1 _ (Has.le (Le.refl _) st.has)) 0 (by decide)).trans rfl))<|vv rfl (aC (I x1) rfl)<|aD<|aB e93_35<|aA e93_36<|vv rfl (aE (.int .u64 i1) s4)<|vv rfl (aE (I x1) rfl)<|vv rfl (x_conv .i64 .u64 x1 u158 u3 rfl) ?_
  obtain ⟨r3,hr3,H⟩ := aK H
  refine aU [.int .u64 i1,.int .u64 (bR (x1))] en99 rfl rfl rfl (F99 st.has hr3) ?_
  rintro _ w3 ⟨h3,rfl,sp3⟩
  have st3 := st.call0 sp3
  refine vv rfl (aE (.tuple #[.int .u64 r3.1,.int .u64 r3.2]) rfl)<|vv rfl (bS (.int .u64 r3.1) rfl rfl)<|vv rfl (bS (.int .u64 r3.2) rfl rfl)<|vv rfl (aC (.int .u64 r3.1) rfl)<|vv rfl (aC (.int .u64 r3.2) rfl)<|aD<|aB e93_37<|aB e93_38<|aA e93_39<|vv rfl (aE (.int .u64 r3.1) rfl) ?_
  refine vv rfl (aQ .gtr .u64 r3.1 0 (.bool (decide (0 < r3.1))) 158 158 rfl rfl rfl)<|vv rfl (aE (.bool (decide (0 < r3.1))) rfl) ?_
  rcases aM H with ⟨hc4,H⟩ | ⟨hc4,H⟩
  · refine aO (wf2 (dT hc4) rfl) rfl<|aO (wf2 (dT hc4) rfl) rfl<|vv rfl (dD (.bool true) (dT hc4) rfl rfl)<|aD<|cZ e93_40 (p := true) rfl rfl<|aB e93_41<|aA e93_42<|vv rfl (aC (I 0) rfl)<|vv rfl (aC (I 2) rfl)<|aD ?_
    cases H
    exact aJ e93_43 (res2 Try.results93 rfl rfl ⟨h3,rfl,st3⟩)
  refine bC (wt2 (dF hc4) rfl) rfl (aE (.int .u64 r3.2) rfl)<|bC (wt2 (dF hc4) rfl) rfl (aQ .geq .u64 r3.2 4611686018427387904 (.bool (decide (4611686018427387904 ≤ r3.2))) 158 158 rfl rfl rfl)<|vv rfl (dE (.bool (decide (4611686018427387904 ≤ r3.2))) (dF hc4) rfl rfl)<|aD ?_
  rcases aM H with ⟨hc5,H⟩ | ⟨hc5,H⟩
  · refine tr e93_40 (dT hc5) rfl<|aB e93_41<|aA e93_42<|vv rfl (aC (I 0) rfl)<|vv rfl (aC (I 2) rfl)<|aD ?_
    cases H
    exact aJ e93_43 (res2 Try.results93 rfl rfl ⟨h3,rfl,st3⟩)
  refine fa e93_40 (dF hc5) rfl<|aL e93_44<|aA e93_45<|vv rfl (aE (.int .u64 r3.2) rfl)<|vv rfl (aC (.int .u64 r3.2) rfl)<|aD<|aZ<|aA e93_46<|vv rfl (aQ .add .i64 (j3 : Int) 1 (I ((j3 + 1 : Nat) : Int)) 3 3 s20 rfl (dL hj1 (SlR.mono sp3.le R1).mx))<|vv rfl (aE (I ((j3 + 1 : Nat) : Int)) rfl) ?_
  refine aD<|bI ?_
  exact ih (j3 := (j3 + 1)) st3 rfl s18 s19 rfl (SlR.mono sp3.le R1) hd2 H
theorem ZSLl93_0_all : ∀ k,ZSLl93_0 k
  | 0 => SLl93_0_z
  | k + 1 => SLl93_0_s k (ZSLl93_0_all k)
theorem Fl93_0 (k : Nat) : SLl93_0 k := (ZSLl93_0_all k)
theorem F93 (k : Nat) : S93 k := by
 intro p0 bD bE w0 h0 hh Rp0 r H
 unfold m93 at H
 refine aP (fn := Try.f93) Try.func93 rfl (Nat.le_of_ble_eq_true rfl) ?_
 show Run X93 [.code c93_0] (fun t => List.getD [.slice bD p0.length bE] t undef) w0 (.fn (Q93 w0 h0 r))
 have st0 := St.init hh noM
 refine aB e93_0<|aA e93_1<|vv rfl (aC (I 0) rfl)<|vv rfl (aC (I 0) rfl)<|aD<|aB e93_2<|aB e93_3<|aA e93_4<|vv rfl (aE (.slice bD p0.length bE) rfl)<|vv rfl (bK u43 rfl) ?_
 refine vv rfl (aQ .gtr .i64 (p0.length : Int) 4 (.bool (decide (4 < (p0.length : Int)))) 3 3 rfl rfl rfl)<|vv rfl (aE (.bool (decide (4 < (p0.length : Int)))) rfl) ?_
 rcases aM H with ⟨hc1,H⟩ | ⟨hc1,H⟩
 · refine aO (wf2 (dT hc1) rfl) rfl<|aO (wf2 (dT hc1) rfl) rfl<|vv rfl (dD (.bool true) (dT hc1) rfl rfl)<|aD<|cZ e93_5 (p := true) rfl rfl<|aB e93_6<|aA e93_7<|vv rfl (aC (I 0) rfl)<|vv rfl (aC (I 1) rfl)<|aD ?_
   cases H
   exact aJ e93_8 (res2 Try.results93 rfl rfl ⟨h0,rfl,st0⟩)
 refine bC (wt2 (dF hc1) rfl) rfl (aE (.slice bD p0.length bE) rfl) ?_
 obtain ⟨r1,hr1,H⟩ := aK H
 refine aU [.slice bD p0.length bE,.func (.func 97) #[] #[]] en77 (wt2 (dF hc1) rfl) rfl rfl (F77_1 k st0.has Rp0 hr1) ?_
 rintro _ w1 ⟨h1,rfl,sp1⟩
 have st1 := st0.call0 sp1
 refine vv rfl (dE (.bool r1) (dF hc1) rfl rfl)<|aD ?_
 rcases aM H with ⟨hc2,H⟩ | ⟨hc2,H⟩
 · refine tr e93_5 hc2 rfl<|aB e93_6<|aA e93_7<|vv rfl (aC (I 0) rfl)<|vv rfl (aC (I 1) rfl)<|aD ?_
   cases H
   exact aJ e93_8 (res2 Try.results93 rfl rfl ⟨h1,rfl,st1⟩)
 refine fa e93_5 (bY hc2) rfl<|aL e93_9<|aB e93_10<|aB e93_11<|aA e93_12<|vv rfl (aE (.slice bD p0.length bE) rfl) ?_
 obtain ⟨r2,hr2,H⟩ := aK H
 refine aU [.slice bD p0.length bE,I 0] en98 rfl rfl rfl (F98 k st1.has (SlR.mono sp1.le Rp0) hr2) ?_
 rintro _ w2 ⟨h2,rfl,sp2⟩
 have st2 := st1.call0 sp2
 refine aD ?_
 rcases aM H with ⟨hc3,H⟩ | ⟨hc3,H⟩
 · refine tr e93_13 hc3 rfl<|aB e93_14<|aA e93_15<|vv rfl (aC (I 0) rfl)<|vv rfl (aC (I 0) rfl)<|aD ?_
   cases H
   exact aJ e93_16 (res2 Try.results93 rfl rfl ⟨h2,rfl,st2⟩)
 refine fa e93_13 (bY hc3) rfl<|aL e93_17<|aB e93_18<|aA e93_19<|vv rfl (aC (.int .u64 1) rfl)<|aD<|aB e93_20<|aB e93_21<|aA e93_22<|vv rfl (aE (.slice bD p0.length bE) rfl) ?_
 refine vv rfl (bK u43 rfl)<|vv rfl (aE (I 0) rfl)<|aD<|aT e93_23<|bZ e93_24 ?_
 exact Fl93_0 k (j3 := 0) st2 rfl rfl rfl rfl (SlR.mono (sp1.le.trans sp2.le) Rp0) rfl H
abbrev ZSLl94_0 (k : Nat) : Prop := SLl94_0 k ∧ SLl94_1 k
theorem SLl94_0_z : SLl94_0 0 := by
  unfold SLl94_0; intros; rename_i H; exact absurd H (by simp [l94_0])
theorem SLl94_0_s (k : Nat) (ih : ZSLl94_0 k) : SLl94_0 (k + 1) := by
 intro p0 bD cM bE cN b1 j1 p1 w0 w h0 h σ b2 b3 b4 b5 i1 i2 i3 i4 i5 xs1 r st s0 s4 s6 s12 s13 s14 R1 M2 lb2 R2 hd1 H
 cases xs1 with
 | nil =>
  rw [l94_0] at H
  have hk1 := cU hd1
  refine aB e94_9<|aA e94_10<|vv rfl (aQ .lss .i64 (j1 : Int) (p1.length : Int) (.bool (decide ((j1 : Int) < (p1.length : Int)))) 3 3 s14 s13 rfl)<|aD<|aB e94_11<|fa e94_12 hk1 rfl<|bO e94_14 rfl<|aB e94_70<|aB e94_71<|aA e94_72 ?_
  refine vv rfl (aE (.slice bD p0.length bE) s0)<|vv rfl (bK u43 rfl)<|vv rfl (aE (I 0) rfl)<|aD<|aT e94_73<|bZ e94_74 ?_
  exact ih.2 st s4 rfl rfl M2 lb2 H
 | cons x1 xs2 =>
  rw [l94_0] at H
  obtain ⟨hk2,hj1,hx1,hd2⟩ := cJ hd1
  refine aB e94_9<|aA e94_10<|vv rfl (aQ .lss .i64 (j1 : Int) (p1.length : Int) (.bool (decide ((j1 : Int) < (p1.length : Int)))) 3 3 s14 s13 rfl)<|aD<|aB e94_11<|tr e94_12 hk2 rfl<|aL e94_13<|aB e94_15<|aT e94_16<|aB e94_17 ?_
  refine aA e94_18 ?_
  obtain ⟨b10,o1,vs1,ea1,rp1,cl1⟩ := SlR.at R2 hx1
  obtain rfl := GSpec.out rp1
  refine vv rfl (aY u78 sz137 s12 s14 ea1 (Int.natCast_nonneg _) (Int.ofNat_lt.2 hj1))<|vv rfl (bH [I x1.Kind,I x1.Mode,I x1.Size] ag137 sz137 rfl rfl (cl1 _ (Has.le (Le.refl _) st.has)))<|cG (.agg #[I 0,I 0,I 0]) zr137 rfl rfl (fun b11 w4 al2 => ?_)
  replace al2 : Al _ (.cells (List.toArray [I 0,I 0,I 0]) 137 (0,0)) b11 w4 := al2
  have M6 := Mut.new st al2
  have lb4 := st.alB al2
  have sp4 := al2.st st.has
  have M7 := M2.call0 sp4
  have st4 := st.call0 sp4
  refine aV (o := 0) (n := 3) [I x1.Kind,I x1.Mode,I x1.Size] [I x1.Kind,I x1.Mode,I x1.Size] (.agg #[I x1.Kind,I x1.Mode,I x1.Size]) sz137 rfl rfl rfl rfl M6 rfl rfl rfl rfl rfl (fun w5 wr3 M8 => ?_)
  have sp5 := wr3.st st4.has M6.none
  have M9 := M7.call sp5 (fun e => ((Mut.ne_ty M7 M6 (by decide)) e))
  have st5 := st4.call sp5 (fun x e => (.inl (e ▸ lb4)))
  obtain ⟨h1,le1,g1,st6,kp1⟩ := M8.fz st5 lb4
  have M10 := M9.fr kp1 (Mut.ne_ty M9 M8 (by decide))
  refine aD<|aB e94_19<|aB e94_20<|aA e94_21<|vv rfl (aF (b := b11) (o := 0) fl137_1 rfl)<|vv rfl (aN (I x1.Mode) sc3 rfl ((aR (st6.has _ _ g1)).trans rfl))<|vv rfl (aQ .lss .i64 x1.Mode 0 (.bool (decide (x1.Mode < 0))) 3 3 rfl rfl rfl)<|vv rfl (aE (.bool (decide (x1.Mode < 0))) rfl) ?_
  rcases aM H with ⟨hc3,H⟩ | ⟨hc3,H⟩
  · refine aO (wf2 (dT hc3) rfl) rfl<|aO (wf2 (dT hc3) rfl) rfl<|aO (wf2 (dT hc3) rfl) rfl<|aO (wf2 (dT hc3) rfl) rfl<|aO (wf2 (dT hc3) rfl) rfl<|vv rfl (dD (.bool true) (dT hc3) rfl rfl)<|aD<|cZ e94_22 (p := true) rfl rfl<|aB e94_23<|aA e94_24 ?_
    refine vv rfl (bH [.bool b2,I i1,.bool b3,I i2,.bool b4,I i3,.bool b5,I i4] ag154 sz154 s4 rfl (bA M10.get rfl))<|aV (o := 0) (n := 8) [.bool b2,I i1,.bool b3,I i2,.bool b4,I i3,.bool b5,I i4] [.bool b2,I i1,.bool b3,I i2,.bool b4,I i3,.bool b5,I i4] (.agg #[.bool b2,I i1,.bool b3,I i2,.bool b4,I i3,.bool b5,I i4]) sz154 rfl rfl s4 rfl M10 rfl rfl rfl rfl rfl (fun w6 wr4 M11 => ?_)
    have sp6 := wr4.st st6.has M10.none
    have st7 := st6.call sp6 (fun x e => (.inl (e ▸ lb2)))
    refine vv rfl (aC (.bool false) rfl)<|aD ?_
    cases H
    exact aJ e94_25 (res2 Try.results94 (eH [.bool b2,I i1,.bool b3,I i2,.bool b4,I i3,.bool b5,I i4] ag154 sz154 s4 rfl (bA M11.get rfl)) rfl ⟨h1,rfl,st7⟩)
  refine bC (wt2 (dF hc3) rfl) rfl (aF (b := b11) (o := 0) fl137_1 rfl)<|bC (wt2 (dF hc3) rfl) rfl (aN (I x1.Mode) sc3 rfl ((aR (st6.has _ _ g1)).trans rfl))<|bC (wt2 (dF hc3) rfl) rfl (aE (.slice bD p0.length bE) s0)<|bC (wt2 (dF hc3) rfl) rfl (bK u43 rfl)<|bC (wt2 (dF hc3) rfl) rfl (aQ .geq .i64 x1.Mode (p0.length : Int) (.bool (decide ((p0.length : Int) ≤ x1.Mode))) 3 3 rfl rfl rfl)<|vv rfl (dE (.bool (decide ((p0.length : Int) ≤ x1.Mode))) (dF hc3) rfl rfl)<|aD ?_
  rcases aM H with ⟨hc4,H⟩ | ⟨hc4,H⟩
  · refine tr e94_22 (dT hc4) rfl<|aB e94_23<|aA e94_24<|vv rfl (bH [.bool b2,I i1,.bool b3,I i2,.bool b4,I i3,.bool b5,I i4] ag154 sz154 s4 rfl (bA M10.get rfl))<|aV (o := 0) (n := 8) [.bool b2,I i1,.bool b3,I i2,.bool b4,I i3,.bool b5,I i4] [.bool b2,I i1,.bool b3,I i2,.bool b4,I i3,.bool b5,I i4] (.agg #[.bool b2,I i1,.bool b3,I i2,.bool b4,I i3,.bool b5,I i4]) sz154 rfl rfl s4 rfl M10 rfl rfl rfl rfl rfl (fun w7 wr5 M12 => ?_)
    have sp7 := wr5.st st6.has M10.none
    have st8 := st6.call sp7 (fun x e => (.inl (e ▸ lb2)))
    refine vv rfl (aC (.bool false) rfl)<|aD ?_
    cases H
    exact aJ e94_25 (res2 Try.results94 (eH [.bool b2,I i1,.bool b3,I i2,.bool b4,I i3,.bool b5,I i4] ag154 sz154 s4 rfl (bA M12.get rfl)) rfl ⟨h1,rfl,st8⟩)
  refine fa e94_22 (dF hc4) rfl<|aL e94_26<|aB e94_27<|aA e94_28 ?_
  obtain ⟨j5,hj5,H⟩ := dH H
  have Jj5 : ∀ {y1 : Bool} {σ1 : Env} {w8 : World} {h2 : Sto},Le h1 h2 → St w0 noM h0 h2 w8 → σ1 0 = .slice bD p0.length bE → σ1 4 = .pointer (some ⟨b1,0,none⟩) → σ1 8 = .pointer (some ⟨b11,0,none⟩) → σ1 9 = .bool y1 → σ1 12 = .slice cM p1.length cN → σ1 13 = I (p1.length : Int) → σ1 14 = I (j1 : Int) → SlR h2 bD bE p0 → SlR h2 cM cN p1 → Mut h2 w8 b1 (.cells (List.toArray [.bool b2,I i1,.bool b3,I i2,.bool b4,I i3,.bool b5,I i4]) 154 (0,0)) → j5 y1 = some r → Run X94 [.code c94_29,.inBlock 1,.code c94_69,.inLoop c94_9,.inBlock 0,.code c94_70] σ1 w8 (.fn (Q94 w0 h0 r)) := by
   intro y1 σ1 w8 h2 le2 st9 s0_j5 s4_j5 s8_j5 s9_j5 s12_j5 s13_j5 s14_j5 R3 R4 M13 H
   rw [hj5] at H
   refine aB e94_29<|aA e94_30<|vv rfl (aF (b := b11) (o := 0) fl137_1 s8_j5)<|vv rfl (aN (I x1.Mode) sc3 rfl ((aR (st9.has _ _ (le2 _ _ g1))).trans rfl)) ?_
   obtain ⟨hs2,H⟩ := cC H
   refine vv rfl (x_indexAddrA (i := (x1.Mode : Int).toNat) u154 sz152 s4_j5 rfl (Int.toNat_of_nonneg hs2.1).symm (tn_lt (n := 4) hs2.1 hs2.2))<|vv rfl (aC (.pointer (some ⟨b1,0 + (x1.Mode : Int).toNat * 2,none⟩)) rfl)<|aD<|aB e94_31<|aB e94_32<|aA e94_33<|vv rfl (aF (b := b11) (o := 0) fl137_0 s8_j5)<|vv rfl (aN (I x1.Kind) sc3 rfl ((aR (st9.has _ _ (le2 _ _ g1))).trans rfl))<|aD<|aT e94_34 ?_
   refine aB e94_35<|aB e94_36<|aA e94_37<|vv rfl (aQ .eql .i64 x1.Kind 0 (.bool (decide (x1.Kind = 0))) 3 3 rfl rfl rfl)<|vv rfl (aC (.bool (decide (x1.Kind = 0))) rfl)<|aD ?_
   obtain ⟨j6,hj6,H⟩ := dH H
   have Jj6 : ∀ {y25 y26 y28 y30 y32 : Bool} {y27 y29 y31 y33 : Int} {σ9 : Env} {w22 : World} {h10 : Sto},Le h2 h10 → St w0 noM h0 h10 w22 → σ9 0 = .slice bD p0.length bE → σ9 4 = .pointer (some ⟨b1,0,none⟩) → σ9 5 = .bool y25 → σ9 8 = .pointer (some ⟨b11,0,none⟩) → σ9 12 = .slice cM p1.length cN → σ9 13 = I (p1.length : Int) → σ9 14 = I (j1 : Int) → SlR h10 bD bE p0 → SlR h10 cM cN p1 → Mut h10 w22 b1 (.cells (List.toArray [.bool y26,I y27,.bool y28,I y29,.bool y30,I y31,.bool y32,I y33]) 154 (0,0)) → j6 y25 y26 y27 y28 y29 y30 y31 y32 y33 = some r → Run X94 [.inBlock 2,.code c94_60,.inBlock 1,.code c94_69,.inLoop c94_9,.inBlock 0,.code c94_70] σ9 w22 (.fn (Q94 w0 h0 r)) := by
    intro y25 y26 y28 y30 y32 y27 y29 y31 y33 σ9 w22 h10 le10 st23 s0_j6 s4_j6 s5_j6 s8_j6 s12_j6 s13_j6 s14_j6 R19 R20 M27 H
    rw [hj6] at H
    refine aZ<|aB e94_60<|aB e94_61<|aA e94_62<|vv rfl (aE (.bool y25) s5_j6)<|vv rfl (dV y25 4 rfl)<|aD ?_
    rcases aM H with ⟨hc23,H⟩ | ⟨hc23,H⟩
    · refine fa e94_63 (bN hc23) rfl<|aL e94_67<|aA e94_68<|vv rfl (aF (b := b11) (o := 0) fl137_0 s8_j6)<|vv rfl (aN (I x1.Kind) sc3 rfl ((aR (st23.has _ _ ((le2.trans le10) _ _ g1))).trans rfl))<|vv rfl (aC (I x1.Kind) rfl)<|aD<|aZ<|aA e94_69<|vv rfl (aQ .add .i64 (j1 : Int) 1 (I ((j1 + 1 : Nat) : Int)) 3 3 s14_j6 rfl (dL hj1 R20.mx)) ?_
      refine vv rfl (aE (I ((j1 + 1 : Nat) : Int)) rfl)<|aD<|bI ?_
      exact ih.1 (j1 := (j1 + 1)) st23 s0_j6 s4_j6 rfl s12_j6 s13_j6 rfl R19 M27 lb2 R20 hd2 H
    refine tr e94_63 (bQ (bY hc23)) rfl<|aB e94_64<|aA e94_65<|vv rfl (bH [.bool y26,I y27,.bool y28,I y29,.bool y30,I y31,.bool y32,I y33] ag154 sz154 s4_j6 rfl (bA M27.get rfl))<|aV (o := 0) (n := 8) [.bool y26,I y27,.bool y28,I y29,.bool y30,I y31,.bool y32,I y33] [.bool y26,I y27,.bool y28,I y29,.bool y30,I y31,.bool y32,I y33] (.agg #[.bool y26,I y27,.bool y28,I y29,.bool y30,I y31,.bool y32,I y33]) sz154 rfl rfl s4_j6 rfl M27 rfl rfl rfl rfl rfl (fun w23 wr11 M28 => ?_)
    have sp14 := wr11.st st23.has M27.none
    have st24 := st23.call sp14 (fun x e => (.inl (e ▸ lb2)))
    refine vv rfl (aC (.bool false) rfl)<|aD ?_
    cases H
    exact aJ e94_66 (res2 Try.results94 (eH [.bool y26,I y27,.bool y28,I y29,.bool y30,I y31,.bool y32,I y33] ag154 sz154 s4_j6 rfl (bA M28.get rfl)) rfl ⟨h10,rfl,st24⟩)
   rcases aM H with ⟨hc6,H⟩ | ⟨hc6,H⟩
   · refine tr e94_38 (dT hc6) rfl<|aL e94_39<|tr e94_49 (dT hc6) rfl<|aB e94_50<|aA e94_51 ?_
     obtain ⟨j7,hj7,H⟩ := dH H
     have Jj7 : ∀ {y2 : Bool} {σ2 : Env} {w9 : World} {h3 : Sto},Le h2 h3 → St w0 noM h0 h3 w9 → σ2 0 = .slice bD p0.length bE → σ2 4 = .pointer (some ⟨b1,0,none⟩) → σ2 5 = .bool y2 → σ2 8 = .pointer (some ⟨b11,0,none⟩) → σ2 10 = .pointer (some ⟨b1,0 + (x1.Mode : Int).toNat * 2,none⟩) → σ2 12 = .slice cM p1.length cN → σ2 13 = I (p1.length : Int) → σ2 14 = I (j1 : Int) → SlR h3 bD bE p0 → SlR h3 cM cN p1 → Mut h3 w9 b1 (.cells (List.toArray [.bool b2,I i1,.bool b3,I i2,.bool b4,I i3,.bool b5,I i4]) 154 (0,0)) → j7 y2 = some r → Run X94 [.code c94_52,.inBlock 2,.code c94_60,.inBlock 1,.code c94_69,.inLoop c94_9,.inBlock 0,.code c94_70] σ2 w9 (.fn (Q94 w0 h0 r)) := by
      intro y2 σ2 w9 h3 le3 st10 s0_j7 s4_j7 s5_j7 s8_j7 s10_j7 s12_j7 s13_j7 s14_j7 R5 R6 M14 H
      rw [hj7] at H
      refine aA e94_52<|vv rfl (aE (.pointer (some ⟨b1,0 + (x1.Mode : Int).toNat * 2,none⟩)) s10_j7)<|vv rfl (bJ ⟨b1,0 + (x1.Mode : Int).toNat * 2,none⟩ rfl)<|vv rfl (aF (b := b1) (o := 0 + (x1.Mode : Int).toNat * 2) fl152_0 rfl)<|aV (o := 0 + (x1.Mode : Int).toNat * 2 + 0) (n := 1) [.bool true] [.bool (if (x1.Mode : Int).toNat = 0 then true else b2),I i1,.bool (if (x1.Mode : Int).toNat = 1 then true else b3),I i2,.bool (if (x1.Mode : Int).toNat = 2 then true else b4),I i3,.bool (if (x1.Mode : Int).toNat = 3 then true else b5),I i4] (.bool true) sz4 rfl rfl rfl rfl M14 rfl rfl rfl (by have hq_ := (tn_lt (n := 4) hs2.1 hs2.2); generalize (x1.Mode : Int).toNat = q_ at hq_ ⊢; match q_,hq_ with | 0,_ => rfl | 1,_ => rfl | 2,_ => rfl | 3,_ => rfl | n_ + 4,h_ => exact absurd h_ (by omega)) (by have hq_ := (tn_lt (n := 4) hs2.1 hs2.2); generalize (x1.Mode : Int).toNat = q_ at hq_ ⊢; match q_,hq_ with | 0,_ => rfl | 1,_ => rfl | 2,_ => rfl | 3,_ => rfl | n_ + 4,h_ => exact absurd h_ (by omega)) (fun w10 wr6 M15 => ?_)
      have sp8 := wr6.st st10.has M14.none
      have st11 := st10.call sp8 (fun x e => (.inl (e ▸ lb2)))
      refine aD ?_
      exact Jj6 le3 st11 s0_j7 s4_j7 s5_j7 s8_j7 s12_j7 s13_j7 s14_j7 R5 R6 M15 H
     refine vv rfl (aE (.pointer (some ⟨b1,0 + (x1.Mode : Int).toNat * 2,none⟩)) rfl)<|vv rfl (bJ ⟨b1,0 + (x1.Mode : Int).toNat * 2,none⟩ rfl)<|vv rfl (aF (b := b1) (o := 0 + (x1.Mode : Int).toNat * 2) fl152_0 rfl)<|vv rfl (aN (.bool (([b2,b3,b4,b5] : List Bool).getD (x1.Mode : Int).toNat false)) sc4 rfl ((aR M13.get).trans (by have hq_ := (tn_lt (n := 4) hs2.1 hs2.2); generalize (x1.Mode : Int).toNat = q_ at hq_ ⊢; match q_,hq_ with | 0,_ => rfl | 1,_ => rfl | 2,_ => rfl | 3,_ => rfl | n_ + 4,h_ => exact absurd h_ (by omega))))<|vv rfl (dV (([b2,b3,b4,b5] : List Bool).getD (x1.Mode : Int).toNat false) 4 rfl)<|vv rfl (aE (.bool (!(([b2,b3,b4,b5] : List Bool).getD (x1.Mode : Int).toNat false))) rfl) ?_
     rcases aM H with ⟨hc7,H⟩ | ⟨hc7,H⟩
     · refine aO (wf2 (bN hc7) rfl) rfl<|aO (wf2 (bN hc7) rfl) rfl<|aO (wf2 (bN hc7) rfl) rfl<|vv rfl (dE (.bool false) (bN hc7) rfl rfl)<|vv rfl (aE (.bool false) rfl)<|aO (wf (p := false) rfl rfl) rfl<|aO (wf (p := false) rfl rfl) rfl<|aO (wf (p := false) rfl rfl) rfl<|aO (wf (p := false) rfl rfl) rfl<|aO (wf (p := false) rfl rfl) rfl ?_
       refine vv rfl (cA (.bool false) (p := false) rfl rfl rfl)<|vv rfl (aC (.bool false) rfl)<|aD ?_
       exact Jj7 (Le.refl _) st9 s0_j5 s4_j5 rfl s8_j5 rfl s12_j5 s13_j5 s14_j5 R3 R4 M13 H
     refine bC (wt2 (bQ (bY hc7)) rfl) rfl (aF (b := b11) (o := 0) fl137_2 s8_j5)<|bC (wt2 (bQ (bY hc7)) rfl) rfl (aN (I x1.Size) sc3 rfl ((aR (st9.has _ _ (le2 _ _ g1))).trans rfl))<|bC (wt2 (bQ (bY hc7)) rfl) rfl (aQ .eql .i64 x1.Size 0 (.bool (decide (x1.Size = 0))) 3 3 rfl rfl rfl)<|vv rfl (dD (.bool (decide (x1.Size = 0))) (bQ (bY hc7)) rfl rfl)<|vv rfl (aE (.bool (decide (x1.Size = 0))) rfl) ?_
     rcases aM H with ⟨hc8,H⟩ | ⟨hc8,H⟩
     · refine bC (wt2 (dT hc8) rfl) rfl (aE (.bool y1) s9_j5)<|bC (wt2 (dT hc8) rfl) rfl (aF (b := b11) (o := 0) fl137_0 s8_j5)<|bC (wt2 (dT hc8) rfl) rfl (aN (I x1.Kind) sc3 rfl ((aR (st9.has _ _ (le2 _ _ g1))).trans rfl))<|bC (wt2 (dT hc8) rfl) rfl (aQ .eql .i64 x1.Kind 3 (.bool (decide (x1.Kind = 3))) 3 3 rfl rfl rfl)<|bC (wt2 (dT hc8) rfl) rfl (x_boolEq (a := y1) (b := (decide (x1.Kind = 3))) u4 rfl rfl)<|vv rfl (dD (.bool (y1 == (decide (x1.Kind = 3)))) (dT hc8) rfl rfl)<|vv rfl (aC (.bool (y1 == (decide (x1.Kind = 3)))) rfl)<|aD ?_
       exact Jj7 (Le.refl _) st9 s0_j5 s4_j5 rfl s8_j5 rfl s12_j5 s13_j5 s14_j5 R3 R4 M13 H
     refine aO (wf2 (dF hc8) rfl) rfl<|aO (wf2 (dF hc8) rfl) rfl<|aO (wf2 (dF hc8) rfl) rfl<|aO (wf2 (dF hc8) rfl) rfl<|aO (wf2 (dF hc8) rfl) rfl<|vv rfl (dE (.bool false) (dF hc8) rfl rfl)<|vv rfl (aC (.bool false) rfl)<|aD ?_
     exact Jj7 (Le.refl _) st9 s0_j5 s4_j5 rfl s8_j5 rfl s12_j5 s13_j5 s14_j5 R3 R4 M13 H
   refine fa e94_38 (dF hc6) rfl<|aB e94_40<|aA e94_41<|vv rfl (aQ .eql .i64 x1.Kind 1 (.bool (decide (x1.Kind = 1))) 3 3 rfl rfl rfl)<|vv rfl (aC (.bool (decide (x1.Kind = 1))) rfl)<|aD ?_
   obtain ⟨j8,hj8,H⟩ := dH H
   have Jj8 : ∀ {y16 y17 y19 y21 y23 : Bool} {y18 y20 y22 y24 : Int} {σ8 : Env} {w21 : World} {h9 : Sto},Le h2 h9 → St w0 noM h0 h9 w21 → σ8 0 = .slice bD p0.length bE → σ8 4 = .pointer (some ⟨b1,0,none⟩) → σ8 5 = .bool y16 → σ8 8 = .pointer (some ⟨b11,0,none⟩) → σ8 12 = .slice cM p1.length cN → σ8 13 = I (p1.length : Int) → σ8 14 = I (j1 : Int) → SlR h9 bD bE p0 → SlR h9 cM cN p1 → Mut h9 w21 b1 (.cells (List.toArray [.bool y17,I y18,.bool y19,I y20,.bool y21,I y22,.bool y23,I y24]) 154 (0,0)) → j8 y16 y17 y18 y19 y20 y21 y22 y23 y24 = some r → Run X94 [.inBlock 2,.code c94_60,.inBlock 1,.code c94_69,.inLoop c94_9,.inBlock 0,.code c94_70] σ8 w21 (.fn (Q94 w0 h0 r)) := by
    intro y16 y17 y19 y21 y23 y18 y20 y22 y24 σ8 w21 h9 le9 st22 s0_j8 s4_j8 s5_j8 s8_j8 s12_j8 s13_j8 s14_j8 R17 R18 M26 H
    rw [hj8] at H
    exact Jj6 le9 st22 s0_j8 s4_j8 s5_j8 s8_j8 s12_j8 s13_j8 s14_j8 R17 R18 M26 H
   rcases aM H with ⟨hc9,H⟩ | ⟨hc9,H⟩
   · refine tr e94_42 (dT hc9) rfl<|aL e94_43<|tr e94_49 (dT hc9) rfl<|aB e94_50<|aA e94_51 ?_
     obtain ⟨j9,hj9,H⟩ := dH H
     have Jj9 : ∀ {y3 : Bool} {σ3 : Env} {w11 : World} {h4 : Sto},Le h2 h4 → St w0 noM h0 h4 w11 → σ3 0 = .slice bD p0.length bE → σ3 4 = .pointer (some ⟨b1,0,none⟩) → σ3 5 = .bool y3 → σ3 8 = .pointer (some ⟨b11,0,none⟩) → σ3 10 = .pointer (some ⟨b1,0 + (x1.Mode : Int).toNat * 2,none⟩) → σ3 12 = .slice cM p1.length cN → σ3 13 = I (p1.length : Int) → σ3 14 = I (j1 : Int) → SlR h4 bD bE p0 → SlR h4 cM cN p1 → Mut h4 w11 b1 (.cells (List.toArray [.bool b2,I i1,.bool b3,I i2,.bool b4,I i3,.bool b5,I i4]) 154 (0,0)) → j9 y3 = some r → Run X94 [.code c94_52,.inBlock 2,.code c94_60,.inBlock 1,.code c94_69,.inLoop c94_9,.inBlock 0,.code c94_70] σ3 w11 (.fn (Q94 w0 h0 r)) := by
      intro y3 σ3 w11 h4 le4 st12 s0_j9 s4_j9 s5_j9 s8_j9 s10_j9 s12_j9 s13_j9 s14_j9 R7 R8 M16 H
      rw [hj9] at H
      refine aA e94_52<|vv rfl (aE (.pointer (some ⟨b1,0 + (x1.Mode : Int).toNat * 2,none⟩)) s10_j9)<|vv rfl (bJ ⟨b1,0 + (x1.Mode : Int).toNat * 2,none⟩ rfl)<|vv rfl (aF (b := b1) (o := 0 + (x1.Mode : Int).toNat * 2) fl152_0 rfl)<|aV (o := 0 + (x1.Mode : Int).toNat * 2 + 0) (n := 1) [.bool true] [.bool (if (x1.Mode : Int).toNat = 0 then true else b2),I i1,.bool (if (x1.Mode : Int).toNat = 1 then true else b3),I i2,.bool (if (x1.Mode : Int).toNat = 2 then true else b4),I i3,.bool (if (x1.Mode : Int).toNat = 3 then true else b5),I i4] (.bool true) sz4 rfl rfl rfl rfl M16 rfl rfl rfl (by have hq_ := (tn_lt (n := 4) hs2.1 hs2.2); generalize (x1.Mode : Int).toNat = q_ at hq_ ⊢; match q_,hq_ with | 0,_ => rfl | 1,_ => rfl | 2,_ => rfl | 3,_ => rfl | n_ + 4,h_ => exact absurd h_ (by omega)) (by have hq_ := (tn_lt (n := 4) hs2.1 hs2.2); generalize (x1.Mode : Int).toNat = q_ at hq_ ⊢; match q_,hq_ with | 0,_ => rfl | 1,_ => rfl | 2,_ => rfl | 3,_ => rfl | n_ + 4,h_ => exact absurd h_ (by omega)) (fun w12 wr7 M17 => ?_)
      have sp9 := wr7.st st12.has M16.none
      have st13 := st12.call sp9 (fun x e => (.inl (e ▸ lb2)))
      refine aD ?_
      exact Jj8 le4 st13 s0_j9 s4_j9 s5_j9 s8_j9 s12_j9 s13_j9 s14_j9 R7 R8 M17 H
     refine vv rfl (aE (.pointer (some ⟨b1,0 + (x1.Mode : Int).toNat * 2,none⟩)) rfl)<|vv rfl (bJ ⟨b1,0 + (x1.Mode : Int).toNat * 2,none⟩ rfl)<|vv rfl (aF (b := b1) (o := 0 + (x1.Mode : Int).toNat * 2) fl152_0 rfl)<|vv rfl (aN (.bool (([b2,b3,b4,b5] : List Bool).getD (x1.Mode : Int).toNat false)) sc4 rfl ((aR M13.get).trans (by have hq_ := (tn_lt (n := 4) hs2.1 hs2.2); generalize (x1.Mode : Int).toNat = q_ at hq_ ⊢; match q_,hq_ with | 0,_ => rfl | 1,_ => rfl | 2,_ => rfl | 3,_ => rfl | n_ + 4,h_ => exact absurd h_ (by omega))))<|vv rfl (dV (([b2,b3,b4,b5] : List Bool).getD (x1.Mode : Int).toNat false) 4 rfl)<|vv rfl (aE (.bool (!(([b2,b3,b4,b5] : List Bool).getD (x1.Mode : Int).toNat false))) rfl) ?_
     rcases aM H with ⟨hc10,H⟩ | ⟨hc10,H⟩
     · refine aO (wf2 (bN hc10) rfl) rfl<|aO (wf2 (bN hc10) rfl) rfl<|aO (wf2 (bN hc10) rfl) rfl<|vv rfl (dE (.bool false) (bN hc10) rfl rfl)<|vv rfl (aE (.bool false) rfl)<|aO (wf (p := false) rfl rfl) rfl<|aO (wf (p := false) rfl rfl) rfl<|aO (wf (p := false) rfl rfl) rfl<|aO (wf (p := false) rfl rfl) rfl<|aO (wf (p := false) rfl rfl) rfl ?_
       refine vv rfl (cA (.bool false) (p := false) rfl rfl rfl)<|vv rfl (aC (.bool false) rfl)<|aD ?_
       exact Jj9 (Le.refl _) st9 s0_j5 s4_j5 rfl s8_j5 rfl s12_j5 s13_j5 s14_j5 R3 R4 M13 H
     refine bC (wt2 (bQ (bY hc10)) rfl) rfl (aF (b := b11) (o := 0) fl137_2 s8_j5)<|bC (wt2 (bQ (bY hc10)) rfl) rfl (aN (I x1.Size) sc3 rfl ((aR (st9.has _ _ (le2 _ _ g1))).trans rfl))<|bC (wt2 (bQ (bY hc10)) rfl) rfl (aQ .eql .i64 x1.Size 0 (.bool (decide (x1.Size = 0))) 3 3 rfl rfl rfl)<|vv rfl (dD (.bool (decide (x1.Size = 0))) (bQ (bY hc10)) rfl rfl)<|vv rfl (aE (.bool (decide (x1.Size = 0))) rfl) ?_
     rcases aM H with ⟨hc11,H⟩ | ⟨hc11,H⟩
     · refine bC (wt2 (dT hc11) rfl) rfl (aE (.bool y1) s9_j5)<|bC (wt2 (dT hc11) rfl) rfl (aF (b := b11) (o := 0) fl137_0 s8_j5)<|bC (wt2 (dT hc11) rfl) rfl (aN (I x1.Kind) sc3 rfl ((aR (st9.has _ _ (le2 _ _ g1))).trans rfl))<|bC (wt2 (dT hc11) rfl) rfl (aQ .eql .i64 x1.Kind 3 (.bool (decide (x1.Kind = 3))) 3 3 rfl rfl rfl)<|bC (wt2 (dT hc11) rfl) rfl (x_boolEq (a := y1) (b := (decide (x1.Kind = 3))) u4 rfl rfl)<|vv rfl (dD (.bool (y1 == (decide (x1.Kind = 3)))) (dT hc11) rfl rfl)<|vv rfl (aC (.bool (y1 == (decide (x1.Kind = 3)))) rfl)<|aD ?_
       exact Jj9 (Le.refl _) st9 s0_j5 s4_j5 rfl s8_j5 rfl s12_j5 s13_j5 s14_j5 R3 R4 M13 H
     refine aO (wf2 (dF hc11) rfl) rfl<|aO (wf2 (dF hc11) rfl) rfl<|aO (wf2 (dF hc11) rfl) rfl<|aO (wf2 (dF hc11) rfl) rfl<|aO (wf2 (dF hc11) rfl) rfl<|vv rfl (dE (.bool false) (dF hc11) rfl rfl)<|vv rfl (aC (.bool false) rfl)<|aD ?_
     exact Jj9 (Le.refl _) st9 s0_j5 s4_j5 rfl s8_j5 rfl s12_j5 s13_j5 s14_j5 R3 R4 M13 H
   refine fa e94_42 (dF hc9) rfl<|aB e94_44<|aA e94_45<|vv rfl (aQ .eql .i64 x1.Kind 2 (.bool (decide (x1.Kind = 2))) 3 3 rfl rfl rfl)<|vv rfl (aC (.bool (decide (x1.Kind = 2))) rfl)<|aD ?_
   obtain ⟨j10,hj10,H⟩ := dH H
   have Jj10 : ∀ {y7 y8 y10 y12 y14 : Bool} {y9 y11 y13 y15 : Int} {σ7 : Env} {w20 : World} {h8 : Sto},Le h2 h8 → St w0 noM h0 h8 w20 → σ7 0 = .slice bD p0.length bE → σ7 4 = .pointer (some ⟨b1,0,none⟩) → σ7 5 = .bool y7 → σ7 8 = .pointer (some ⟨b11,0,none⟩) → σ7 12 = .slice cM p1.length cN → σ7 13 = I (p1.length : Int) → σ7 14 = I (j1 : Int) → SlR h8 bD bE p0 → SlR h8 cM cN p1 → Mut h8 w20 b1 (.cells (List.toArray [.bool y8,I y9,.bool y10,I y11,.bool y12,I y13,.bool y14,I y15]) 154 (0,0)) → j10 y7 y8 y9 y10 y11 y12 y13 y14 y15 = some r → Run X94 [.inBlock 2,.code c94_60,.inBlock 1,.code c94_69,.inLoop c94_9,.inBlock 0,.code c94_70] σ7 w20 (.fn (Q94 w0 h0 r)) := by
    intro y7 y8 y10 y12 y14 y9 y11 y13 y15 σ7 w20 h8 le8 st21 s0_j10 s4_j10 s5_j10 s8_j10 s12_j10 s13_j10 s14_j10 R15 R16 M25 H
    rw [hj10] at H
    exact Jj8 le8 st21 s0_j10 s4_j10 s5_j10 s8_j10 s12_j10 s13_j10 s14_j10 R15 R16 M25 H
   rcases aM H with ⟨hc12,H⟩ | ⟨hc12,H⟩
   · refine tr e94_46 (dT hc12) rfl<|aL e94_47<|tr e94_49 (dT hc12) rfl<|aB e94_50<|aA e94_51 ?_
     obtain ⟨j11,hj11,H⟩ := dH H
     have Jj11 : ∀ {y4 : Bool} {σ4 : Env} {w13 : World} {h5 : Sto},Le h2 h5 → St w0 noM h0 h5 w13 → σ4 0 = .slice bD p0.length bE → σ4 4 = .pointer (some ⟨b1,0,none⟩) → σ4 5 = .bool y4 → σ4 8 = .pointer (some ⟨b11,0,none⟩) → σ4 10 = .pointer (some ⟨b1,0 + (x1.Mode : Int).toNat * 2,none⟩) → σ4 12 = .slice cM p1.length cN → σ4 13 = I (p1.length : Int) → σ4 14 = I (j1 : Int) → SlR h5 bD bE p0 → SlR h5 cM cN p1 → Mut h5 w13 b1 (.cells (List.toArray [.bool b2,I i1,.bool b3,I i2,.bool b4,I i3,.bool b5,I i4]) 154 (0,0)) → j11 y4 = some r → Run X94 [.code c94_52,.inBlock 2,.code c94_60,.inBlock 1,.code c94_69,.inLoop c94_9,.inBlock 0,.code c94_70] σ4 w13 (.fn (Q94 w0 h0 r)) := by
      intro y4 σ4 w13 h5 le5 st14 s0_j11 s4_j11 s5_j11 s8_j11 s10_j11 s12_j11 s13_j11 s14_j11 R9 R10 M18 H
      rw [hj11] at H
      refine aA e94_52<|vv rfl (aE (.pointer (some ⟨b1,0 + (x1.Mode : Int).toNat * 2,none⟩)) s10_j11)<|vv rfl (bJ ⟨b1,0 + (x1.Mode : Int).toNat * 2,none⟩ rfl)<|vv rfl (aF (b := b1) (o := 0 + (x1.Mode : Int).toNat * 2) fl152_0 rfl)<|aV (o := 0 + (x1.Mode : Int).toNat * 2 + 0) (n := 1) [.bool true] [.bool (if (x1.Mode : Int).toNat = 0 then true else b2),I i1,.bool (if (x1.Mode : Int).toNat = 1 then true else b3),I i2,.bool (if (x1.Mode : Int).toNat = 2 then true else b4),I i3,.bool (if (x1.Mode : Int).toNat = 3 then true else b5),I i4] (.bool true) sz4 rfl rfl rfl rfl M18 rfl rfl rfl (by have hq_ := (tn_lt (n := 4) hs2.1 hs2.2); generalize (x1.Mode : Int).toNat = q_ at hq_ ⊢; match q_,hq_ with | 0,_ => rfl | 1,_ => rfl | 2,_ => rfl | 3,_ => rfl | n_ + 4,h_ => exact absurd h_ (by omega)) (by have hq_ := (tn_lt (n := 4) hs2.1 hs2.2); generalize (x1.Mode : Int).toNat = q_ at hq_ ⊢; match q_,hq_ with | 0,_ => rfl | 1,_ => rfl | 2,_ => rfl | 3,_ => rfl | n_ + 4,h_ => exact absurd h_ (by omega)) (fun w14 wr8 M19 => ?_)
      have sp10 := wr8.st st14.has M18.none
      have st15 := st14.call sp10 (fun x e => (.inl (e ▸ lb2)))
      refine aD ?_
      exact Jj10 le5 st15 s0_j11 s4_j11 s5_j11 s8_j11 s12_j11 s13_j11 s14_j11 R9 R10 M19 H
     refine vv rfl (aE (.pointer (some ⟨b1,0 + (x1.Mode : Int).toNat * 2,none⟩)) rfl)<|vv rfl (bJ ⟨b1,0 + (x1.Mode : Int).toNat * 2,none⟩ rfl)<|vv rfl (aF (b := b1) (o := 0 + (x1.Mode : Int).toNat * 2) fl152_0 rfl)<|vv rfl (aN (.bool (([b2,b3,b4,b5] : List Bool).getD (x1.Mode : Int).toNat false)) sc4 rfl ((aR M13.get).trans (by have hq_ := (tn_lt (n := 4) hs2.1 hs2.2); generalize (x1.Mode : Int).toNat = q_ at hq_ ⊢; match q_,hq_ with | 0,_ => rfl | 1,_ => rfl | 2,_ => rfl | 3,_ => rfl | n_ + 4,h_ => exact absurd h_ (by omega))))<|vv rfl (dV (([b2,b3,b4,b5] : List Bool).getD (x1.Mode : Int).toNat false) 4 rfl)<|vv rfl (aE (.bool (!(([b2,b3,b4,b5] : List Bool).getD (x1.Mode : Int).toNat false))) rfl) ?_
     rcases aM H with ⟨hc13,H⟩ | ⟨hc13,H⟩
     · refine aO (wf2 (bN hc13) rfl) rfl<|aO (wf2 (bN hc13) rfl) rfl<|aO (wf2 (bN hc13) rfl) rfl<|vv rfl (dE (.bool false) (bN hc13) rfl rfl)<|vv rfl (aE (.bool false) rfl)<|aO (wf (p := false) rfl rfl) rfl<|aO (wf (p := false) rfl rfl) rfl<|aO (wf (p := false) rfl rfl) rfl<|aO (wf (p := false) rfl rfl) rfl<|aO (wf (p := false) rfl rfl) rfl ?_
       refine vv rfl (cA (.bool false) (p := false) rfl rfl rfl)<|vv rfl (aC (.bool false) rfl)<|aD ?_
       exact Jj11 (Le.refl _) st9 s0_j5 s4_j5 rfl s8_j5 rfl s12_j5 s13_j5 s14_j5 R3 R4 M13 H
     refine bC (wt2 (bQ (bY hc13)) rfl) rfl (aF (b := b11) (o := 0) fl137_2 s8_j5)<|bC (wt2 (bQ (bY hc13)) rfl) rfl (aN (I x1.Size) sc3 rfl ((aR (st9.has _ _ (le2 _ _ g1))).trans rfl))<|bC (wt2 (bQ (bY hc13)) rfl) rfl (aQ .eql .i64 x1.Size 0 (.bool (decide (x1.Size = 0))) 3 3 rfl rfl rfl)<|vv rfl (dD (.bool (decide (x1.Size = 0))) (bQ (bY hc13)) rfl rfl)<|vv rfl (aE (.bool (decide (x1.Size = 0))) rfl) ?_
     rcases aM H with ⟨hc14,H⟩ | ⟨hc14,H⟩
     · refine bC (wt2 (dT hc14) rfl) rfl (aE (.bool y1) s9_j5)<|bC (wt2 (dT hc14) rfl) rfl (aF (b := b11) (o := 0) fl137_0 s8_j5)<|bC (wt2 (dT hc14) rfl) rfl (aN (I x1.Kind) sc3 rfl ((aR (st9.has _ _ (le2 _ _ g1))).trans rfl))<|bC (wt2 (dT hc14) rfl) rfl (aQ .eql .i64 x1.Kind 3 (.bool (decide (x1.Kind = 3))) 3 3 rfl rfl rfl)<|bC (wt2 (dT hc14) rfl) rfl (x_boolEq (a := y1) (b := (decide (x1.Kind = 3))) u4 rfl rfl)<|vv rfl (dD (.bool (y1 == (decide (x1.Kind = 3)))) (dT hc14) rfl rfl)<|vv rfl (aC (.bool (y1 == (decide (x1.Kind = 3)))) rfl)<|aD ?_
       exact Jj11 (Le.refl _) st9 s0_j5 s4_j5 rfl s8_j5 rfl s12_j5 s13_j5 s14_j5 R3 R4 M13 H
     refine aO (wf2 (dF hc14) rfl) rfl<|aO (wf2 (dF hc14) rfl) rfl<|aO (wf2 (dF hc14) rfl) rfl<|aO (wf2 (dF hc14) rfl) rfl<|aO (wf2 (dF hc14) rfl) rfl<|vv rfl (dE (.bool false) (dF hc14) rfl rfl)<|vv rfl (aC (.bool false) rfl)<|aD ?_
     exact Jj11 (Le.refl _) st9 s0_j5 s4_j5 rfl s8_j5 rfl s12_j5 s13_j5 s14_j5 R3 R4 M13 H
   refine fa e94_46 (dF hc12) rfl<|aA e94_48<|vv rfl (aQ .eql .i64 x1.Kind 3 (.bool (decide (x1.Kind = 3))) 3 3 rfl rfl rfl)<|vv rfl (aC (.bool (decide (x1.Kind = 3))) rfl)<|aD ?_
   rcases aM H with ⟨hc15,H⟩ | ⟨hc15,H⟩
   · refine tr e94_49 (dT hc15) rfl<|aB e94_50<|aA e94_51 ?_
     obtain ⟨j12,hj12,H⟩ := dH H
     have Jj12 : ∀ {y5 : Bool} {σ5 : Env} {w15 : World} {h6 : Sto},Le h2 h6 → St w0 noM h0 h6 w15 → σ5 0 = .slice bD p0.length bE → σ5 4 = .pointer (some ⟨b1,0,none⟩) → σ5 5 = .bool y5 → σ5 8 = .pointer (some ⟨b11,0,none⟩) → σ5 10 = .pointer (some ⟨b1,0 + (x1.Mode : Int).toNat * 2,none⟩) → σ5 12 = .slice cM p1.length cN → σ5 13 = I (p1.length : Int) → σ5 14 = I (j1 : Int) → SlR h6 bD bE p0 → SlR h6 cM cN p1 → Mut h6 w15 b1 (.cells (List.toArray [.bool b2,I i1,.bool b3,I i2,.bool b4,I i3,.bool b5,I i4]) 154 (0,0)) → j12 y5 = some r → Run X94 [.code c94_52,.inBlock 2,.code c94_60,.inBlock 1,.code c94_69,.inLoop c94_9,.inBlock 0,.code c94_70] σ5 w15 (.fn (Q94 w0 h0 r)) := by
      intro y5 σ5 w15 h6 le6 st16 s0_j12 s4_j12 s5_j12 s8_j12 s10_j12 s12_j12 s13_j12 s14_j12 R11 R12 M20 H
      rw [hj12] at H
      refine aA e94_52<|vv rfl (aE (.pointer (some ⟨b1,0 + (x1.Mode : Int).toNat * 2,none⟩)) s10_j12)<|vv rfl (bJ ⟨b1,0 + (x1.Mode : Int).toNat * 2,none⟩ rfl)<|vv rfl (aF (b := b1) (o := 0 + (x1.Mode : Int).toNat * 2) fl152_0 rfl)<|aV (o := 0 + (x1.Mode : Int).toNat * 2 + 0) (n := 1) [.bool true] [.bool (if (x1.Mode : Int).toNat = 0 then true else b2),I i1,.bool (if (x1.Mode : Int).toNat = 1 then true else b3),I i2,.bool (if (x1.Mode : Int).toNat = 2 then true else b4),I i3,.bool (if (x1.Mode : Int).toNat = 3 then true else b5),I i4] (.bool true) sz4 rfl rfl rfl rfl M20 rfl rfl rfl (by have hq_ := (tn_lt (n := 4) hs2.1 hs2.2); generalize (x1.Mode : Int).toNat = q_ at hq_ ⊢; match q_,hq_ with | 0,_ => rfl | 1,_ => rfl | 2,_ => rfl | 3,_ => rfl | n_ + 4,h_ => exact absurd h_ (by omega)) (by have hq_ := (tn_lt (n := 4) hs2.1 hs2.2); generalize (x1.Mode : Int).toNat = q_ at hq_ ⊢; match q_,hq_ with | 0,_ => rfl | 1,_ => rfl | 2,_ => rfl | 3,_ => rfl | n_ + 4,h_ => exact absurd h_ (by omega)) (fun w16 wr9 M21 => ?_)
      have sp11 := wr9.st st16.has M20.none
      have st17 := st16.call sp11 (fun x e => (.inl (e ▸ lb2)))
      refine aD ?_
      exact Jj10 le6 st17 s0_j12 s4_j12 s5_j12 s8_j12 s12_j12 s13_j12 s14_j12 R11 R12 M21 H
     refine vv rfl (aE (.pointer (some ⟨b1,0 + (x1.Mode : Int).toNat * 2,none⟩)) rfl)<|vv rfl (bJ ⟨b1,0 + (x1.Mode : Int).toNat * 2,none⟩ rfl)<|vv rfl (aF (b := b1) (o := 0 + (x1.Mode : Int).toNat * 2) fl152_0 rfl)<|vv rfl (aN (.bool (([b2,b3,b4,b5] : List Bool).getD (x1.Mode : Int).toNat false)) sc4 rfl ((aR M13.get).trans (by have hq_ := (tn_lt (n := 4) hs2.1 hs2.2); generalize (x1.Mode : Int).toNat = q_ at hq_ ⊢; match q_,hq_ with | 0,_ => rfl | 1,_ => rfl | 2,_ => rfl | 3,_ => rfl | n_ + 4,h_ => exact absurd h_ (by omega))))<|vv rfl (dV (([b2,b3,b4,b5] : List Bool).getD (x1.Mode : Int).toNat false) 4 rfl)<|vv rfl (aE (.bool (!(([b2,b3,b4,b5] : List Bool).getD (x1.Mode : Int).toNat false))) rfl) ?_
     rcases aM H with ⟨hc16,H⟩ | ⟨hc16,H⟩
     · refine aO (wf2 (bN hc16) rfl) rfl<|aO (wf2 (bN hc16) rfl) rfl<|aO (wf2 (bN hc16) rfl) rfl<|vv rfl (dE (.bool false) (bN hc16) rfl rfl)<|vv rfl (aE (.bool false) rfl)<|aO (wf (p := false) rfl rfl) rfl<|aO (wf (p := false) rfl rfl) rfl<|aO (wf (p := false) rfl rfl) rfl<|aO (wf (p := false) rfl rfl) rfl<|aO (wf (p := false) rfl rfl) rfl ?_
       refine vv rfl (cA (.bool false) (p := false) rfl rfl rfl)<|vv rfl (aC (.bool false) rfl)<|aD ?_
       exact Jj12 (Le.refl _) st9 s0_j5 s4_j5 rfl s8_j5 rfl s12_j5 s13_j5 s14_j5 R3 R4 M13 H
     refine bC (wt2 (bQ (bY hc16)) rfl) rfl (aF (b := b11) (o := 0) fl137_2 s8_j5)<|bC (wt2 (bQ (bY hc16)) rfl) rfl (aN (I x1.Size) sc3 rfl ((aR (st9.has _ _ (le2 _ _ g1))).trans rfl))<|bC (wt2 (bQ (bY hc16)) rfl) rfl (aQ .eql .i64 x1.Size 0 (.bool (decide (x1.Size = 0))) 3 3 rfl rfl rfl)<|vv rfl (dD (.bool (decide (x1.Size = 0))) (bQ (bY hc16)) rfl rfl)<|vv rfl (aE (.bool (decide (x1.Size = 0))) rfl) ?_
     rcases aM H with ⟨hc17,H⟩ | ⟨hc17,H⟩
     · refine bC (wt2 (dT hc17) rfl) rfl (aE (.bool y1) s9_j5)<|bC (wt2 (dT hc17) rfl) rfl (aF (b := b11) (o := 0) fl137_0 s8_j5)<|bC (wt2 (dT hc17) rfl) rfl (aN (I x1.Kind) sc3 rfl ((aR (st9.has _ _ (le2 _ _ g1))).trans rfl))<|bC (wt2 (dT hc17) rfl) rfl (aQ .eql .i64 x1.Kind 3 (.bool (decide (x1.Kind = 3))) 3 3 rfl rfl rfl)<|bC (wt2 (dT hc17) rfl) rfl (x_boolEq (a := y1) (b := (decide (x1.Kind = 3))) u4 rfl rfl)<|vv rfl (dD (.bool (y1 == (decide (x1.Kind = 3)))) (dT hc17) rfl rfl)<|vv rfl (aC (.bool (y1 == (decide (x1.Kind = 3)))) rfl)<|aD ?_
       exact Jj12 (Le.refl _) st9 s0_j5 s4_j5 rfl s8_j5 rfl s12_j5 s13_j5 s14_j5 R3 R4 M13 H
     refine aO (wf2 (dF hc17) rfl) rfl<|aO (wf2 (dF hc17) rfl) rfl<|aO (wf2 (dF hc17) rfl) rfl<|aO (wf2 (dF hc17) rfl) rfl<|aO (wf2 (dF hc17) rfl) rfl<|vv rfl (dE (.bool false) (dF hc17) rfl rfl)<|vv rfl (aC (.bool false) rfl)<|aD ?_
     exact Jj12 (Le.refl _) st9 s0_j5 s4_j5 rfl s8_j5 rfl s12_j5 s13_j5 s14_j5 R3 R4 M13 H
   refine fa e94_49 (dF hc15) rfl<|aB e94_53<|aA e94_54<|vv rfl (aQ .eql .i64 x1.Kind 4 (.bool (decide (x1.Kind = 4))) 3 3 rfl rfl rfl)<|vv rfl (aC (.bool (decide (x1.Kind = 4))) rfl)<|aD ?_
   rcases aM H with ⟨hc18,H⟩ | ⟨hc18,H⟩
   · refine tr e94_55 (dT hc18) rfl<|aB e94_56 ?_
     obtain ⟨j13,hj13,H⟩ := dH H
     have Jj13 : ∀ {y6 : Bool} {σ6 : Env} {w18 : World} {h7 : Sto},Le h2 h7 → St w0 noM h0 h7 w18 → σ6 0 = .slice bD p0.length bE → σ6 4 = .pointer (some ⟨b1,0,none⟩) → σ6 5 = .bool y6 → σ6 8 = .pointer (some ⟨b11,0,none⟩) → σ6 10 = .pointer (some ⟨b1,0 + (x1.Mode : Int).toNat * 2,none⟩) → σ6 12 = .slice cM p1.length cN → σ6 13 = I (p1.length : Int) → σ6 14 = I (j1 : Int) → SlR h7 bD bE p0 → SlR h7 cM cN p1 → Mut h7 w18 b1 (.cells (List.toArray [.bool b2,I i1,.bool b3,I i2,.bool b4,I i3,.bool b5,I i4]) 154 (0,0)) → j13 y6 = some r → Run X94 [.code c94_58,.inBlock 2,.code c94_60,.inBlock 1,.code c94_69,.inLoop c94_9,.inBlock 0,.code c94_70] σ6 w18 (.fn (Q94 w0 h0 r)) := by
      intro y6 σ6 w18 h7 le7 st19 s0_j13 s4_j13 s5_j13 s8_j13 s10_j13 s12_j13 s13_j13 s14_j13 R13 R14 M23 H
      rw [hj13] at H
      refine aA e94_58<|vv rfl (aE (.pointer (some ⟨b1,0 + (x1.Mode : Int).toNat * 2,none⟩)) s10_j13)<|vv rfl (aF (b := b11) (o := 0) fl137_2 s8_j13)<|vv rfl (aN (I x1.Size) sc3 rfl ((aR (st19.has _ _ ((le2.trans le7) _ _ g1))).trans rfl))<|vv rfl (bJ ⟨b1,0 + (x1.Mode : Int).toNat * 2,none⟩ rfl)<|vv rfl (aF (b := b1) (o := 0 + (x1.Mode : Int).toNat * 2) fl152_1 rfl)<|aV (o := 0 + (x1.Mode : Int).toNat * 2 + 1) (n := 1) [I x1.Size] [.bool b2,I (if (x1.Mode : Int).toNat = 0 then x1.Size else i1),.bool b3,I (if (x1.Mode : Int).toNat = 1 then x1.Size else i2),.bool b4,I (if (x1.Mode : Int).toNat = 2 then x1.Size else i3),.bool b5,I (if (x1.Mode : Int).toNat = 3 then x1.Size else i4)] (I x1.Size) sz3 rfl rfl rfl rfl M23 rfl rfl rfl (by have hq_ := (tn_lt (n := 4) hs2.1 hs2.2); generalize (x1.Mode : Int).toNat = q_ at hq_ ⊢; match q_,hq_ with | 0,_ => rfl | 1,_ => rfl | 2,_ => rfl | 3,_ => rfl | n_ + 4,h_ => exact absurd h_ (by omega)) (by have hq_ := (tn_lt (n := 4) hs2.1 hs2.2); generalize (x1.Mode : Int).toNat = q_ at hq_ ⊢; match q_,hq_ with | 0,_ => rfl | 1,_ => rfl | 2,_ => rfl | 3,_ => rfl | n_ + 4,h_ => exact absurd h_ (by omega)) (fun w19 wr10 M24 => ?_)
      have sp13 := wr10.st st19.has M23.none
      have st20 := st19.call sp13 (fun x e => (.inl (e ▸ lb2)))
      refine aD ?_
      exact Jj10 le7 st20 s0_j13 s4_j13 s5_j13 s8_j13 s12_j13 s13_j13 s14_j13 R13 R14 M24 H
     refine dY [[(0,false),(1,false),(2,false),(3,false),(4,false),(5,false),(6,false),(7,false),(8,false),(9,false),(10,false),(11,false),(12,false),(13,false),(14,false),(15,false),(16,false),(17,false),(18,false),(19,false),(20,false),(21,false),(22,false),(23,false),(24,false),(25,false),(26,false),(27,false),(28,false),(29,false),(30,false),(31,false)]] [] [0,1,2,3,4,5,6,7,8,9,10,11,12,13,14,15,16,17,18,19,20,21,22,23,24,25,26,27,28,29,30,31] [0,1,2,3,4,5,6,7,8,9,10,11,12,13,14,15,16,17,18,19,20,21,22,23,24,25,26,27,28,29,30,31] (fun w_ => Has h2 w_ ∧ w_.heap[b1]? = some (.cells (List.toArray [.bool b2,I i1,.bool b3,I i2,.bool b4,I i3,.bool b5,I i4]) 154 (0,0)) ∧ True) e94_57 k94_57 m94_57 (fun w17 al3 => ?_)
     have sp12 := al3.st st9.has
     have M22 := M13.call0 sp12
     have st18 := st9.call0 sp12
     refine ⟨⟨Has.le (Le.refl _) st18.has,M22.get,trivial⟩,?_,trivial⟩
     refine bV rfl rfl (fun w_ ok_ => aE (.pointer (some ⟨b1,0 + (x1.Mode : Int).toNat * 2,none⟩)) rfl)<|bV rfl rfl (fun w_ ok_ => bJ ⟨b1,0 + (x1.Mode : Int).toNat * 2,none⟩ rfl)<|bV rfl rfl (fun w_ ok_ => aF (b := b1) (o := 0 + (x1.Mode : Int).toNat * 2) fl152_0 rfl)<|bV rfl rfl (fun w_ ok_ => aN (.bool (([b2,b3,b4,b5] : List Bool).getD (x1.Mode : Int).toNat false)) sc4 rfl ((aR ok_.2.1).trans (by have hq_ := (tn_lt (n := 4) hs2.1 hs2.2); generalize (x1.Mode : Int).toNat = q_ at hq_ ⊢; match q_,hq_ with | 0,_ => rfl | 1,_ => rfl | 2,_ => rfl | 3,_ => rfl | n_ + 4,h_ => exact absurd h_ (by omega))))<|bV rfl rfl (fun w_ ok_ => aE (.bool (([b2,b3,b4,b5] : List Bool).getD (x1.Mode : Int).toNat false)) rfl) ?_
     rcases aM H with ⟨hc19,H⟩ | ⟨hc19,H⟩
     · refine bV rfl (wt2 hc19 rfl) (fun w_ ok_ => aE (.pointer (some ⟨b1,0 + (x1.Mode : Int).toNat * 2,none⟩)) rfl)<|bV rfl (wt2 hc19 rfl) (fun w_ ok_ => bJ ⟨b1,0 + (x1.Mode : Int).toNat * 2,none⟩ rfl)<|bV rfl (wt2 hc19 rfl) (fun w_ ok_ => aF (b := b1) (o := 0 + (x1.Mode : Int).toNat * 2) fl152_1 rfl)<|bV rfl (wt2 hc19 rfl) (fun w_ ok_ => aN (I (([i1,i2,i3,i4] : List Int).getD (x1.Mode : Int).toNat 0)) sc3 rfl ((aR ok_.2.1).trans (by have hq_ := (tn_lt (n := 4) hs2.1 hs2.2); generalize (x1.Mode : Int).toNat = q_ at hq_ ⊢; match q_,hq_ with | 0,_ => rfl | 1,_ => rfl | 2,_ => rfl | 3,_ => rfl | n_ + 4,h_ => exact absurd h_ (by omega))))<|bV rfl (wt2 hc19 rfl) (fun w_ ok_ => aQ .eql .i64 (([i1,i2,i3,i4] : List Int).getD (x1.Mode : Int).toNat 0) 0 (.bool (decide ((([i1,i2,i3,i4] : List Int).getD (x1.Mode : Int).toNat 0) = 0))) 3 3 rfl rfl rfl)<|bV rfl rfl (fun w_ ok_ => dD (.bool (decide ((([i1,i2,i3,i4] : List Int).getD (x1.Mode : Int).toNat 0) = 0))) hc19 rfl rfl)<|bV rfl rfl (fun w_ ok_ => aE (.bool (decide ((([i1,i2,i3,i4] : List Int).getD (x1.Mode : Int).toNat 0) = 0))) rfl) ?_
       rcases aM H with ⟨hc20,H⟩ | ⟨hc20,H⟩
       · refine bV rfl (wt2 (dT hc20) rfl) (fun w_ ok_ => aE (.bool y1) s9_j5)<|bV rfl (wt2 (dT hc20) rfl) (fun w_ ok_ => dV y1 4 rfl)<|bV rfl rfl (fun w_ ok_ => dD (.bool (!y1)) (dT hc20) rfl rfl)<|bV rfl rfl (fun w_ ok_ => aE (.bool (!y1)) rfl) ?_
         rcases aM H with ⟨hc21,H⟩ | ⟨hc21,H⟩
         · refine eK rfl (wf2 (bN hc21) rfl)<|eK rfl (wf2 (bN hc21) rfl)<|eK rfl (wf2 (bN hc21) rfl)<|bV rfl rfl (fun w_ ok_ => dE (.bool false) (bN hc21) rfl rfl)<|bV rfl rfl (fun w_ ok_ => aE (.bool false) rfl)<|eK rfl (wf (p := false) rfl rfl)<|eK rfl (wf (p := false) rfl rfl)<|eK rfl (wf (p := false) rfl rfl)<|eK rfl (wf (p := false) rfl rfl)<|eK rfl (wf (p := false) rfl rfl) ?_
           refine eK rfl (wf (p := false) rfl rfl)<|eK rfl (wf (p := false) rfl rfl)<|eK rfl (wf (p := false) rfl rfl)<|eK rfl (wf (p := false) rfl rfl)<|bV rfl rfl (fun w_ ok_ => cA (.bool false) (p := false) rfl rfl rfl)<|bV rfl rfl (fun w_ ok_ => aC (.bool false) rfl)<|eL ?_
           exact Jj13 (Le.refl _) st18 s0_j5 s4_j5 rfl s8_j5 rfl s12_j5 s13_j5 s14_j5 R3 R4 M22 H
         refine bV rfl (wt2 (bQ (bY hc21)) rfl) (fun w_ ok_ => aF (b := b11) (o := 0) fl137_2 s8_j5)<|bV rfl (wt2 (bQ (bY hc21)) rfl) (fun w_ ok_ => aN (I x1.Size) sc3 rfl ((aR (ok_.1 _ _ (le2 _ _ g1))).trans rfl))<|bV rfl (wt2 (bQ (bY hc21)) rfl) (fun w_ ok_ => aQ .gtr .i64 x1.Size 0 (.bool (decide (0 < x1.Size))) 3 3 rfl rfl rfl)<|bV rfl rfl (fun w_ ok_ => dD (.bool (decide (0 < x1.Size))) (bQ (bY hc21)) rfl rfl)<|bV rfl rfl (fun w_ ok_ => aE (.bool (decide (0 < x1.Size))) rfl) ?_
         rcases aM H with ⟨hc22,H⟩ | ⟨hc22,H⟩
         · refine bV rfl (wt2 (dT hc22) rfl) (fun w_ ok_ => aE (.slice bD p0.length bE) s0_j5)<|bV rfl (wt2 (dT hc22) rfl) (fun w_ ok_ => aF (b := b11) (o := 0) fl137_1 s8_j5)<|bV rfl (wt2 (dT hc22) rfl) (fun w_ ok_ => aN (I x1.Mode) sc3 rfl ((aR (ok_.1 _ _ (le2 _ _ g1))).trans rfl)) ?_
           obtain ⟨xd1_24_1,hxd1_24_2,H⟩ := aK H
           have hid1_24_3 := dB hxd1_24_2
           obtain ⟨bd1_24_4,od1_24_5,vsd1_24_6,ead1_24_7,rpd1_24_8,cld1_24_9⟩ := SlR.at R3 hid1_24_3.2.2
           obtain rfl := rpd1_24_8
           refine bV rfl (wt2 (dT hc22) rfl) (fun w_ ok_ => aY u43 sz3 rfl rfl ead1_24_7 hid1_24_3.1 hid1_24_3.2.1)<|bV rfl (wt2 (dT hc22) rfl) (fun w_ ok_ => aN (I xd1_24_1) sc3 rfl (((cld1_24_9 _ (Has.le (Le.refl _) ok_.1)) 0 (by decide)).trans rfl))<|bV rfl (wt2 (dT hc22) rfl) (fun w_ ok_ => aF (b := b11) (o := 0) fl137_2 s8_j5)<|bV rfl (wt2 (dT hc22) rfl) (fun w_ ok_ => aN (I x1.Size) sc3 rfl ((aR (ok_.1 _ _ (le2 _ _ g1))).trans rfl)) ?_
           obtain ⟨hzd1_28_1,H⟩ := cC H
           refine bV rfl (wt2 (dT hc22) rfl) (fun w_ ok_ => x_div .rem .i64 xd1_24_1 x1.Size (I (xd1_24_1.tmod x1.Size)) 3 3 rfl rfl hzd1_28_1 rfl)<|bV rfl (wt2 (dT hc22) rfl) (fun w_ ok_ => aQ .eql .i64 (xd1_24_1.tmod x1.Size) 0 (.bool (decide ((xd1_24_1.tmod x1.Size) = 0))) 3 3 rfl rfl rfl)<|bV rfl rfl (fun w_ ok_ => dD (.bool (decide ((xd1_24_1.tmod x1.Size) = 0))) (dT hc22) rfl rfl)<|bV rfl rfl (fun w_ ok_ => aC (.bool (decide ((xd1_24_1.tmod x1.Size) = 0))) rfl)<|eL ?_
           exact Jj13 (Le.refl _) st18 s0_j5 s4_j5 rfl s8_j5 rfl s12_j5 s13_j5 s14_j5 R3 R4 M22 H
         refine eK rfl (wf2 (dF hc22) rfl)<|eK rfl (wf2 (dF hc22) rfl)<|eK rfl (wf2 (dF hc22) rfl)<|eK rfl (wf2 (dF hc22) rfl)<|eK rfl (wf2 (dF hc22) rfl)<|eK rfl (wf2 (dF hc22) rfl)<|eK rfl (wf2 (dF hc22) rfl)<|eK rfl (wf2 (dF hc22) rfl)<|eK rfl (wf2 (dF hc22) rfl)<|bV rfl rfl (fun w_ ok_ => dE (.bool false) (dF hc22) rfl rfl) ?_
         refine bV rfl rfl (fun w_ ok_ => aC (.bool false) rfl)<|eL ?_
         exact Jj13 (Le.refl _) st18 s0_j5 s4_j5 rfl s8_j5 rfl s12_j5 s13_j5 s14_j5 R3 R4 M22 H
       refine eK rfl (wf2 (dF hc20) rfl)<|eK rfl (wf2 (dF hc20) rfl)<|bV rfl rfl (fun w_ ok_ => dE (.bool false) (dF hc20) rfl rfl)<|bV rfl rfl (fun w_ ok_ => aE (.bool false) rfl)<|eK rfl (wf (p := false) rfl rfl)<|eK rfl (wf (p := false) rfl rfl)<|eK rfl (wf (p := false) rfl rfl)<|bV rfl rfl (fun w_ ok_ => cA (.bool false) (p := false) rfl rfl rfl)<|bV rfl rfl (fun w_ ok_ => aE (.bool false) rfl)<|eK rfl (wf (p := false) rfl rfl) ?_
       refine eK rfl (wf (p := false) rfl rfl)<|eK rfl (wf (p := false) rfl rfl)<|eK rfl (wf (p := false) rfl rfl)<|eK rfl (wf (p := false) rfl rfl)<|eK rfl (wf (p := false) rfl rfl)<|eK rfl (wf (p := false) rfl rfl)<|eK rfl (wf (p := false) rfl rfl)<|eK rfl (wf (p := false) rfl rfl)<|bV rfl rfl (fun w_ ok_ => cA (.bool false) (p := false) rfl rfl rfl)<|bV rfl rfl (fun w_ ok_ => aC (.bool false) rfl) ?_
       refine eL ?_
       exact Jj13 (Le.refl _) st18 s0_j5 s4_j5 rfl s8_j5 rfl s12_j5 s13_j5 s14_j5 R3 R4 M22 H
     refine eK rfl (wf2 (bY hc19) rfl)<|eK rfl (wf2 (bY hc19) rfl)<|eK rfl (wf2 (bY hc19) rfl)<|eK rfl (wf2 (bY hc19) rfl)<|eK rfl (wf2 (bY hc19) rfl)<|bV rfl rfl (fun w_ ok_ => dE (.bool false) (bY hc19) rfl rfl)<|bV rfl rfl (fun w_ ok_ => aE (.bool false) rfl)<|eK rfl (wf (p := false) rfl rfl)<|eK rfl (wf (p := false) rfl rfl)<|bV rfl rfl (fun w_ ok_ => cA (.bool false) (p := false) rfl rfl rfl) ?_
     refine bV rfl rfl (fun w_ ok_ => aE (.bool false) rfl)<|eK rfl (wf (p := false) rfl rfl)<|eK rfl (wf (p := false) rfl rfl)<|eK rfl (wf (p := false) rfl rfl)<|bV rfl rfl (fun w_ ok_ => cA (.bool false) (p := false) rfl rfl rfl)<|bV rfl rfl (fun w_ ok_ => aE (.bool false) rfl)<|eK rfl (wf (p := false) rfl rfl)<|eK rfl (wf (p := false) rfl rfl)<|eK rfl (wf (p := false) rfl rfl)<|eK rfl (wf (p := false) rfl rfl) ?_
     refine eK rfl (wf (p := false) rfl rfl)<|eK rfl (wf (p := false) rfl rfl)<|eK rfl (wf (p := false) rfl rfl)<|eK rfl (wf (p := false) rfl rfl)<|eK rfl (wf (p := false) rfl rfl)<|bV rfl rfl (fun w_ ok_ => cA (.bool false) (p := false) rfl rfl rfl)<|bV rfl rfl (fun w_ ok_ => aC (.bool false) rfl)<|eL ?_
     exact Jj13 (Le.refl _) st18 s0_j5 s4_j5 rfl s8_j5 rfl s12_j5 s13_j5 s14_j5 R3 R4 M22 H
   refine fa e94_55 (dF hc18) rfl<|aA e94_59<|vv rfl (aC (.bool false) rfl)<|aD ?_
   exact Jj10 (Le.refl _) st9 s0_j5 s4_j5 rfl s8_j5 s12_j5 s13_j5 s14_j5 R3 R4 M13 H
  refine vv rfl (aE (I i5) s6)<|vv rfl (aQ .eql .i64 i5 2 (.bool (decide (i5 = 2))) 3 3 rfl rfl rfl)<|vv rfl (aE (.bool (decide (i5 = 2))) rfl) ?_
  rcases aM H with ⟨hc5,H⟩ | ⟨hc5,H⟩
  · refine aO (wf2 (dT hc5) rfl) rfl<|aO (wf2 (dT hc5) rfl) rfl<|vv rfl (dD (.bool true) (dT hc5) rfl rfl)<|vv rfl (aC (.bool true) rfl)<|aD ?_
    exact Jj5 (Le.refl _) st6 s0 s4 rfl rfl s12 s13 s14 (SlR.mono le1 R1) (SlR.mono le1 R2) M10 H
  refine bC (wt2 (dF hc5) rfl) rfl (aE (I i5) s6)<|bC (wt2 (dF hc5) rfl) rfl (aQ .eql .i64 i5 3 (.bool (decide (i5 = 3))) 3 3 rfl rfl rfl)<|vv rfl (dE (.bool (decide (i5 = 3))) (dF hc5) rfl rfl)<|vv rfl (aC (.bool (decide (i5 = 3))) rfl)<|aD ?_
  exact Jj5 (Le.refl _) st6 s0 s4 rfl rfl s12 s13 s14 (SlR.mono le1 R1) (SlR.mono le1 R2) M10 H
theorem SLl94_1_z : SLl94_1 0 := by
  unfold SLl94_1; intros; rename_i H; exact absurd H (by simp [l94_1])
theorem SLl94_1_s (k : Nat) (ih : ZSLl94_0 k) : SLl94_1 (k + 1) := by
 intro p0 w0 w h0 h b1 σ b6 b7 b8 b9 i6 i7 i8 i9 i10 r st s4 s110 s111 M3 lb3 H
 rw [l94_1] at H
 refine aB e94_75<|aA e94_76<|vv rfl (aQ .lss .i64 i10 (p0.length : Int) (.bool (decide (i10 < (p0.length : Int)))) 3 3 s111 s110 rfl)<|aD<|aB e94_77 ?_
 rcases aM H with ⟨hc1,H⟩ | ⟨hc1,H⟩
 · refine tr e94_78 (dT hc1) rfl<|aL e94_79<|aB e94_81<|aT e94_82<|aB e94_83<|aA e94_84<|vv rfl (aE (I i10) s111)<|vv rfl (aC (I i10) rfl)<|aD<|aB e94_85 ?_
   refine aA e94_86<|vv rfl (aE (I i10) rfl) ?_
   obtain ⟨hs1,H⟩ := cC H
   refine vv rfl (x_indexAddrA (i := (i10 : Int).toNat) u154 sz152 s4 rfl (Int.toNat_of_nonneg hs1.1).symm (tn_lt (n := 4) hs1.1 hs1.2))<|vv rfl (aF (b := b1) (o := 0 + (i10 : Int).toNat * 2) fl152_0 rfl)<|vv rfl (aN (.bool (([b6,b7,b8,b9] : List Bool).getD (i10 : Int).toNat false)) sc4 rfl ((aR M3.get).trans (by have hq_ := (tn_lt (n := 4) hs1.1 hs1.2); generalize (i10 : Int).toNat = q_ at hq_ ⊢; match q_,hq_ with | 0,_ => rfl | 1,_ => rfl | 2,_ => rfl | 3,_ => rfl | n_ + 4,h_ => exact absurd h_ (by omega))))<|vv rfl (dV (([b6,b7,b8,b9] : List Bool).getD (i10 : Int).toNat false) 4 rfl)<|aD ?_
   rcases aM H with ⟨hc2,H⟩ | ⟨hc2,H⟩
   · refine fa e94_87 (bN hc2) rfl<|aL e94_91<|aZ<|aA e94_92<|vv rfl (aQ .add .i64 i10 1 (I (wr (i10 + 1))) 3 3 s111 rfl rfl)<|vv rfl (aE (I (wr (i10 + 1))) rfl)<|aD<|bI ?_
     exact ih.2 st s4 s110 rfl M3 lb3 H
   refine tr e94_87 (bQ (bY hc2)) rfl<|aB e94_88<|aA e94_89<|vv rfl (bH [.bool b6,I i6,.bool b7,I i7,.bool b8,I i8,.bool b9,I i9] ag154 sz154 s4 rfl (bA M3.get rfl))<|aV (o := 0) (n := 8) [.bool b6,I i6,.bool b7,I i7,.bool b8,I i8,.bool b9,I i9] [.bool b6,I i6,.bool b7,I i7,.bool b8,I i8,.bool b9,I i9] (.agg #[.bool b6,I i6,.bool b7,I i7,.bool b8,I i8,.bool b9,I i9]) sz154 rfl rfl s4 rfl M3 rfl rfl rfl rfl rfl (fun w3 wr2 M5 => ?_)
   have sp3 := wr2.st st.has M3.none
   have st3 := st.call sp3 (fun x e => (.inl (e ▸ lb3)))
   refine vv rfl (aC (.bool false) rfl)<|aD ?_
   cases H
   exact aJ e94_90 (res2 Try.results94 (eH [.bool b6,I i6,.bool b7,I i7,.bool b8,I i8,.bool b9,I i9] ag154 sz154 s4 rfl (bA M5.get rfl)) rfl ⟨h,rfl,st3⟩)
 refine fa e94_78 (dF hc1) rfl<|bO e94_80 rfl<|aB e94_93<|aA e94_94<|vv rfl (bH [.bool b6,I i6,.bool b7,I i7,.bool b8,I i8,.bool b9,I i9] ag154 sz154 s4 rfl (bA M3.get rfl))<|aV (o := 0) (n := 8) [.bool b6,I i6,.bool b7,I i7,.bool b8,I i8,.bool b9,I i9] [.bool b6,I i6,.bool b7,I i7,.bool b8,I i8,.bool b9,I i9] (.agg #[.bool b6,I i6,.bool b7,I i7,.bool b8,I i8,.bool b9,I i9]) sz154 rfl rfl s4 rfl M3 rfl rfl rfl rfl rfl (fun w2 wr1 M4 => ?_)
 have sp2 := wr1.st st.has M3.none
 have st2 := st.call sp2 (fun x e => (.inl (e ▸ lb3)))
 refine vv rfl (aC (.bool true) rfl)<|aD ?_
 cases H
 exact aJ e94_95 (res2 Try.results94 (eH [.bool b6,I i6,.bool b7,I i7,.bool b8,I i8,.bool b9,I i9] ag154 sz154 s4 rfl (bA M4.get rfl)) rfl ⟨h,rfl,st2⟩)
theorem ZSLl94_0_all : ∀ k,ZSLl94_0 k
  | 0 => ⟨SLl94_0_z,SLl94_1_z⟩
  | k + 1 => ⟨SLl94_0_s k (ZSLl94_0_all k),SLl94_1_s k (ZSLl94_0_all k)⟩
theorem Fl94_0 (k : Nat) : SLl94_0 k := (ZSLl94_0_all k).1
theorem F94 (k : Nat) : S94 k := by
 intro p0 bD cM bE cN p1 w0 h0 hh Rp0 Rp1 r H
 unfold m94 at H
 refine aP (fn := Try.f94) Try.func94 rfl (Nat.le_of_ble_eq_true rfl) ?_
 show Run X94 [.code c94_0] (fun t => List.getD [.slice bD p0.length bE,.slice cM p1.length cN] t undef) w0 (.fn (Q94 w0 h0 r))
 have st0 := St.init hh noM
 refine aB e94_0<|aA e94_1<|cG (.agg #[.bool false,I 0,.bool false,I 0,.bool false,I 0,.bool false,I 0]) zr154 rfl rfl (fun b1 w1 al1 => ?_)
 replace al1 : Al _ (.cells (List.toArray [.bool false,I 0,.bool false,I 0,.bool false,I 0,.bool false,I 0]) 154 (0,0)) b1 w1 := al1
 have M1 := Mut.new st0 al1
 have lb1 := st0.alB al1
 have sp1 := al1.st st0.has
 have st1 := st0.call0 sp1
 refine vv rfl (aC (.bool false) rfl)<|aD<|aB e94_2<|aA e94_3<|vv rfl (aC (I 0) rfl)<|aD<|aB e94_4<|aB e94_5<|aA e94_6<|vv rfl (aE (.slice cM p1.length cN) rfl) ?_
 refine vv rfl (bK u78 rfl)<|vv rfl (aE (I 0) rfl)<|aD<|aT e94_7<|bZ e94_8 ?_
 exact Fl94_0 k (j1 := 0) st1 rfl rfl rfl rfl rfl rfl Rp0 M1 lb1 Rp1 rfl H
abbrev ZSLl84_0 (k : Nat) : Prop := SLl84_0 k
theorem SLl84_0_z : SLl84_0 0 := by
  unfold SLl84_0; intros; rename_i H; exact absurd H (by simp [l84_0])
theorem SLl84_0_s (k : Nat) (ih : ZSLl84_0 k) : SLl84_0 (k + 1) := by
 intro p0 l1 bD cM a1 bE cN b1 c1 j3 p1 w0 w h0 h r2 σ xs1 r st s0 s8 s10 s33 s34 s35 R1 g2 O2 R2 hd1 H
 cases xs1 with
 | nil =>
  rw [l84_0] at H
  have hk1 := cU hd1
  refine aB e84_29<|aA e84_30<|vv rfl (aQ .lss .i64 (j3 : Int) (p1.length : Int) (.bool (decide ((j3 : Int) < (p1.length : Int)))) 3 3 s35 s34 rfl)<|aD<|aB e84_31<|fa e84_32 hk1 rfl<|bO e84_34 rfl<|aB e84_60<|aA e84_61<|vv rfl (aE (.slice a1 l1.length c1) s10) ?_
  refine vv rfl (aC (.slice a1 l1.length c1) rfl)<|vv rfl (aC (I 0) rfl)<|aD ?_
  obtain ⟨h4,le2,st7,R3,kp2⟩ := O2.frz st (Nat.le_refl _)
  cases H
  exact aJ e84_62 (res2 Try.results84 rfl rfl ⟨a1,c1,h4,rfl,st7,R3⟩)
 | cons x1 xs2 =>
  rw [l84_0] at H
  obtain ⟨hk2,hj1,hx1,hd2⟩ := cJ hd1
  refine aB e84_29<|aA e84_30<|vv rfl (aQ .lss .i64 (j3 : Int) (p1.length : Int) (.bool (decide ((j3 : Int) < (p1.length : Int)))) 3 3 s35 s34 rfl)<|aD<|aB e84_31<|tr e84_32 hk2 rfl<|aL e84_33<|aB e84_35<|aT e84_36<|aB e84_37 ?_
  refine aA e84_38<|vv rfl (aE (I (j3 : Int)) s35) ?_
  obtain ⟨b3,o1,vs1,ea1,rp1,cl1⟩ := SlR.at R2 hx1
  obtain rfl := GSpec.out rp1
  refine vv rfl (aY u78 sz137 s33 s35 ea1 (Int.natCast_nonneg _) (Int.ofNat_lt.2 hj1))<|vv rfl (bH [I x1.Kind,I x1.Mode,I x1.Size] ag137 sz137 rfl rfl (cl1 _ (Has.le (Le.refl _) st.has)))<|cG (.agg #[I 0,I 0,I 0]) zr137 rfl rfl (fun b4 w6 al3 => ?_)
  replace al3 : Al _ (.cells (List.toArray [I 0,I 0,I 0]) 137 (0,0)) b4 w6 := al3
  have M3 := Mut.new st al3
  have lb2 := st.alB al3
  have sp6 := al3.st st.has
  have O3 := O2.call0 sp6
  have st8 := st.call0 sp6
  refine vv rfl (aC (I (j3 : Int)) rfl)<|aV (o := 0) (n := 3) [I x1.Kind,I x1.Mode,I x1.Size] [I x1.Kind,I x1.Mode,I x1.Size] (.agg #[I x1.Kind,I x1.Mode,I x1.Size]) sz137 rfl rfl rfl rfl M3 rfl rfl rfl rfl rfl (fun w7 wr2 M4 => ?_)
  have sp7 := wr2.st st8.has M3.none
  have O4 := O3.call sp7 (fun x hx e => (absurd (e ▸ hx) (O3.ne_mut M3 (by decide))))
  have st9 := st8.call sp7 (fun x e => (.inl (e ▸ lb2)))
  obtain ⟨h5,le3,g3,st10,kp3⟩ := M4.fz st9 lb2
  have O5 := O4.fr le3 kp3 (O4.ne_mut M4 (by decide))
  refine aD<|aB e84_39<|aB e84_40<|aA e84_41<|vv rfl (aF (b := b4) (o := 0) fl137_1 rfl)<|vv rfl (aN (I x1.Mode) sc3 rfl ((aR (st10.has _ _ g3)).trans rfl)) ?_
  obtain ⟨hs2,H⟩ := cC H
  refine vv rfl (x_indexAddrA (i := (x1.Mode : Int).toNat) u154 sz152 s8 rfl (Int.toNat_of_nonneg hs2.1).symm (tn_lt (n := 4) hs2.1 hs2.2))<|vv rfl (aF (b := b1) (o := 0 + (x1.Mode : Int).toNat * 2) fl152_1 rfl)<|vv rfl (aN (I (([r2.1.e0.block,r2.1.e1.block,r2.1.e2.block,r2.1.e3.block] : List Int).getD (x1.Mode : Int).toNat 0)) sc3 rfl ((aR (st10.has _ _ (le3 _ _ g2))).trans (by have hq_ := (tn_lt (n := 4) hs2.1 hs2.2); generalize (x1.Mode : Int).toNat = q_ at hq_ ⊢; match q_,hq_ with | 0,_ => rfl | 1,_ => rfl | 2,_ => rfl | 3,_ => rfl | n_ + 4,h_ => exact absurd h_ (by omega))))<|vv rfl (aC (I (([r2.1.e0.block,r2.1.e1.block,r2.1.e2.block,r2.1.e3.block] : List Int).getD (x1.Mode : Int).toNat 0)) rfl)<|aD<|aT e84_42<|aB e84_43<|aA e84_44<|vv rfl (aF (b := b4) (o := 0) fl137_0 rfl)<|vv rfl (aN (I x1.Kind) sc3 rfl ((aR (st10.has _ _ g3)).trans rfl)) ?_
  refine vv rfl (aQ .eql .i64 x1.Kind 4 (.bool (decide (x1.Kind = 4))) 3 3 rfl rfl rfl)<|vv rfl (aC (.bool (decide (x1.Kind = 4))) rfl)<|aD ?_
  obtain ⟨j4,hj4,H⟩ := dH H
  have Jj4 : ∀ {y1 : (List Int)} {a2 : OA} {c2 : Nat} {σ1 : Env} {w11 : World} {h6 : Sto},Le h5 h6 → St w0 noM h0 h6 w11 → σ1 0 = .slice bD p0.length bE → σ1 8 = .pointer (some ⟨b1,0,none⟩) → σ1 10 = .slice a2 y1.length c2 → σ1 11 = I (j3 : Int) → σ1 33 = .slice cM p1.length cN → σ1 34 = I (p1.length : Int) → σ1 35 = I (j3 : Int) → SlR h6 bD bE p0 → Own 3 w0.heap.size h6 w11 a2 c2 y1 → SlR h6 cM cN p1 → j4 y1 = some r → Run X84 [.inBlock 2,.code c84_52,.inBlock 1,.code c84_59,.inLoop c84_29,.inBlock 0,.code c84_60] σ1 w11 (.fn (Q84 w0 h0 r)) := by
   intro y1 a2 c2 σ1 w11 h6 le4 st14 s0_j4 s8_j4 s10_j4 s11_j4 s33_j4 s34_j4 s35_j4 R4 O9 R5 H
   rw [hj4] at H
   refine aZ<|aB e84_52<|aA e84_53<|vv rfl (aE (.slice a2 y1.length c2) s10_j4)<|vv rfl (aE (I (j3 : Int)) s11_j4) ?_
   obtain ⟨x7,hx7,H⟩ := aK H
   have hi6 := dB hx7
   obtain ⟨b10,hab4⟩ := Own.adr O9 hi6.2.2
   refine vv rfl (aY u43 sz3 rfl rfl hab4 hi6.1 hi6.2.1) ?_
   obtain ⟨vs7,rp7,hl4,cl7⟩ := Own.cell O9 hab4 hi6.2.2
   obtain rfl := rp7
   refine vv rfl (aN (I x7) sc3 rfl ((cl7 0 (by decide)).trans rfl))<|vv rfl (aQ .gtr .i64 x7 2147483648 (.bool (decide (2147483648 < x7))) 3 3 rfl rfl rfl)<|aD ?_
   rcases aM H with ⟨hc5,H⟩ | ⟨hc5,H⟩
   · refine tr e84_54 (dT hc5) rfl<|aB e84_55<|aA e84_56<|vv rfl (aC (.slice none 0 0) rfl)<|vv rfl (aC (I 2) rfl)<|aD ?_
     cases H
     exact aJ e84_57 (res2 Try.results84 rfl rfl ⟨none,0,h6,rfl,st14,(SlR.none _)⟩)
   refine fa e84_54 (dF hc5) rfl<|aL e84_58<|aZ<|aA e84_59<|vv rfl (aQ .add .i64 (j3 : Int) 1 (I ((j3 + 1 : Nat) : Int)) 3 3 s35_j4 rfl (dL hj1 R5.mx))<|vv rfl (aE (I ((j3 + 1 : Nat) : Int)) rfl)<|aD<|bI ?_
   exact ih (j3 := (j3 + 1)) st14 s0_j4 s8_j4 s10_j4 s33_j4 s34_j4 rfl R4 ((le3.trans le4) _ _ g2) O9 R5 hd2 H
  rcases aM H with ⟨hc3,H⟩ | ⟨hc3,H⟩
  · refine tr e84_45 (dT hc3) rfl<|aA e84_46<|vv rfl (aE (.slice a1 l1.length c1) s10)<|vv rfl (aE (I (j3 : Int)) rfl)<|vv rfl (aE (I (([r2.1.e0.block,r2.1.e1.block,r2.1.e2.block,r2.1.e3.block] : List Int).getD (x1.Mode : Int).toNat 0)) rfl) ?_
    obtain ⟨x2,hx2,H⟩ := aK H
    have hi1 := dB hx2
    obtain ⟨b5,hab1⟩ := Own.adr O5 hi1.2.2
    refine vv rfl (aY u43 sz3 rfl rfl hab1 hi1.1 hi1.2.1) ?_
    obtain ⟨vs2,rp2,hl1,cl2⟩ := Own.cell O5 hab1 hi1.2.2
    obtain rfl := rp2
    refine rr_storeOwn (off := 0) (n := 1) (us := [I (([r2.1.e0.block,r2.1.e1.block,r2.1.e2.block,r2.1.e3.block] : List Int).getD (x1.Mode : Int).toNat 0)]) (vs := [I x2]) (y := (([r2.1.e0.block,r2.1.e1.block,r2.1.e2.block,r2.1.e3.block] : List Int).getD (x1.Mode : Int).toNat 0)) (I (([r2.1.e0.block,r2.1.e1.block,r2.1.e2.block,r2.1.e3.block] : List Int).getD (x1.Mode : Int).toNat 0)) sz3 rfl rfl rfl rfl O5 hab1 hi1.2.2 rfl cl2 rfl rfl rfl (by decide) st10.has rfl (fun w8 O6 sp8 => ?_)
    have st11 := st10.call sp8 (fun x e => (.inl (O5.lbs x e)))
    have hlen1 := set_len l1 (((j3 : Int) : Int).toNat) (([r2.1.e0.block,r2.1.e1.block,r2.1.e2.block,r2.1.e3.block] : List Int).getD (x1.Mode : Int).toNat 0)
    refine aD ?_
    exact Jj4 (Le.refl _) st11 s0 s8 (Eq.trans s10 (sl_len hlen1)) rfl s33 s34 s35 (SlR.mono le3 R1) O6 (SlR.mono le3 R2) H
  refine fa e84_45 (dF hc3) rfl<|aB e84_47<|aA e84_48<|vv rfl (aE (I (([r2.1.e0.block,r2.1.e1.block,r2.1.e2.block,r2.1.e3.block] : List Int).getD (x1.Mode : Int).toNat 0)) rfl)<|vv rfl (aQ .gtr .i64 (([r2.1.e0.block,r2.1.e1.block,r2.1.e2.block,r2.1.e3.block] : List Int).getD (x1.Mode : Int).toNat 0) 0 (.bool (decide (0 < (([r2.1.e0.block,r2.1.e1.block,r2.1.e2.block,r2.1.e3.block] : List Int).getD (x1.Mode : Int).toNat 0)))) 3 3 rfl rfl rfl)<|vv rfl (aC (.bool (decide (0 < (([r2.1.e0.block,r2.1.e1.block,r2.1.e2.block,r2.1.e3.block] : List Int).getD (x1.Mode : Int).toNat 0)))) rfl)<|aD ?_
  rcases aM H with ⟨hc4,H⟩ | ⟨hc4,H⟩
  · refine tr e84_49 (dT hc4) rfl<|aA e84_50<|vv rfl (aE (.slice a1 l1.length c1) s10)<|vv rfl (aE (I (j3 : Int)) rfl)<|vv rfl (aE (.slice bD p0.length bE) s0)<|vv rfl (aF (b := b4) (o := 0) fl137_1 rfl)<|vv rfl (aN (I x1.Mode) sc3 rfl ((aR (st10.has _ _ g3)).trans rfl)) ?_
    obtain ⟨x3,hx3,H⟩ := aK H
    have hi2 := dB hx3
    obtain ⟨b6,o2,vs3,ea2,rp3,cl3⟩ := SlR.at (SlR.mono le3 R1) hi2.2.2
    obtain rfl := rp3
    refine vv rfl (aY u43 sz3 rfl rfl ea2 hi2.1 hi2.2.1)<|vv rfl (aN (I x3) sc3 rfl (((cl3 _ (Has.le (Le.refl _) st10.has)) 0 (by decide)).trans rfl))<|vv rfl (aE (I (([r2.1.e0.block,r2.1.e1.block,r2.1.e2.block,r2.1.e3.block] : List Int).getD (x1.Mode : Int).toNat 0)) rfl) ?_
    obtain ⟨hz1,H⟩ := cC H
    refine vv rfl (x_div .quo .i64 x3 (([r2.1.e0.block,r2.1.e1.block,r2.1.e2.block,r2.1.e3.block] : List Int).getD (x1.Mode : Int).toNat 0) (I (wr (x3.tdiv (([r2.1.e0.block,r2.1.e1.block,r2.1.e2.block,r2.1.e3.block] : List Int).getD (x1.Mode : Int).toNat 0)))) 3 3 rfl rfl hz1 rfl) ?_
    obtain ⟨x4,hx4,H⟩ := aK H
    have hi3 := dB hx4
    obtain ⟨b7,hab2⟩ := Own.adr O5 hi3.2.2
    refine vv rfl (aY u43 sz3 rfl rfl hab2 hi3.1 hi3.2.1) ?_
    obtain ⟨vs4,rp4,hl2,cl4⟩ := Own.cell O5 hab2 hi3.2.2
    obtain rfl := rp4
    refine rr_storeOwn (off := 0) (n := 1) (us := [I (wr (x3.tdiv (([r2.1.e0.block,r2.1.e1.block,r2.1.e2.block,r2.1.e3.block] : List Int).getD (x1.Mode : Int).toNat 0)))]) (vs := [I x4]) (y := (wr (x3.tdiv (([r2.1.e0.block,r2.1.e1.block,r2.1.e2.block,r2.1.e3.block] : List Int).getD (x1.Mode : Int).toNat 0)))) (I (wr (x3.tdiv (([r2.1.e0.block,r2.1.e1.block,r2.1.e2.block,r2.1.e3.block] : List Int).getD (x1.Mode : Int).toNat 0)))) sz3 rfl rfl rfl rfl O5 hab2 hi3.2.2 rfl cl4 rfl rfl rfl (by decide) st10.has rfl (fun w9 O7 sp9 => ?_)
    have st12 := st10.call sp9 (fun x e => (.inl (O5.lbs x e)))
    have hlen2 := set_len l1 (((j3 : Int) : Int).toNat) (wr (x3.tdiv (([r2.1.e0.block,r2.1.e1.block,r2.1.e2.block,r2.1.e3.block] : List Int).getD (x1.Mode : Int).toNat 0)))
    refine aD ?_
    exact Jj4 (Le.refl _) st12 s0 s8 (Eq.trans s10 (sl_len hlen2)) rfl s33 s34 s35 (SlR.mono le3 R1) O7 (SlR.mono le3 R2) H
  refine fa e84_49 (dF hc4) rfl<|aA e84_51<|vv rfl (aE (.slice a1 l1.length c1) s10)<|vv rfl (aE (I (j3 : Int)) rfl)<|vv rfl (aE (.slice bD p0.length bE) s0)<|vv rfl (aF (b := b4) (o := 0) fl137_1 rfl)<|vv rfl (aN (I x1.Mode) sc3 rfl ((aR (st10.has _ _ g3)).trans rfl)) ?_
  obtain ⟨x5,hx5,H⟩ := aK H
  have hi4 := dB hx5
  obtain ⟨b8,o3,vs5,ea3,rp5,cl5⟩ := SlR.at (SlR.mono le3 R1) hi4.2.2
  obtain rfl := rp5
  refine vv rfl (aY u43 sz3 rfl rfl ea3 hi4.1 hi4.2.1)<|vv rfl (aN (I x5) sc3 rfl (((cl5 _ (Has.le (Le.refl _) st10.has)) 0 (by decide)).trans rfl)) ?_
  obtain ⟨x6,hx6,H⟩ := aK H
  have hi5 := dB hx6
  obtain ⟨b9,hab3⟩ := Own.adr O5 hi5.2.2
  refine vv rfl (aY u43 sz3 rfl rfl hab3 hi5.1 hi5.2.1) ?_
  obtain ⟨vs6,rp6,hl3,cl6⟩ := Own.cell O5 hab3 hi5.2.2
  obtain rfl := rp6
  refine rr_storeOwn (off := 0) (n := 1) (us := [I x5]) (vs := [I x6]) (y := x5) (I x5) sz3 rfl rfl rfl rfl O5 hab3 hi5.2.2 rfl cl6 rfl rfl rfl (by decide) st10.has rfl (fun w10 O8 sp10 => ?_)
  have st13 := st10.call sp10 (fun x e => (.inl (O5.lbs x e)))
  have hlen3 := set_len l1 (((j3 : Int) : Int).toNat) x5
  refine aD ?_
  exact Jj4 (Le.refl _) st13 s0 s8 (Eq.trans s10 (sl_len hlen3)) rfl s33 s34 s35 (SlR.mono le3 R1) O8 (SlR.mono le3 R2) H
theorem ZSLl84_0_all : ∀ k,ZSLl84_0 k
  | 0 => SLl84_0_z
  | k + 1 => SLl84_0_s k (ZSLl84_0_all k)
theorem Fl84_0 (k : Nat) : SLl84_0 k := (ZSLl84_0_all k)
theorem F84 (k : Nat) : S84 k := by
 intro p0 bD cM bE cN p1 w0 h0 hh Rp0 Rp1 r H
 unfold m84 at H
 refine aP (fn := Try.f84) Try.func84 rfl (Nat.le_of_ble_eq_true rfl) ?_
 show Run X84 [.code c84_0] (fun t => List.getD [.slice bD p0.length bE,.slice cM p1.length cN] t undef) w0 (.fn (Q84 w0 h0 r))
 have st0 := St.init hh noM
 refine aB e84_0<|aA e84_1<|vv rfl (aC (.slice none 0 0) rfl)<|vv rfl (aC (I 0) rfl)<|aD<|aB e84_2<|aB e84_3<|aA e84_4<|vv rfl (aE (.slice bD p0.length bE) rfl) ?_
 obtain ⟨r1,hr1,H⟩ := aK H
 refine aU [.slice bD p0.length bE] en93 rfl rfl rfl (F93 k st0.has Rp0 hr1) ?_
 rintro _ w1 ⟨h1,rfl,sp1⟩
 have st1 := st0.call0 sp1
 refine vv rfl (aE (.tuple #[I r1.1,I r1.2]) rfl)<|vv rfl (bS (I r1.1) rfl rfl)<|vv rfl (bS (I r1.2) rfl rfl)<|vv rfl (aC (I r1.1) rfl)<|vv rfl (aC (I r1.2) rfl)<|aD<|aB e84_5<|aA e84_6<|vv rfl (aE (I r1.2) rfl)<|vv rfl (aQ .neq .i64 r1.2 0 (.bool (!decide (r1.2 = 0))) 35 35 rfl rfl rfl) ?_
 refine aD ?_
 rcases aM H with ⟨hc1,H⟩ | ⟨hc1,H⟩
 · refine fa e84_7 (bN (dT hc1)) rfl<|aL e84_11<|aB e84_12<|aA e84_13<|vv rfl (aE (.slice bD p0.length bE) rfl)<|vv rfl (aE (.slice cM p1.length cN) rfl) ?_
   obtain ⟨r2,hr2,H⟩ := aK H
   refine aU [.slice bD p0.length bE,.slice cM p1.length cN] en94 rfl rfl rfl (F94 k st1.has (SlR.mono sp1.le Rp0) (SlR.mono sp1.le Rp1) hr2) ?_
   rintro _ w2 ⟨h2,rfl,sp2⟩
   have st2 := st1.call0 sp2
   refine vv rfl (aE (.tuple #[.agg #[.bool r2.1.e0.met,I r2.1.e0.block,.bool r2.1.e1.met,I r2.1.e1.block,.bool r2.1.e2.met,I r2.1.e2.block,.bool r2.1.e3.met,I r2.1.e3.block],.bool r2.2]) rfl)<|vv rfl (bS (.agg #[.bool r2.1.e0.met,I r2.1.e0.block,.bool r2.1.e1.met,I r2.1.e1.block,.bool r2.1.e2.met,I r2.1.e2.block,.bool r2.1.e3.met,I r2.1.e3.block]) rfl rfl)<|vv rfl (bS (.bool r2.2) rfl rfl)<|cG (.agg #[.bool false,I 0,.bool false,I 0,.bool false,I 0,.bool false,I 0]) zr154 rfl rfl (fun b1 w3 al1 => ?_)
   replace al1 : Al _ (.cells (List.toArray [.bool false,I 0,.bool false,I 0,.bool false,I 0,.bool false,I 0]) 154 (0,0)) b1 w3 := al1
   have M1 := Mut.new st2 al1
   have lb1 := st2.alB al1
   have sp3 := al1.st st2.has
   have st3 := st2.call0 sp3
   refine aV (o := 0) (n := 8) [.bool r2.1.e0.met,I r2.1.e0.block,.bool r2.1.e1.met,I r2.1.e1.block,.bool r2.1.e2.met,I r2.1.e2.block,.bool r2.1.e3.met,I r2.1.e3.block] [.bool r2.1.e0.met,I r2.1.e0.block,.bool r2.1.e1.met,I r2.1.e1.block,.bool r2.1.e2.met,I r2.1.e2.block,.bool r2.1.e3.met,I r2.1.e3.block] (.agg #[.bool r2.1.e0.met,I r2.1.e0.block,.bool r2.1.e1.met,I r2.1.e1.block,.bool r2.1.e2.met,I r2.1.e2.block,.bool r2.1.e3.met,I r2.1.e3.block]) sz154 rfl rfl rfl rfl M1 rfl rfl rfl rfl rfl (fun w4 wr1 M2 => ?_)
   have sp4 := wr1.st st3.has M1.none
   have st4 := st3.call sp4 (fun x e => (.inl (e ▸ lb1)))
   obtain ⟨h3,le1,g1,st5,kp1⟩ := M2.fz st4 lb1
   refine vv rfl (aC (.bool r2.2) rfl)<|aD<|aB e84_14<|aB e84_15<|aA e84_16<|vv rfl (aE (.bool r2.2) rfl)<|vv rfl (dV r2.2 4 rfl)<|aD ?_
   rcases aM H with ⟨hc2,H⟩ | ⟨hc2,H⟩
   · refine fa e84_17 (bN hc2) rfl<|aL e84_21<|aB e84_22<|aA e84_23<|vv rfl (aE (.slice cM p1.length cN) rfl)<|vv rfl (bK u78 rfl) ?_
     obtain ⟨hs1,H⟩ := cC H
     refine rr_makeSlice (α := Int) (B := w0.heap.size) 0 u43 ap3 rfl rfl rfl hs1.1 hs1.2 rfl st5.has st5.sp.size (fun b2 w5 O1 ⟨_,al2⟩ sp5 => ?_)
     have st6 := st5.call0 sp5
     refine vv rfl (aC (.slice (some ⟨b2,0,none⟩) ((List.replicate ((p1.length : Int) : Int).toNat (0 : Int)).length) (((p1.length : Int) : Int).toNat)) rfl)<|aD<|aB e84_24<|aB e84_25<|aA e84_26<|vv rfl (aE (.slice cM p1.length cN) rfl)<|vv rfl (bK u78 rfl)<|vv rfl (aE (I 0) rfl)<|aD<|aT e84_27 ?_
     refine bZ e84_28 ?_
     exact Fl84_0 k (j3 := 0) st6 rfl rfl rfl rfl rfl rfl (SlR.mono (sp1.le.trans (sp2.le.trans le1)) Rp0) g1 O1 (SlR.mono (sp1.le.trans (sp2.le.trans le1)) Rp1) rfl H
   refine tr e84_17 (bQ (bY hc2)) rfl<|aB e84_18<|aA e84_19<|vv rfl (aC (.slice none 0 0) rfl)<|vv rfl (aC (I 4) rfl)<|aD ?_
   cases H
   exact aJ e84_20 (res2 Try.results84 rfl rfl ⟨none,0,h3,rfl,st5,(SlR.none _)⟩)
 refine tr e84_7 (bQ (dF hc1)) rfl<|aB e84_8<|aA e84_9<|vv rfl (aE (I r1.2) rfl)<|vv rfl (aC (.slice none 0 0) rfl)<|vv rfl (aC (I r1.2) rfl)<|aD ?_
 cases H
 exact aJ e84_10 (res2 Try.results84 rfl rfl ⟨none,0,h1,rfl,st1,(SlR.none _)⟩)
end Go.Proofs.Ytjdfoipnmbnkeaa
