/- ShapePlaces holds: for every input the law returns true, and the input reads as it did. Part 4 of 6. No conditions. -/
import Derived.Test.YtjdfoipnmbnkeaaPl2
set_option maxRecDepth 100000
set_option maxHeartbeats 8000000
namespace Go.Proofs.Ytjdfoipnmbnkeaa
open Go
abbrev ZS38 (k : Nat) : Prop := S38 k ∧ SLl38_0 k
theorem S38_z : S38 0 := by
  unfold S38; intros; rename_i H; exact absurd H (by simp [m38])
theorem S38_s (k : Nat) (ih : ZS38 k) : S38 (k + 1) := by
 intro p0 aG bD aH bE p1 w0 h0 hh cN Rp0_L r H
 rw [m38] at H
 refine aO (fn := Try.f38) Try.func38 rfl (Nat.le_of_ble_eq_true rfl) ?_
 show Run X38 [.code c38_0] (fun t => List.getD [.agg #[I p0.Op,I p0.N,.string p0.Name,.slice aG p0.Index.length aH,.slice bD p0.L.length bE],I p1] t undef) w0 (.fn (Q38 w0 h0 r))
 have st0 := St.init hh noM
 refine aB e38_0<|aA e38_1<|eF (.agg #[I p0.Op,I p0.N,.string p0.Name,.slice aG p0.Index.length aH,.slice bD p0.L.length bE]) rfl rfl rfl (fun b1 w1 al1 => ?_)
 replace al1 : Al _ (.cells (List.toArray [I p0.Op,I p0.N,.string p0.Name,.slice aG p0.Index.length aH,.slice bD p0.L.length bE]) 31 (0,0)) b1 w1 := al1
 obtain ⟨h1,le1,g1,sp1⟩ := al1.fz st0.has
 have st1 := st0.call0 sp1
 refine vv rfl (aC (I 0) rfl)<|aD<|aB e38_2<|aA e38_3<|vv rfl (bH [I p0.Op,I p0.N,.string p0.Name,.slice aG p0.Index.length aH,.slice bD p0.L.length bE] ag31 cX rfl rfl (aY (st1.has _ _ g1) rfl))<|cF (.agg #[I 0,I 0,.string ByteArray.empty,.slice none 0 0,.slice none 0 0]) zr31 rfl rfl (fun b2 w2 al2 => ?_)
 replace al2 : Al _ (.cells (List.toArray [I 0,I 0,.string ByteArray.empty,.slice none 0 0,.slice none 0 0]) 31 (0,0)) b2 w2 := al2
 have M1 := Mut.new st1 al2
 have lb1 := st1.alB al2
 have sp2 := al2.st st1.has
 have st2 := st1.call0 sp2
 refine aV (o := 0) (n := 5) [I p0.Op,I p0.N,.string p0.Name,.slice aG p0.Index.length aH,.slice bD p0.L.length bE] [I p0.Op,I p0.N,.string p0.Name,.slice aG p0.Index.length aH,.slice bD p0.L.length bE] (.agg #[I p0.Op,I p0.N,.string p0.Name,.slice aG p0.Index.length aH,.slice bD p0.L.length bE]) cX rfl rfl rfl rfl M1 rfl rfl rfl rfl rfl (fun w3 wr1 M2 => ?_)
 have sp3 := wr1.st st2.has M1.none
 have st3 := st2.call sp3 (fun x e => (.inl (e ▸ lb1)))
 refine aD<|aB e38_4<|aA e38_5<|vv rfl (aF (b := b2) (o := 0) fl31_4 rfl)<|aV (o := 4) (n := 1) [.slice none 0 0] [I p0.Op,I p0.N,.string p0.Name,.slice aG p0.Index.length aH,.slice none 0 0] (.slice none 0 0) sz29 rfl rfl rfl rfl M2 rfl rfl rfl rfl rfl (fun w4 wr2 M3 => ?_)
 have sp4 := wr2.st st3.has M2.none
 have st4 := st3.call sp4 (fun x e => (.inl (e ▸ lb1)))
 refine aD<|aB e38_6 ?_
 obtain ⟨j1,hj1,H⟩ := dE H
 have Jj1 : ∀ {y1 : Bool} {σ1 : Env} {w6 : World} {h2 : Sto},Le h1 h2 → St w0 noM h0 h2 w6 → σ1 1 = I p1 → σ1 2 = .pointer (some ⟨b1,0,none⟩) → σ1 5 = .pointer (some ⟨b2,0,none⟩) → σ1 6 = .bool y1 → SlR h2 aG aH p0.Index → Mut h2 w6 b2 (.cells (List.toArray [I p0.Op,I p0.N,.string p0.Name,.slice aG p0.Index.length aH,.slice none 0 0]) 31 (0,0)) → j1 y1 = some r → Run X38 [.code c38_8] σ1 w6 (.fn (Q38 w0 h0 r)) := by
  intro y1 σ1 w6 h2 le2 st6 s1_j1 s2_j1 s5_j1 s6_j1 R1 M5 H
  rw [hj1] at H
  refine aB e38_8<|aB e38_9<|aA e38_10<|vv rfl (aF (b := b1) (o := 0) fl31_0 s2_j1)<|vv rfl (aL (I p0.Op) sc3 rfl ((aQ (st6.has _ _ (le2 _ _ g1))).trans rfl))<|aD<|aT e38_11<|aB e38_12<|aA e38_13<|vv rfl (aP .eql .i64 p0.Op 1 (.bool (decide (p0.Op = 1))) 3 3 rfl rfl rfl) ?_
  refine vv rfl (aC (.bool (decide (p0.Op = 1))) rfl)<|aD ?_
  obtain ⟨j2,hj2,H⟩ := dE H
  have Jj2 : ∀ {y5 : Bool} {y6 : Int} {y7 : ByteArray} {y8 : (List ByteArray)} {a1 : OA} {c1 : Nat} {σ5 : Env} {w17 : World} {h9 : Sto},Le h2 h9 → St w0 noM h0 h9 w17 → σ5 1 = I p1 → σ5 2 = .pointer (some ⟨b1,0,none⟩) → σ5 5 = .pointer (some ⟨b2,0,none⟩) → σ5 6 = .bool y5 → SlR h9 a1 c1 y8 → Mut h9 w17 b2 (.cells (List.toArray [I p0.Op,I y6,.string y7,.slice a1 y8.length c1,.slice none 0 0]) 31 (0,0)) → j2 y5 y6 y7 y8 = some r → Run X38 [.inBlock 0,.code c38_31] σ5 w17 (.fn (Q38 w0 h0 r)) := by
   intro y5 y6 y7 y8 a1 c1 σ5 w17 h9 le6 st17 s1_j2 s2_j2 s5_j2 s6_j2 R5 M16 H
   rw [hj2] at H
   refine aW<|aB e38_31<|aB e38_32<|aA e38_33<|vv rfl (aE (.bool y5) s6_j2)<|vv rfl (eA y5 4 rfl)<|vv rfl (aE (.bool (!y5)) rfl) ?_
   rcases aN H with ⟨hc10,H⟩ | ⟨hc10,H⟩
   · refine aZ (wt2 (bL hc10) rfl) rfl (aF (b := b2) (o := 0) fl31_1 s5_j2)<|aZ (wt2 (bL hc10) rfl) rfl (aL (I y6) sc2 rfl ((aQ M16.get).trans rfl))<|aZ (wt2 (bL hc10) rfl) rfl (aP .neq .i64 y6 0 (.bool (!decide (y6 = 0))) 2 2 rfl rfl rfl)<|vv rfl (dI (.bool (!decide (y6 = 0))) (bL hc10) rfl rfl)<|vv rfl (aE (.bool (!decide (y6 = 0))) rfl) ?_
     rcases aN H with ⟨hc11,H⟩ | ⟨hc11,H⟩
     · refine aZ (wt2 (bL (dT hc11)) rfl) rfl (aF (b := b2) (o := 0) fl31_2 s5_j2)<|aZ (wt2 (bL (dT hc11)) rfl) rfl (aL (.string y7) sc9 rfl ((aQ M16.get).trans rfl))<|aZ (wt2 (bL (dT hc11)) rfl) rfl (x_strNe y7 ByteArray.empty 9 9 rfl rfl)<|vv rfl (dI (.bool (!decide (y7 = ByteArray.empty))) (bL (dT hc11)) rfl rfl)<|vv rfl (aE (.bool (!decide (y7 = ByteArray.empty))) rfl) ?_
       rcases aN H with ⟨hc12,H⟩ | ⟨hc12,H⟩
       · refine aZ (wt2 (bL (dT hc12)) rfl) rfl (aF (b := b2) (o := 0) fl31_3 s5_j2)<|aZ (wt2 (bL (dT hc12)) rfl) rfl (aL (.slice a1 y8.length c1) sc28 rfl ((aQ M16.get).trans rfl))<|aZ (wt2 (bL (dT hc12)) rfl) rfl (bN u28 rfl)<|aZ (wt2 (bL (dT hc12)) rfl) rfl (aP .gtr .i64 (y8.length : Int) 0 (.bool (decide (0 < (y8.length : Int)))) 3 3 rfl rfl rfl)<|vv rfl (dI (.bool (decide (0 < (y8.length : Int)))) (bL (dT hc12)) rfl rfl)<|aD ?_
         rcases aN H with ⟨hc13,H⟩ | ⟨hc13,H⟩
         · refine tr e38_34 (dT hc13) rfl<|aB e38_35<|aA e38_36<|vv rfl (aC (I (-1)) rfl)<|aD ?_
           cases H
           exact aJ e38_37 (cG Try.results38 rfl ⟨h9,rfl,st17⟩)
         refine fa e38_34 (dF hc13) rfl<|aM e38_38<|aB e38_39<|aA e38_40<|vv rfl (aC (I 1) rfl)<|aD<|aB e38_41<|aB e38_42<|aA e38_43<|vv rfl (aF (b := b1) (o := 0) fl31_4 s2_j2) ?_
         refine vv rfl (aL (.slice bD p0.L.length bE) sc29 rfl ((aQ (st17.has _ _ ((le2.trans le6) _ _ g1))).trans rfl))<|vv rfl (bN u29 rfl)<|vv rfl (aE (I 0) rfl)<|aD<|aT e38_44<|cB e38_45 ?_
         exact ih.2 (j7 := 0) st17 s1_j2 rfl rfl rfl rfl (SlR.mono (le1.trans (le2.trans le6)) Rp0_L) rfl H
       refine aR (wf2 (bK (dF hc12)) rfl) rfl<|aR (wf2 (bK (dF hc12)) rfl) rfl<|aR (wf2 (bK (dF hc12)) rfl) rfl<|aR (wf2 (bK (dF hc12)) rfl) rfl<|vv rfl (dH (.bool true) (bK (dF hc12)) rfl rfl)<|aD<|cQ e38_34 (p := true) rfl rfl<|aB e38_35<|aA e38_36<|vv rfl (aC (I (-1)) rfl) ?_
       refine aD ?_
       cases H
       exact aJ e38_37 (cG Try.results38 rfl ⟨h9,rfl,st17⟩)
     refine aR (wf2 (bK (dF hc11)) rfl) rfl<|aR (wf2 (bK (dF hc11)) rfl) rfl<|aR (wf2 (bK (dF hc11)) rfl) rfl<|vv rfl (dH (.bool true) (bK (dF hc11)) rfl rfl)<|vv rfl (aE (.bool true) rfl)<|aR (wf (p := true) rfl rfl) rfl<|aR (wf (p := true) rfl rfl) rfl<|aR (wf (p := true) rfl rfl) rfl<|aR (wf (p := true) rfl rfl) rfl<|vv rfl (x_pickT (.bool true) (p := true) rfl rfl rfl) ?_
     refine aD<|cQ e38_34 (p := true) rfl rfl<|aB e38_35<|aA e38_36<|vv rfl (aC (I (-1)) rfl)<|aD ?_
     cases H
     exact aJ e38_37 (cG Try.results38 rfl ⟨h9,rfl,st17⟩)
   refine aR (wf2 (bK (cA hc10)) rfl) rfl<|aR (wf2 (bK (cA hc10)) rfl) rfl<|aR (wf2 (bK (cA hc10)) rfl) rfl<|vv rfl (dH (.bool true) (bK (cA hc10)) rfl rfl)<|vv rfl (aE (.bool true) rfl)<|aR (wf (p := true) rfl rfl) rfl<|aR (wf (p := true) rfl rfl) rfl<|aR (wf (p := true) rfl rfl) rfl<|vv rfl (x_pickT (.bool true) (p := true) rfl rfl rfl)<|vv rfl (aE (.bool true) rfl) ?_
   refine aR (wf (p := true) rfl rfl) rfl<|aR (wf (p := true) rfl rfl) rfl<|aR (wf (p := true) rfl rfl) rfl<|aR (wf (p := true) rfl rfl) rfl<|vv rfl (x_pickT (.bool true) (p := true) rfl rfl rfl)<|aD<|cQ e38_34 (p := true) rfl rfl<|aB e38_35<|aA e38_36<|vv rfl (aC (I (-1)) rfl) ?_
   refine aD ?_
   cases H
   exact aJ e38_37 (cG Try.results38 rfl ⟨h9,rfl,st17⟩)
  rcases aN H with ⟨hc2,H⟩ | ⟨hc2,H⟩
  · refine tr e38_14 (dT hc2) rfl<|aB e38_15<|aA e38_16 ?_
    obtain ⟨j3,hj3,H⟩ := dE H
    have Jj3 : ∀ {y2 : Bool} {σ2 : Env} {w7 : World} {h3 : Sto},Le h2 h3 → St w0 noM h0 h3 w7 → σ2 1 = I p1 → σ2 2 = .pointer (some ⟨b1,0,none⟩) → σ2 5 = .pointer (some ⟨b2,0,none⟩) → σ2 6 = .bool y2 → SlR h3 aG aH p0.Index → Mut h3 w7 b2 (.cells (List.toArray [I p0.Op,I p0.N,.string p0.Name,.slice aG p0.Index.length aH,.slice none 0 0]) 31 (0,0)) → j3 y2 = some r → Run X38 [.code c38_17,.inBlock 0,.code c38_31] σ2 w7 (.fn (Q38 w0 h0 r)) := by
     intro y2 σ2 w7 h3 le3 st7 s1_j3 s2_j3 s5_j3 s6_j3 R2 M6 H
     rw [hj3] at H
     refine aA e38_17<|vv rfl (aF (b := b2) (o := 0) fl31_1 s5_j3)<|aV (o := 1) (n := 1) [I 0] [I p0.Op,I 0,.string p0.Name,.slice aG p0.Index.length aH,.slice none 0 0] (I 0) sz2 rfl rfl rfl rfl M6 rfl rfl rfl rfl rfl (fun w8 wr3 M7 => ?_)
     have sp6 := wr3.st st7.has M6.none
     have st8 := st7.call sp6 (fun x e => (.inl (e ▸ lb1)))
     refine aD ?_
     exact Jj2 le3 st8 s1_j3 s2_j3 s5_j3 s6_j3 R2 M7 H
    refine vv rfl (aE (.bool y1) s6_j1)<|vv rfl (aE (.bool y1) rfl) ?_
    rcases aN H with ⟨hc3,H⟩ | ⟨hc3,H⟩
    · refine aZ (wt2 hc3 rfl) rfl (aF (b := b1) (o := 0) fl31_1 s2_j1)<|aZ (wt2 hc3 rfl) rfl (aL (I p0.N) sc2 rfl ((aQ (st6.has _ _ (le2 _ _ g1))).trans rfl))<|aZ (wt2 hc3 rfl) rfl (aP .geq .i64 p0.N 0 (.bool (decide (0 ≤ p0.N))) 2 2 rfl rfl rfl)<|vv rfl (dH (.bool (decide (0 ≤ p0.N))) hc3 rfl rfl)<|vv rfl (aE (.bool (decide (0 ≤ p0.N))) rfl) ?_
      rcases aN H with ⟨hc4,H⟩ | ⟨hc4,H⟩
      · refine aZ (wt2 (dT hc4) rfl) rfl (aF (b := b1) (o := 0) fl31_1 s2_j1)<|aZ (wt2 (dT hc4) rfl) rfl (aL (I p0.N) sc2 rfl ((aQ (st6.has _ _ (le2 _ _ g1))).trans rfl))<|aZ (wt2 (dT hc4) rfl) rfl (aP .lss .i64 p0.N 1000000000000000000 (.bool (decide (p0.N < 1000000000000000000))) 2 2 rfl rfl rfl)<|vv rfl (dH (.bool (decide (p0.N < 1000000000000000000))) (dT hc4) rfl rfl)<|vv rfl (aC (.bool (decide (p0.N < 1000000000000000000))) rfl)<|aD ?_
        exact Jj3 (Le.refl _) st6 s1_j1 s2_j1 s5_j1 rfl R1 M5 H
      refine aR (wf2 (dF hc4) rfl) rfl<|aR (wf2 (dF hc4) rfl) rfl<|aR (wf2 (dF hc4) rfl) rfl<|vv rfl (dI (.bool false) (dF hc4) rfl rfl)<|vv rfl (aC (.bool false) rfl)<|aD ?_
      exact Jj3 (Le.refl _) st6 s1_j1 s2_j1 s5_j1 rfl R1 M5 H
    refine aR (wf2 (cA hc3) rfl) rfl<|aR (wf2 (cA hc3) rfl) rfl<|aR (wf2 (cA hc3) rfl) rfl<|vv rfl (dI (.bool false) (cA hc3) rfl rfl)<|vv rfl (aE (.bool false) rfl)<|aR (wf (p := false) rfl rfl) rfl<|aR (wf (p := false) rfl rfl) rfl<|aR (wf (p := false) rfl rfl) rfl<|vv rfl (cI (.bool false) (p := false) rfl rfl rfl)<|vv rfl (aC (.bool false) rfl) ?_
    refine aD ?_
    exact Jj3 (Le.refl _) st6 s1_j1 s2_j1 s5_j1 rfl R1 M5 H
  refine fa e38_14 (dF hc2) rfl<|aB e38_18<|aA e38_19<|vv rfl (aP .eql .i64 p0.Op 2 (.bool (decide (p0.Op = 2))) 3 3 rfl rfl rfl)<|vv rfl (aC (.bool (decide (p0.Op = 2))) rfl)<|aD ?_
  rcases aN H with ⟨hc5,H⟩ | ⟨hc5,H⟩
  · refine tr e38_20 (dT hc5) rfl<|aB e38_21<|aA e38_22 ?_
    obtain ⟨j4,hj4,H⟩ := dE H
    have Jj4 : ∀ {y3 : Bool} {σ3 : Env} {w11 : World} {h6 : Sto},Le h2 h6 → St w0 noM h0 h6 w11 → σ3 1 = I p1 → σ3 2 = .pointer (some ⟨b1,0,none⟩) → σ3 5 = .pointer (some ⟨b2,0,none⟩) → σ3 6 = .bool y3 → SlR h6 aG aH p0.Index → Mut h6 w11 b2 (.cells (List.toArray [I p0.Op,I p0.N,.string p0.Name,.slice aG p0.Index.length aH,.slice none 0 0]) 31 (0,0)) → j4 y3 = some r → Run X38 [.code c38_23,.inBlock 0,.code c38_31] σ3 w11 (.fn (Q38 w0 h0 r)) := by
     intro y3 σ3 w11 h6 le4 st11 s1_j4 s2_j4 s5_j4 s6_j4 R3 M10 H
     rw [hj4] at H
     refine aA e38_23<|vv rfl (aF (b := b2) (o := 0) fl31_2 s5_j4)<|aV (o := 2) (n := 1) [.string ByteArray.empty] [I p0.Op,I p0.N,.string ByteArray.empty,.slice aG p0.Index.length aH,.slice none 0 0] (.string ByteArray.empty) sz9 rfl rfl rfl rfl M10 rfl rfl rfl rfl rfl (fun w12 wr4 M11 => ?_)
     have sp9 := wr4.st st11.has M10.none
     have st12 := st11.call sp9 (fun x e => (.inl (e ▸ lb1)))
     refine vv rfl (aF (b := b2) (o := 0) fl31_3 s5_j4)<|aV (o := 3) (n := 1) [.slice none 0 0] [I p0.Op,I p0.N,.string ByteArray.empty,.slice none 0 0,.slice none 0 0] (.slice none 0 0) sz28 rfl rfl rfl rfl M11 rfl rfl rfl rfl rfl (fun w13 wr5 M12 => ?_)
     have sp10 := wr5.st st12.has M11.none
     have st13 := st12.call sp10 (fun x e => (.inl (e ▸ lb1)))
     refine aD ?_
     exact Jj2 le4 st13 s1_j4 s2_j4 s5_j4 s6_j4 (SlR.none _) M12 H
    refine vv rfl (aE (.bool y1) s6_j1)<|vv rfl (aE (.bool y1) rfl) ?_
    rcases aN H with ⟨hc6,H⟩ | ⟨hc6,H⟩
    · refine aZ (wt2 hc6 rfl) rfl (aF (b := b1) (o := 0) fl31_2 s2_j1)<|aZ (wt2 hc6 rfl) rfl (aL (.string p0.Name) sc9 rfl ((aQ (st6.has _ _ (le2 _ _ g1))).trans rfl)) ?_
      obtain ⟨r1,hr1,H⟩ := aK H
      refine aU [.string p0.Name] en46 (wt2 hc6 rfl) rfl rfl (F46 k st6.has hr1) ?_
      rintro _ w9 ⟨h4,rfl,sp7⟩
      have M8 := M5.call0 sp7
      have st9 := st6.call0 sp7
      refine vv rfl (dH (.bool r1) hc6 rfl rfl)<|vv rfl (aE (.bool r1) rfl) ?_
      rcases aN H with ⟨hc7,H⟩ | ⟨hc7,H⟩
      · refine aZ (wt2 hc7 rfl) rfl (aF (b := b1) (o := 0) fl31_3 s2_j1)<|aZ (wt2 hc7 rfl) rfl (aL (.slice aG p0.Index.length aH) sc28 rfl ((aQ (st9.has _ _ ((le2.trans sp7.le) _ _ g1))).trans rfl)) ?_
        obtain ⟨r2,hr2,H⟩ := aK H
        refine aU [.slice aG p0.Index.length aH] en49 (wt2 hc7 rfl) rfl rfl (F49 k st9.has (SlR.mono (le1.trans (le2.trans sp7.le)) cN) hr2) ?_
        rintro _ w10 ⟨h5,rfl,sp8⟩
        have M9 := M8.call0 sp8
        have st10 := st9.call0 sp8
        refine vv rfl (dH (.bool r2) hc7 rfl rfl)<|vv rfl (aC (.bool r2) rfl)<|aD ?_
        exact Jj4 (sp7.le.trans sp8.le) st10 s1_j1 s2_j1 s5_j1 rfl (SlR.mono (sp7.le.trans sp8.le) R1) M9 H
      refine aR (wf2 (cA hc7) rfl) rfl<|aR (wf2 (cA hc7) rfl) rfl<|aR (wf2 (cA hc7) rfl) rfl<|vv rfl (dI (.bool false) (cA hc7) rfl rfl)<|vv rfl (aC (.bool false) rfl)<|aD ?_
      exact Jj4 sp7.le st9 s1_j1 s2_j1 s5_j1 rfl (SlR.mono sp7.le R1) M8 H
    refine aR (wf2 (cA hc6) rfl) rfl<|aR (wf2 (cA hc6) rfl) rfl<|aR (wf2 (cA hc6) rfl) rfl<|vv rfl (dI (.bool false) (cA hc6) rfl rfl)<|vv rfl (aE (.bool false) rfl)<|aR (wf (p := false) rfl rfl) rfl<|aR (wf (p := false) rfl rfl) rfl<|aR (wf (p := false) rfl rfl) rfl<|vv rfl (cI (.bool false) (p := false) rfl rfl rfl)<|vv rfl (aC (.bool false) rfl) ?_
    refine aD ?_
    exact Jj4 (Le.refl _) st6 s1_j1 s2_j1 s5_j1 rfl R1 M5 H
  refine fa e38_20 (dF hc5) rfl<|aB e38_24<|aA e38_25<|vv rfl (aP .eql .i64 p0.Op 7 (.bool (decide (p0.Op = 7))) 3 3 rfl rfl rfl)<|vv rfl (aC (.bool (decide (p0.Op = 7))) rfl)<|aD ?_
  rcases aN H with ⟨hc8,H⟩ | ⟨hc8,H⟩
  · refine tr e38_26 (dT hc8) rfl<|aB e38_27<|aA e38_28 ?_
    obtain ⟨j5,hj5,H⟩ := dE H
    have Jj5 : ∀ {y4 : Bool} {σ4 : Env} {w15 : World} {h8 : Sto},Le h2 h8 → St w0 noM h0 h8 w15 → σ4 1 = I p1 → σ4 2 = .pointer (some ⟨b1,0,none⟩) → σ4 5 = .pointer (some ⟨b2,0,none⟩) → σ4 6 = .bool y4 → SlR h8 aG aH p0.Index → Mut h8 w15 b2 (.cells (List.toArray [I p0.Op,I p0.N,.string p0.Name,.slice aG p0.Index.length aH,.slice none 0 0]) 31 (0,0)) → j5 y4 = some r → Run X38 [.code c38_29,.inBlock 0,.code c38_31] σ4 w15 (.fn (Q38 w0 h0 r)) := by
     intro y4 σ4 w15 h8 le5 st15 s1_j5 s2_j5 s5_j5 s6_j5 R4 M14 H
     rw [hj5] at H
     refine aA e38_29<|vv rfl (aF (b := b2) (o := 0) fl31_2 s5_j5)<|aV (o := 2) (n := 1) [.string ByteArray.empty] [I p0.Op,I p0.N,.string ByteArray.empty,.slice aG p0.Index.length aH,.slice none 0 0] (.string ByteArray.empty) sz9 rfl rfl rfl rfl M14 rfl rfl rfl rfl rfl (fun w16 wr6 M15 => ?_)
     have sp12 := wr6.st st15.has M14.none
     have st16 := st15.call sp12 (fun x e => (.inl (e ▸ lb1)))
     refine aD ?_
     exact Jj2 le5 st16 s1_j5 s2_j5 s5_j5 s6_j5 R4 M15 H
    refine vv rfl (aE (.bool y1) s6_j1)<|vv rfl (aE (.bool y1) rfl) ?_
    rcases aN H with ⟨hc9,H⟩ | ⟨hc9,H⟩
    · refine aZ (wt2 hc9 rfl) rfl (aF (b := b1) (o := 0) fl31_2 s2_j1)<|aZ (wt2 hc9 rfl) rfl (aL (.string p0.Name) sc9 rfl ((aQ (st6.has _ _ (le2 _ _ g1))).trans rfl)) ?_
      obtain ⟨r3,hr3,H⟩ := aK H
      refine aU [.string p0.Name] en46 (wt2 hc9 rfl) rfl rfl (F46 k st6.has hr3) ?_
      rintro _ w14 ⟨h7,rfl,sp11⟩
      have M13 := M5.call0 sp11
      have st14 := st6.call0 sp11
      refine vv rfl (dH (.bool r3) hc9 rfl rfl)<|vv rfl (aC (.bool r3) rfl)<|aD ?_
      exact Jj5 sp11.le st14 s1_j1 s2_j1 s5_j1 rfl (SlR.mono sp11.le R1) M13 H
    refine aR (wf2 (cA hc9) rfl) rfl<|aR (wf2 (cA hc9) rfl) rfl<|aR (wf2 (cA hc9) rfl) rfl<|vv rfl (dI (.bool false) (cA hc9) rfl rfl)<|vv rfl (aC (.bool false) rfl)<|aD ?_
    exact Jj5 (Le.refl _) st6 s1_j1 s2_j1 s5_j1 rfl R1 M5 H
  refine fa e38_26 (dF hc8) rfl<|aM e38_30 ?_
  exact Jj2 (Le.refl _) st6 s1_j1 s2_j1 s5_j1 s6_j1 R1 M5 H
 refine dW [[(0,false),(1,false),(2,false),(3,false),(4,false),(6,false),(7,false),(8,false),(5,true),(9,false),(10,false),(11,false)]] [5] [0,1,2,3,4,5,6,7,8,9,10,11] [0,1,2,3,4,5,6,7,8,9,10,11] (fun w_ => Has h1 w_ ∧ True) e38_7 k38_7 m38_7 (fun w5 al3 => ?_)
 have sp5 := al3.st st4.has
 have M4 := M3.call0 sp5
 have st5 := st4.call0 sp5
 refine ⟨⟨Has.le (Le.refl _) st5.has,trivial⟩,?_,trivial⟩
 refine bI rfl rfl (fun w_ ok_ => aE (I p1) rfl)<|bI rfl rfl (fun w_ ok_ => aP .gtr .i64 p1 0 (.bool (decide (0 < p1))) 3 3 rfl rfl rfl)<|bI rfl rfl (fun w_ ok_ => aE (.bool (decide (0 < p1))) rfl) ?_
 rcases aN H with ⟨hc1,H⟩ | ⟨hc1,H⟩
 · refine bI rfl (wt2 (dT hc1) rfl) (fun w_ ok_ => aF (b := b1) (o := 0) fl31_0 rfl)<|bI rfl (wt2 (dT hc1) rfl) (fun w_ ok_ => aL (I p0.Op) sc3 rfl ((aQ (ok_.1 _ _ g1)).trans rfl))<|bI rfl (wt2 (dT hc1) rfl) (fun w_ ok_ => aF (b := b1) (o := 0) fl31_4 rfl)<|bI rfl (wt2 (dT hc1) rfl) (fun w_ ok_ => aL (.slice bD p0.L.length bE) sc29 rfl ((aQ (ok_.1 _ _ g1)).trans rfl))<|bI rfl (wt2 (dT hc1) rfl) (fun w_ ok_ => bN u29 rfl) ?_
   obtain ⟨rd1_5_1,hrd1_5_2,H⟩ := aK H
   refine dr_c rfl (fJ [I p0.Op] en61 (wt2 (dT hc1) rfl) rfl (F61 st5.has hrd1_5_2) ?_)
   rintro _ wd1_5_3 ⟨hd1_5_4,rfl,spd1_5_5⟩
   have Md1_5_6 := M4.call0 spd1_5_5
   have std1_5_7 := st5.call0 spd1_5_5
   refine ⟨.inr ⟨Has.le spd1_5_5.le std1_5_7.has,trivial⟩,?_⟩
   refine bI rfl (wt2 (dT hc1) rfl) (fun w_ ok_ => aP .eql .i64 rd1_5_1 (p0.L.length : Int) (.bool (decide (rd1_5_1 = (p0.L.length : Int)))) 3 3 rfl rfl rfl)<|bI rfl rfl (fun w_ ok_ => dH (.bool (decide (rd1_5_1 = (p0.L.length : Int)))) (dT hc1) rfl rfl)<|bI rfl rfl (fun w_ ok_ => aC (.bool (decide (rd1_5_1 = (p0.L.length : Int)))) rfl)<|dZ ?_
   exact Jj1 spd1_5_5.le std1_5_7 rfl rfl rfl rfl (SlR.mono (le1.trans spd1_5_5.le) cN) Md1_5_6 H
 refine dP rfl (wf2 (dF hc1) rfl)<|dP rfl (wf2 (dF hc1) rfl)<|dP rfl (wf2 (dF hc1) rfl)<|dP rfl (wf2 (dF hc1) rfl)<|dP rfl (wf2 (dF hc1) rfl) ?_
 refine dr_c rfl (od_s (wf2 (dF hc1) rfl) ⟨.inr ⟨Has.le (Le.refl _) st5.has,trivial⟩,?_⟩)
 refine dP rfl (wf2 (dF hc1) rfl)<|bI rfl rfl (fun w_ ok_ => dI (.bool false) (dF hc1) rfl rfl)<|bI rfl rfl (fun w_ ok_ => aC (.bool false) rfl)<|dZ ?_
 exact Jj1 (Le.refl _) st5 rfl rfl rfl rfl (SlR.mono le1 cN) M4 H
theorem SLl38_0_z : SLl38_0 0 := by
  unfold SLl38_0; intros; rename_i H; exact absurd H (by simp [l38_0])
theorem SLl38_0_s (k : Nat) (ih : ZS38 k) : SLl38_0 (k + 1) := by
 intro p0 bD bE j7 p1 i1 w0 w h0 h σ xs1 r st s1 s7 s83 s84 s85 R6 hd1 H
 cases xs1 with
 | nil =>
  rw [l38_0] at H
  have hk1 := cV hd1
  refine aB e38_46<|aA e38_47<|vv rfl (aP .lss .i64 (j7 : Int) (p0.L.length : Int) (.bool (decide ((j7 : Int) < (p0.L.length : Int)))) 3 3 s85 s84 rfl)<|aD<|aB e38_48<|fa e38_49 hk1 rfl<|bM e38_51 rfl<|aB e38_68<|aA e38_69<|vv rfl (aE (I i1) s7) ?_
  refine vv rfl (aC (I i1) rfl)<|aD ?_
  cases H
  exact aJ e38_70 (cG Try.results38 rfl ⟨h,rfl,st⟩)
 | cons x1 xs2 =>
  rw [l38_0] at H
  obtain ⟨hk2,hj1,hx1,hd2⟩ := cL hd1
  refine aB e38_46<|aA e38_47<|vv rfl (aP .lss .i64 (j7 : Int) (p0.L.length : Int) (.bool (decide ((j7 : Int) < (p0.L.length : Int)))) 3 3 s85 s84 rfl)<|aD<|aB e38_48<|tr e38_49 hk2 rfl<|aM e38_50<|aB e38_52<|aT e38_53<|aB e38_54 ?_
  refine aA e38_55 ?_
  obtain ⟨b3,o1,vs1,ea1,rp1,cl1⟩ := SlR.at R6 hx1
  obtain ⟨a2,c2,a3,c3,rfl,R7,R8⟩ := GNode.out rp1
  refine vv rfl (aX u29 cX s83 s85 ea1 (Int.natCast_nonneg _) (Int.ofNat_lt.2 hj1))<|vv rfl (bH [I x1.Op,I x1.N,.string x1.Name,.slice a2 x1.Index.length c2,.slice a3 x1.L.length c3] ag31 cX rfl rfl (cl1 _ (Has.le (Le.refl _) st.has)))<|cF (.agg #[I 0,I 0,.string ByteArray.empty,.slice none 0 0,.slice none 0 0]) zr31 rfl rfl (fun b4 w18 al4 => ?_)
  replace al4 : Al _ (.cells (List.toArray [I 0,I 0,.string ByteArray.empty,.slice none 0 0,.slice none 0 0]) 31 (0,0)) b4 w18 := al4
  have M17 := Mut.new st al4
  have lb2 := st.alB al4
  have sp13 := al4.st st.has
  have st18 := st.call0 sp13
  refine aV (o := 0) (n := 5) [I x1.Op,I x1.N,.string x1.Name,.slice a2 x1.Index.length c2,.slice a3 x1.L.length c3] [I x1.Op,I x1.N,.string x1.Name,.slice a2 x1.Index.length c2,.slice a3 x1.L.length c3] (.agg #[I x1.Op,I x1.N,.string x1.Name,.slice a2 x1.Index.length c2,.slice a3 x1.L.length c3]) cX rfl rfl rfl rfl M17 rfl rfl rfl rfl rfl (fun w19 wr7 M18 => ?_)
  have sp14 := wr7.st st18.has M17.none
  have st19 := st18.call sp14 (fun x e => (.inl (e ▸ lb2)))
  obtain ⟨h10,le7,g2,st20,kp1⟩ := M18.fz st19 lb2
  refine aD<|aB e38_56<|aA e38_57<|vv rfl (bH [I x1.Op,I x1.N,.string x1.Name,.slice a2 x1.Index.length c2,.slice a3 x1.L.length c3] ag31 cX rfl rfl (aY (st20.has _ _ g2) rfl))<|vv rfl (aE (I p1) s1)<|vv rfl (aP .sub .i64 p1 1 (I (wr (p1 - 1))) 3 3 rfl rfl rfl) ?_
  obtain ⟨r4,hr4,H⟩ := aK H
  refine aU [.agg #[I x1.Op,I x1.N,.string x1.Name,.slice a2 x1.Index.length c2,.slice a3 x1.L.length c3],I (wr (p1 - 1))] en38 rfl rfl rfl (ih.1 (p0 := x1) st20.has (SlR.mono le7 R7) (SlR.mono le7 R8) hr4) ?_
  rintro _ w20 ⟨h11,rfl,sp15⟩
  have st21 := st20.call0 sp15
  refine vv rfl (aC (I r4) rfl)<|aD<|aB e38_58<|aB e38_59<|aA e38_60<|vv rfl (aE (I r4) rfl)<|vv rfl (aP .lss .i64 r4 0 (.bool (decide (r4 < 0))) 3 3 rfl rfl rfl)<|aD ?_
  rcases aN H with ⟨hc14,H⟩ | ⟨hc14,H⟩
  · refine tr e38_61 (dT hc14) rfl<|aB e38_62<|aA e38_63<|vv rfl (aC (I (-1)) rfl)<|aD ?_
    cases H
    exact aJ e38_64 (cG Try.results38 rfl ⟨h11,rfl,st21⟩)
  refine fa e38_61 (dF hc14) rfl<|aM e38_65<|aA e38_66<|vv rfl (aE (I i1) s7)<|vv rfl (aE (I r4) rfl)<|vv rfl (aP .add .i64 i1 r4 (I (wr (i1 + r4))) 3 3 rfl rfl rfl)<|vv rfl (aC (I (wr (i1 + r4))) rfl)<|aD<|aW<|aA e38_67 ?_
  refine vv rfl (aP .add .i64 (j7 : Int) 1 (I ((j7 + 1 : Nat) : Int)) 3 3 s85 rfl (dL hj1 (SlR.mono (le7.trans sp15.le) R6).mx))<|vv rfl (aE (I ((j7 + 1 : Nat) : Int)) rfl)<|aD<|bF ?_
  exact ih.2 (j7 := (j7 + 1)) st21 s1 rfl s83 s84 rfl (SlR.mono (le7.trans sp15.le) R6) hd2 H
theorem ZS38_all : ∀ k,ZS38 k
  | 0 => ⟨S38_z,SLl38_0_z⟩
  | k + 1 => ⟨S38_s k (ZS38_all k),SLl38_0_s k (ZS38_all k)⟩
theorem F38 (k : Nat) : S38 k := (ZS38_all k).1
theorem F21 (k : Nat) : S21 k := by
 intro p0 aG bD aH bE w0 h0 hh cN Rp0_L r H
 unfold m21 at H
 refine aO (fn := Try.f21) Try.func21 rfl (Nat.le_of_ble_eq_true rfl) ?_
 show Run X21 [.code c21_0] (fun t => List.getD [.agg #[I p0.Op,I p0.N,.string p0.Name,.slice aG p0.Index.length aH,.slice bD p0.L.length bE]] t undef) w0 (.fn (Q21 w0 h0 r))
 have st0 := St.init hh noM
 refine aB e21_0<|aA e21_1<|eF (.agg #[I p0.Op,I p0.N,.string p0.Name,.slice aG p0.Index.length aH,.slice bD p0.L.length bE]) rfl rfl rfl (fun b1 w1 al1 => ?_)
 replace al1 : Al _ (.cells (List.toArray [I p0.Op,I p0.N,.string p0.Name,.slice aG p0.Index.length aH,.slice bD p0.L.length bE]) 31 (0,0)) b1 w1 := al1
 obtain ⟨h1,le1,g1,sp1⟩ := al1.fz st0.has
 have st1 := st0.call0 sp1
 refine vv rfl (aC (.bool false) rfl)<|aD<|aB e21_2<|aA e21_3<|vv rfl (bH [I p0.Op,I p0.N,.string p0.Name,.slice aG p0.Index.length aH,.slice bD p0.L.length bE] ag31 cX rfl rfl (aY (st1.has _ _ g1) rfl)) ?_
 obtain ⟨r1,hr1,H⟩ := aK H
 refine aU [.agg #[I p0.Op,I p0.N,.string p0.Name,.slice aG p0.Index.length aH,.slice bD p0.L.length bE],I 16] en38 rfl rfl rfl (F38 k (p0 := p0) st1.has (SlR.mono le1 cN) (SlR.mono le1 Rp0_L) hr1) ?_
 rintro _ w2 ⟨h2,rfl,sp2⟩
 have st2 := st1.call0 sp2
 refine vv rfl (aC (I r1) rfl)<|aD<|aB e21_4<|aA e21_5 ?_
 obtain ⟨j1,hj1,H⟩ := dE H
 have Jj1 : ∀ {y1 : Bool} {σ1 : Env} {w3 : World} {h3 : Sto},Le h2 h3 → St w0 noM h0 h3 w3 → σ1 2 = .bool y1 → j1 y1 = some r → Run X21 [.code c21_6] σ1 w3 (.fn (Q21 w0 h0 r)) := by
  intro y1 σ1 w3 h3 le2 st3 s2_j1 H
  rw [hj1] at H
  cases H
  exact aJ e21_6 (cG Try.results21 s2_j1 ⟨h3,rfl,st3⟩)
 refine vv rfl (aE (I r1) rfl)<|vv rfl (aP .gtr .i64 r1 0 (.bool (decide (0 < r1))) 3 3 rfl rfl rfl)<|vv rfl (aE (.bool (decide (0 < r1))) rfl) ?_
 rcases aN H with ⟨hc1,H⟩ | ⟨hc1,H⟩
 · refine aZ (wt2 (dT hc1) rfl) rfl (aE (I r1) rfl)<|aZ (wt2 (dT hc1) rfl) rfl (aP .leq .i64 r1 120 (.bool (decide (r1 ≤ 120))) 3 3 rfl rfl rfl)<|vv rfl (dH (.bool (decide (r1 ≤ 120))) (dT hc1) rfl rfl)<|vv rfl (aC (.bool (decide (r1 ≤ 120))) rfl)<|aD ?_
   exact Jj1 (Le.refl _) st2 rfl H
 refine aR (wf2 (dF hc1) rfl) rfl<|aR (wf2 (dF hc1) rfl) rfl<|vv rfl (dI (.bool false) (dF hc1) rfl rfl)<|vv rfl (aC (.bool false) rfl)<|aD ?_
 exact Jj1 (Le.refl _) st2 rfl H
theorem F78 : S78 := by
 intro p0 w0 h0 hh r H
 unfold m78 at H
 refine aO (fn := Try.f78) Try.func78 rfl (Nat.le_of_ble_eq_true rfl) ?_
 show Run X78 [.code c78_0] (fun t => List.getD [I p0] t undef) w0 (.fn (Q78 w0 h0 r))
 have st0 := St.init hh noM
 refine aB e78_0<|aA e78_1<|vv rfl (aC (.bool false) rfl)<|aD<|aB e78_2<|aA e78_3 ?_
 obtain ⟨j1,hj1,H⟩ := dE H
 have Jj1 : ∀ {y1 : Bool} {σ1 : Env} {w1 : World} {h1 : Sto},Le h0 h1 → St w0 noM h0 h1 w1 → σ1 2 = .bool y1 → j1 y1 = some r → Run X78 [.code c78_4] σ1 w1 (.fn (Q78 w0 h0 r)) := by
  intro y1 σ1 w1 h1 le1 st1 s2_j1 H
  rw [hj1] at H
  cases H
  exact aJ e78_4 (cG Try.results78 s2_j1 ⟨h1,rfl,st1⟩)
 refine vv rfl (aE (I p0) rfl)<|vv rfl (aP .lss .i64 p0 0 (.bool (decide (p0 < 0))) 3 3 rfl rfl rfl)<|vv rfl (aE (.bool (decide (p0 < 0))) rfl) ?_
 rcases aN H with ⟨hc1,H⟩ | ⟨hc1,H⟩
 · refine aR (wf2 (dT hc1) rfl) rfl<|aR (wf2 (dT hc1) rfl) rfl<|vv rfl (dH (.bool true) (dT hc1) rfl rfl)<|vv rfl (aC (.bool true) rfl)<|aD ?_
   exact Jj1 (Le.refl _) st0 rfl H
 refine aZ (wt2 (dF hc1) rfl) rfl (aE (I p0) rfl)<|aZ (wt2 (dF hc1) rfl) rfl (aP .geq .i64 p0 1000000000000000000 (.bool (decide (1000000000000000000 ≤ p0))) 3 3 rfl rfl rfl)<|vv rfl (dI (.bool (decide (1000000000000000000 ≤ p0))) (dF hc1) rfl rfl)<|vv rfl (aC (.bool (decide (1000000000000000000 ≤ p0))) rfl)<|aD ?_
 exact Jj1 (Le.refl _) st0 rfl H
abbrev ZSLl91_0 (k : Nat) : Prop := SLl91_0 k
theorem SLl91_0_z : SLl91_0 0 := by
  unfold SLl91_0; intros; rename_i H; exact absurd H (by simp [l91_0])
theorem SLl91_0_s (k : Nat) (ih : ZSLl91_0 k) : SLl91_0 (k + 1) := by
 intro p0 bA bC j1 w0 w h0 h σ xs1 r st s0 s1 s7 s8 R1 hd1 H
 cases xs1 with
 | nil =>
  rw [l91_0] at H
  have hk1 := cV hd1
  refine aB e91_7<|aA e91_8<|vv rfl (aP .lss .i64 (j1 : Int) (p0.length : Int) (.bool (decide ((j1 : Int) < (p0.length : Int)))) 3 3 s8 s7 rfl)<|aD<|aB e91_9<|fa e91_10 hk1 rfl<|bM e91_12 rfl<|aB e91_25<|aA e91_26<|vv rfl (aC (I (-1)) rfl) ?_
  refine aD ?_
  cases H
  exact aJ e91_27 (cG Try.results91 rfl ⟨h,rfl,st⟩)
 | cons x1 xs2 =>
  rw [l91_0] at H
  obtain ⟨hk2,hj1,hx1,hd2⟩ := cL hd1
  refine aB e91_7<|aA e91_8<|vv rfl (aP .lss .i64 (j1 : Int) (p0.length : Int) (.bool (decide ((j1 : Int) < (p0.length : Int)))) 3 3 s8 s7 rfl)<|aD<|aB e91_9<|tr e91_10 hk2 rfl<|aM e91_11<|aB e91_13<|aT e91_14<|aB e91_15 ?_
  refine aA e91_16<|vv rfl (aE (I (j1 : Int)) s8)<|vv rfl (aC (I (j1 : Int)) rfl)<|aD<|aB e91_17<|aA e91_18<|vv rfl (aE (.func (.func 78) #[] #[]) s1)<|vv rfl (aE (.slice bA p0.length bC) s0)<|vv rfl (aE (I (j1 : Int)) rfl) ?_
  obtain ⟨b1,o1,vs1,ea1,rp1,cl1⟩ := SlR.at R1 hx1
  obtain rfl := rp1
  refine vv rfl (aX u43 sz3 rfl rfl ea1 (Int.natCast_nonneg _) (Int.ofNat_lt.2 hj1))<|vv rfl (aL (I x1) sc3 rfl (((cl1 _ (Has.le (Le.refl _) st.has)) 0 (by decide)).trans rfl)) ?_
  obtain ⟨r1,hr1,H⟩ := aK H
  refine dR [] [] [I x1] [I x1] en78 rfl rfl rfl rfl rfl (F78 st.has hr1) ?_
  rintro _ w1 ⟨h1,rfl,sp1⟩
  have st1 := st.call0 sp1
  refine aD ?_
  rcases aN H with ⟨hc1,H⟩ | ⟨hc1,H⟩
  · refine tr e91_19 hc1 rfl<|aB e91_20<|aA e91_21<|vv rfl (aE (I (j1 : Int)) rfl)<|vv rfl (aC (I (j1 : Int)) rfl)<|aD ?_
    cases H
    exact aJ e91_22 (cG Try.results91 rfl ⟨h1,rfl,st1⟩)
  refine fa e91_19 (cA hc1) rfl<|aM e91_23<|aW<|aA e91_24<|vv rfl (aP .add .i64 (j1 : Int) 1 (I ((j1 + 1 : Nat) : Int)) 3 3 s8 rfl (dL hj1 (SlR.mono sp1.le R1).mx))<|vv rfl (aE (I ((j1 + 1 : Nat) : Int)) rfl)<|aD<|bF ?_
  exact ih (j1 := (j1 + 1)) st1 s0 s1 s7 rfl (SlR.mono sp1.le R1) hd2 H
theorem ZSLl91_0_all : ∀ k,ZSLl91_0 k
  | 0 => SLl91_0_z
  | k + 1 => SLl91_0_s k (ZSLl91_0_all k)
theorem Fl91_0 (k : Nat) : SLl91_0 k := (ZSLl91_0_all k)
theorem F91 (k : Nat) : S91 k := by
 intro p0 bA bC w0 h0 hh Rp0 r H
 unfold m91 at H
 refine aO (fn := Try.f91) Try.func91 rfl (Nat.le_of_ble_eq_true rfl) ?_
 show Run X91 [.code c91_0] (fun t => List.getD [.slice bA p0.length bC,.func (.func 78) #[] #[]] t undef) w0 (.fn (Q91 w0 h0 r))
 have st0 := St.init hh noM
 refine aB e91_0<|aA e91_1<|vv rfl (aC (I 0) rfl)<|aD<|aB e91_2<|aB e91_3<|aA e91_4<|vv rfl (aE (.slice bA p0.length bC) rfl)<|vv rfl (bN u43 rfl)<|vv rfl (aE (I 0) rfl) ?_
 refine aD<|aT e91_5<|cB e91_6 ?_
 exact Fl91_0 k (j1 := 0) st0 rfl rfl rfl rfl Rp0 rfl H
theorem F77 (k : Nat) : S77 k := by
 intro p0 bA bC w0 h0 hh Rp0 r H
 unfold m77 at H
 refine aO (fn := Try.f77) Try.func77 rfl (Nat.le_of_ble_eq_true rfl) ?_
 show Run X77 [.code c77_0] (fun t => List.getD [.slice bA p0.length bC,.func (.func 78) #[] #[]] t undef) w0 (.fn (Q77 w0 h0 r))
 have st0 := St.init hh noM
 refine aB e77_0<|aA e77_1<|vv rfl (aC (.bool false) rfl)<|aD<|aB e77_2<|aA e77_3<|vv rfl (aE (.slice bA p0.length bC) rfl)<|vv rfl (aE (.func (.func 78) #[] #[]) rfl) ?_
 obtain ⟨r1,hr1,H⟩ := aK H
 refine aU [.slice bA p0.length bC,.func (.func 78) #[] #[]] en91 rfl rfl rfl (F91 k st0.has Rp0 hr1) ?_
 rintro _ w1 ⟨h1,rfl,sp1⟩
 have st1 := st0.call0 sp1
 refine vv rfl (aP .geq .i64 r1 0 (.bool (decide (0 ≤ r1))) 3 3 rfl rfl rfl)<|vv rfl (aC (.bool (decide (0 ≤ r1))) rfl)<|aD ?_
 cases H
 exact aJ e77_4 (cG Try.results77 rfl ⟨h1,rfl,st1⟩)
theorem F47 (k : Nat) : S47 k := by
 intro p0 bA bC w0 h0 hh Rp0 r H
 unfold m47 at H
 refine aO (fn := Try.f47) Try.func47 rfl (Nat.le_of_ble_eq_true rfl) ?_
 show Run X47 [.code c47_0] (fun t => List.getD [.slice bA p0.length bC] t undef) w0 (.fn (Q47 w0 h0 r))
 have st0 := St.init hh noM
 refine aB e47_0<|aA e47_1<|vv rfl (aC (.bool false) rfl)<|aD<|aB e47_2<|aA e47_3<|vv rfl (aE (.slice bA p0.length bC) rfl) ?_
 obtain ⟨r1,hr1,H⟩ := aK H
 refine aU [.slice bA p0.length bC,.func (.func 78) #[] #[]] en77 rfl rfl rfl (F77 k st0.has Rp0 hr1) ?_
 rintro _ w1 ⟨h1,rfl,sp1⟩
 have st1 := st0.call0 sp1
 refine vv rfl (eA r1 4 rfl)<|vv rfl (aC (.bool (!r1)) rfl)<|aD ?_
 cases H
 exact aJ e47_4 (cG Try.results47 rfl ⟨h1,rfl,st1⟩)
abbrev ZSLl26_0 (k : Nat) : Prop := SLl26_0 k ∧ SLl26_1 k
theorem SLl26_0_z : SLl26_0 0 := by
  unfold SLl26_0; intros; rename_i H; exact absurd H (by simp [l26_0])
theorem SLl26_0_s (k : Nat) (ih : ZSLl26_0 k) : SLl26_0 (k + 1) := by
 intro p0 bY bS bZ bT b1 j2 w0 w h0 h σ b2 xs1 r st s1 s3 s19 s20 s21 R1 R2 g2 hd1 H
 cases xs1 with
 | nil =>
  rw [l26_0] at H
  have hk1 := cV hd1
  refine aB e26_9<|aA e26_10<|vv rfl (aP .lss .i64 (j2 : Int) (p0.D.length : Int) (.bool (decide ((j2 : Int) < (p0.D.length : Int)))) 3 3 s21 s20 rfl)<|aD<|aB e26_11<|fa e26_12 hk1 rfl<|bM e26_14 rfl<|aB e26_21<|aB e26_22<|aA e26_23 ?_
  refine vv rfl (aF (b := b1) (o := 0) fl25_1 s1)<|vv rfl (aL (.slice bS p0.S.length bT) sc23 rfl ((aQ (st.has _ _ g2)).trans rfl))<|vv rfl (bN u23 rfl)<|vv rfl (aE (I 0) rfl)<|aD<|aT e26_24<|cB e26_25 ?_
  exact ih.2 (j3 := 0) st s3 rfl rfl rfl R2 rfl H
 | cons x1 xs2 =>
  rw [l26_0] at H
  obtain ⟨hk2,hj1,hx1,hd2⟩ := cL hd1
  refine aB e26_9<|aA e26_10<|vv rfl (aP .lss .i64 (j2 : Int) (p0.D.length : Int) (.bool (decide ((j2 : Int) < (p0.D.length : Int)))) 3 3 s21 s20 rfl)<|aD<|aB e26_11<|tr e26_12 hk2 rfl<|aM e26_13<|aB e26_15<|aT e26_16<|aB e26_17 ?_
  refine aA e26_18 ?_
  obtain ⟨b6,o2,vs2,ea2,rp2,cl2⟩ := SlR.at R1 hx1
  obtain ⟨a4,c4,rfl,R8⟩ := GDecl.out rp2
  refine vv rfl (aX u22 sz45 s19 s21 ea2 (Int.natCast_nonneg _) (Int.ofNat_lt.2 hj1))<|vv rfl (bH [.string x1.Name,.slice a4 x1.Shape.length c4,.string x1.Form,I x1.Block] ag45 sz45 rfl rfl (cl2 _ (Has.le (Le.refl _) st.has)))<|cF (.agg #[.string ByteArray.empty,.slice none 0 0,.string ByteArray.empty,I 0]) zr45 rfl rfl (fun b7 w9 al3 => ?_)
  replace al3 : Al _ (.cells (List.toArray [.string ByteArray.empty,.slice none 0 0,.string ByteArray.empty,I 0]) 45 (0,0)) b7 w9 := al3
  have M3 := Mut.new st al3
  have lb2 := st.alB al3
  have sp7 := al3.st st.has
  have st10 := st.call0 sp7
  refine aV (o := 0) (n := 4) [.string x1.Name,.slice a4 x1.Shape.length c4,.string x1.Form,I x1.Block] [.string x1.Name,.slice a4 x1.Shape.length c4,.string x1.Form,I x1.Block] (.agg #[.string x1.Name,.slice a4 x1.Shape.length c4,.string x1.Form,I x1.Block]) sz45 rfl rfl rfl rfl M3 rfl rfl rfl rfl rfl (fun w10 wr2 M4 => ?_)
  have sp8 := wr2.st st10.has M3.none
  have st11 := st10.call sp8 (fun x e => (.inl (e ▸ lb2)))
  obtain ⟨h8,le5,g4,st12,kp2⟩ := M4.fz st11 lb2
  refine aD<|aA e26_19 ?_
  obtain ⟨j6,hj6,H⟩ := dE H
  have Jj6 : ∀ {y3 : Bool} {σ3 : Env} {w16 : World} {h14 : Sto},Le h8 h14 → St w0 noM h0 h14 w16 → σ3 1 = .pointer (some ⟨b1,0,none⟩) → σ3 3 = .bool y3 → σ3 19 = .slice bY p0.D.length bZ → σ3 20 = I (p0.D.length : Int) → σ3 21 = I (j2 : Int) → SlR h14 bY bZ p0.D → j6 y3 = some r → Run X26 [.inBlock 1,.code c26_20,.inLoop c26_9,.inBlock 0,.code c26_21] σ3 w16 (.fn (Q26 w0 h0 r)) := by
   intro y3 σ3 w16 h14 le7 st18 s1_j6 s3_j6 s19_j6 s20_j6 s21_j6 R10 H
   rw [hj6] at H
   refine aW<|aA e26_20<|vv rfl (aP .add .i64 (j2 : Int) 1 (I ((j2 + 1 : Nat) : Int)) 3 3 s21_j6 rfl (dL hj1 R10.mx))<|vv rfl (aE (I ((j2 + 1 : Nat) : Int)) rfl)<|aD<|bF ?_
   exact ih.1 (j2 := (j2 + 1)) st18 s1_j6 s3_j6 s19_j6 s20_j6 rfl (SlR.mono (le5.trans le7) R1) (SlR.mono (le5.trans le7) R2) ((le5.trans le7) _ _ g2) hd2 H
  refine vv rfl (aE (.bool b2) s3)<|vv rfl (aE (.bool b2) rfl) ?_
  rcases aN H with ⟨hc6,H⟩ | ⟨hc6,H⟩
  · refine aZ (wt2 hc6 rfl) rfl (aF (b := b7) (o := 0) fl45_0 rfl)<|aZ (wt2 hc6 rfl) rfl (aL (.string x1.Name) sc9 rfl ((aQ (st12.has _ _ g4)).trans rfl)) ?_
    obtain ⟨r4,hr4,H⟩ := aK H
    refine aU [.string x1.Name] en46 (wt2 hc6 rfl) rfl rfl (F46 k st12.has hr4) ?_
    rintro _ w11 ⟨h9,rfl,sp9⟩
    have st13 := st12.call0 sp9
    refine vv rfl (dH (.bool r4) hc6 rfl rfl)<|vv rfl (aE (.bool r4) rfl) ?_
    rcases aN H with ⟨hc7,H⟩ | ⟨hc7,H⟩
    · refine aZ (wt2 hc7 rfl) rfl (aF (b := b7) (o := 0) fl45_1 rfl)<|aZ (wt2 hc7 rfl) rfl (aL (.slice a4 x1.Shape.length c4) sc43 rfl ((aQ (st13.has _ _ (sp9.le _ _ g4))).trans rfl))<|aZ (wt2 hc7 rfl) rfl (bN u43 rfl)<|aZ (wt2 hc7 rfl) rfl (aP .leq .i64 (x1.Shape.length : Int) 4 (.bool (decide ((x1.Shape.length : Int) ≤ 4))) 3 3 rfl rfl rfl)<|vv rfl (dH (.bool (decide ((x1.Shape.length : Int) ≤ 4))) hc7 rfl rfl)<|vv rfl (aE (.bool (decide ((x1.Shape.length : Int) ≤ 4))) rfl) ?_
      rcases aN H with ⟨hc8,H⟩ | ⟨hc8,H⟩
      · refine aZ (wt2 (dT hc8) rfl) rfl (aF (b := b7) (o := 0) fl45_1 rfl)<|aZ (wt2 (dT hc8) rfl) rfl (aL (.slice a4 x1.Shape.length c4) sc43 rfl ((aQ (st13.has _ _ (sp9.le _ _ g4))).trans rfl)) ?_
        obtain ⟨r5,hr5,H⟩ := aK H
        refine aU [.slice a4 x1.Shape.length c4] en47 (wt2 (dT hc8) rfl) rfl rfl (F47 k st13.has (SlR.mono (le5.trans sp9.le) R8) hr5) ?_
        rintro _ w12 ⟨h10,rfl,sp10⟩
        have st14 := st13.call0 sp10
        refine vv rfl (dH (.bool r5) (dT hc8) rfl rfl)<|vv rfl (aE (.bool r5) rfl) ?_
        rcases aN H with ⟨hc9,H⟩ | ⟨hc9,H⟩
        · refine aZ (wt2 hc9 rfl) rfl (aF (b := b7) (o := 0) fl45_3 rfl)<|aZ (wt2 hc9 rfl) rfl (aL (I x1.Block) sc3 rfl ((aQ (st14.has _ _ ((sp9.le.trans sp10.le) _ _ g4))).trans rfl))<|cH [I 0] [I x1.Block] [(0,I x1.Block)] u43 sz3 zr3 (wt2 hc9 rfl) rfl rfl rfl (by kernel_rfl) rfl (by kernel_rfl) (fun b8 w13 al4 => ?_)
          have li1 : Lits h10 [[I x1.Block]] ([x1.Block] : List Int) := (Lits.cons rfl Lits.nil)
          obtain ⟨h11,le6,g5,sp11⟩ := al4.fz st14.has
          have st15 := st14.call0 sp11
          have R9 : SlR _ _ _ ([x1.Block] : List Int) := Lits.sl (n := 1) (Lits.mono le6 li1) rfl rfl (by decide) g5
          obtain ⟨r6,hr6,H⟩ := aK H
          refine aU [.slice (some ⟨b8,0,none⟩) 1 1] en47 (wt2 hc9 rfl) rfl rfl (F47 k st15.has R9 hr6) ?_
          rintro _ w14 ⟨h12,rfl,sp12⟩
          have st16 := st15.call0 sp12
          refine vv rfl (dH (.bool r6) hc9 rfl rfl)<|vv rfl (aE (.bool r6) rfl) ?_
          rcases aN H with ⟨hc10,H⟩ | ⟨hc10,H⟩
          · refine aZ (wt2 hc10 rfl) rfl (aF (b := b7) (o := 0) fl45_2 rfl)<|aZ (wt2 hc10 rfl) rfl (aL (.string x1.Form) sc9 rfl ((aQ (st16.has _ _ ((sp9.le.trans (sp10.le.trans (le6.trans sp12.le))) _ _ g4))).trans rfl)) ?_
            obtain ⟨r7,hr7,H⟩ := aK H
            refine aU [.string x1.Form] en48 (wt2 hc10 rfl) rfl rfl (F48 k st16.has hr7) ?_
            rintro _ w15 ⟨h13,rfl,sp13⟩
            have st17 := st16.call0 sp13
            refine vv rfl (dH (.bool r7) hc10 rfl rfl)<|vv rfl (aC (.bool r7) rfl)<|aD ?_
            exact Jj6 (sp9.le.trans (sp10.le.trans (le6.trans (sp12.le.trans sp13.le)))) st17 s1 rfl s19 s20 s21 (SlR.mono (le5.trans (sp9.le.trans (sp10.le.trans (le6.trans (sp12.le.trans sp13.le))))) R1) H
          refine aR (wf2 (cA hc10) rfl) rfl<|aR (wf2 (cA hc10) rfl) rfl<|aR (wf2 (cA hc10) rfl) rfl<|vv rfl (dI (.bool false) (cA hc10) rfl rfl)<|vv rfl (aC (.bool false) rfl)<|aD ?_
          exact Jj6 (sp9.le.trans (sp10.le.trans (le6.trans sp12.le))) st16 s1 rfl s19 s20 s21 (SlR.mono (le5.trans (sp9.le.trans (sp10.le.trans (le6.trans sp12.le)))) R1) H
        refine aR (wf2 (cA hc9) rfl) rfl<|aR (wf2 (cA hc9) rfl) rfl<|aR (wf2 (cA hc9) rfl) rfl<|aR (wf2 (cA hc9) rfl) rfl<|vv rfl (dI (.bool false) (cA hc9) rfl rfl)<|vv rfl (aE (.bool false) rfl)<|aR (wf (p := false) rfl rfl) rfl<|aR (wf (p := false) rfl rfl) rfl<|aR (wf (p := false) rfl rfl) rfl<|vv rfl (cI (.bool false) (p := false) rfl rfl rfl) ?_
        refine vv rfl (aC (.bool false) rfl)<|aD ?_
        exact Jj6 (sp9.le.trans sp10.le) st14 s1 rfl s19 s20 s21 (SlR.mono (le5.trans (sp9.le.trans sp10.le)) R1) H
      refine aR (wf2 (dF hc8) rfl) rfl<|aR (wf2 (dF hc8) rfl) rfl<|aR (wf2 (dF hc8) rfl) rfl<|vv rfl (dI (.bool false) (dF hc8) rfl rfl)<|vv rfl (aE (.bool false) rfl)<|aR (wf (p := false) rfl rfl) rfl<|aR (wf (p := false) rfl rfl) rfl<|aR (wf (p := false) rfl rfl) rfl<|aR (wf (p := false) rfl rfl) rfl<|vv rfl (cI (.bool false) (p := false) rfl rfl rfl) ?_
      refine vv rfl (aE (.bool false) rfl)<|aR (wf (p := false) rfl rfl) rfl<|aR (wf (p := false) rfl rfl) rfl<|aR (wf (p := false) rfl rfl) rfl<|vv rfl (cI (.bool false) (p := false) rfl rfl rfl)<|vv rfl (aC (.bool false) rfl)<|aD ?_
      exact Jj6 sp9.le st13 s1 rfl s19 s20 s21 (SlR.mono (le5.trans sp9.le) R1) H
    refine aR (wf2 (cA hc7) rfl) rfl<|aR (wf2 (cA hc7) rfl) rfl<|aR (wf2 (cA hc7) rfl) rfl<|aR (wf2 (cA hc7) rfl) rfl<|vv rfl (dI (.bool false) (cA hc7) rfl rfl)<|vv rfl (aE (.bool false) rfl)<|aR (wf (p := false) rfl rfl) rfl<|aR (wf (p := false) rfl rfl) rfl<|aR (wf (p := false) rfl rfl) rfl<|vv rfl (cI (.bool false) (p := false) rfl rfl rfl) ?_
    refine vv rfl (aE (.bool false) rfl)<|aR (wf (p := false) rfl rfl) rfl<|aR (wf (p := false) rfl rfl) rfl<|aR (wf (p := false) rfl rfl) rfl<|aR (wf (p := false) rfl rfl) rfl<|vv rfl (cI (.bool false) (p := false) rfl rfl rfl)<|vv rfl (aE (.bool false) rfl)<|aR (wf (p := false) rfl rfl) rfl<|aR (wf (p := false) rfl rfl) rfl<|aR (wf (p := false) rfl rfl) rfl ?_
    refine vv rfl (cI (.bool false) (p := false) rfl rfl rfl)<|vv rfl (aC (.bool false) rfl)<|aD ?_
    exact Jj6 sp9.le st13 s1 rfl s19 s20 s21 (SlR.mono (le5.trans sp9.le) R1) H
  refine aR (wf2 (cA hc6) rfl) rfl<|aR (wf2 (cA hc6) rfl) rfl<|aR (wf2 (cA hc6) rfl) rfl<|vv rfl (dI (.bool false) (cA hc6) rfl rfl)<|vv rfl (aE (.bool false) rfl)<|aR (wf (p := false) rfl rfl) rfl<|aR (wf (p := false) rfl rfl) rfl<|aR (wf (p := false) rfl rfl) rfl<|aR (wf (p := false) rfl rfl) rfl<|vv rfl (cI (.bool false) (p := false) rfl rfl rfl) ?_
  refine vv rfl (aE (.bool false) rfl)<|aR (wf (p := false) rfl rfl) rfl<|aR (wf (p := false) rfl rfl) rfl<|aR (wf (p := false) rfl rfl) rfl<|vv rfl (cI (.bool false) (p := false) rfl rfl rfl)<|vv rfl (aE (.bool false) rfl)<|aR (wf (p := false) rfl rfl) rfl<|aR (wf (p := false) rfl rfl) rfl<|aR (wf (p := false) rfl rfl) rfl<|aR (wf (p := false) rfl rfl) rfl ?_
  refine vv rfl (cI (.bool false) (p := false) rfl rfl rfl)<|vv rfl (aE (.bool false) rfl)<|aR (wf (p := false) rfl rfl) rfl<|aR (wf (p := false) rfl rfl) rfl<|aR (wf (p := false) rfl rfl) rfl<|vv rfl (cI (.bool false) (p := false) rfl rfl rfl)<|vv rfl (aC (.bool false) rfl)<|aD ?_
  exact Jj6 (Le.refl _) st12 s1 rfl s19 s20 s21 (SlR.mono le5 R1) H
theorem SLl26_1_z : SLl26_1 0 := by
  unfold SLl26_1; intros; rename_i H; exact absurd H (by simp [l26_1])
theorem SLl26_1_s (k : Nat) (ih : ZSLl26_0 k) : SLl26_1 (k + 1) := by
 intro p0 bS bT j3 w0 w h0 h σ b3 xs3 r st s3 s55 s56 s57 R3 hd3 H
 cases xs3 with
 | nil =>
  rw [l26_1] at H
  have hk3 := cV hd3
  refine aB e26_26<|aA e26_27<|vv rfl (aP .lss .i64 (j3 : Int) (p0.S.length : Int) (.bool (decide ((j3 : Int) < (p0.S.length : Int)))) 3 3 s57 s56 rfl)<|aD<|aB e26_28<|fa e26_29 hk3 rfl<|bM e26_31 rfl<|aB e26_38<|aB e26_39<|aA e26_40 ?_
  refine vv rfl (aE (.bool b3) s3)<|vv rfl (eA b3 4 rfl)<|aD ?_
  rcases aN H with ⟨hc2,H⟩ | ⟨hc2,H⟩
  · refine fa e26_41 (bL hc2) rfl<|aM e26_45<|aB e26_46<|aA e26_47<|vv rfl (aC (I 0) rfl)<|aD ?_
    cases H
    exact aJ e26_48 (cG Try.results26 rfl ⟨h,rfl,st⟩)
  refine tr e26_41 (bK (cA hc2)) rfl<|aB e26_42<|aA e26_43<|vv rfl (aC (I 1) rfl)<|aD ?_
  cases H
  exact aJ e26_44 (cG Try.results26 rfl ⟨h,rfl,st⟩)
 | cons x2 xs4 =>
  rw [l26_1] at H
  obtain ⟨hk4,hj2,hx2,hd4⟩ := cL hd3
  refine aB e26_26<|aA e26_27<|vv rfl (aP .lss .i64 (j3 : Int) (p0.S.length : Int) (.bool (decide ((j3 : Int) < (p0.S.length : Int)))) 3 3 s57 s56 rfl)<|aD<|aB e26_28<|tr e26_29 hk4 rfl<|aM e26_30<|aB e26_32<|aT e26_33<|aB e26_34 ?_
  refine aA e26_35 ?_
  obtain ⟨b4,o1,vs1,ea1,rp1,cl1⟩ := SlR.at R3 hx2
  obtain ⟨a1,c1,a2,c2,a3,c3,rfl,R4,R5,R6⟩ := GStmt.out rp1
  refine vv rfl (aX u23 sz33 s55 s57 ea1 (Int.natCast_nonneg _) (Int.ofNat_lt.2 hj2))<|vv rfl (bH [.string x2.Name,.slice a1 x2.Index.length c1,I x2.E.Op,I x2.E.N,.string x2.E.Name,.slice a2 x2.E.Index.length c2,.slice a3 x2.E.L.length c3] ag33 sz33 rfl rfl (cl1 _ (Has.le (Le.refl _) st.has)))<|cF (.agg #[.string ByteArray.empty,.slice none 0 0,I 0,I 0,.string ByteArray.empty,.slice none 0 0,.slice none 0 0]) zr33 rfl rfl (fun b5 w3 al2 => ?_)
  replace al2 : Al _ (.cells (List.toArray [.string ByteArray.empty,.slice none 0 0,I 0,I 0,.string ByteArray.empty,.slice none 0 0,.slice none 0 0]) 33 (0,0)) b5 w3 := al2
  have M1 := Mut.new st al2
  have lb1 := st.alB al2
  have sp2 := al2.st st.has
  have st3 := st.call0 sp2
  refine aV (o := 0) (n := 7) [.string x2.Name,.slice a1 x2.Index.length c1,I x2.E.Op,I x2.E.N,.string x2.E.Name,.slice a2 x2.E.Index.length c2,.slice a3 x2.E.L.length c3] [.string x2.Name,.slice a1 x2.Index.length c1,I x2.E.Op,I x2.E.N,.string x2.E.Name,.slice a2 x2.E.Index.length c2,.slice a3 x2.E.L.length c3] (.agg #[.string x2.Name,.slice a1 x2.Index.length c1,I x2.E.Op,I x2.E.N,.string x2.E.Name,.slice a2 x2.E.Index.length c2,.slice a3 x2.E.L.length c3]) sz33 rfl rfl rfl rfl M1 rfl rfl rfl rfl rfl (fun w4 wr1 M2 => ?_)
  have sp3 := wr1.st st3.has M1.none
  have st4 := st3.call sp3 (fun x e => (.inl (e ▸ lb1)))
  obtain ⟨h3,le3,g3,st5,kp1⟩ := M2.fz st4 lb1
  refine aD<|aA e26_36 ?_
  obtain ⟨j5,hj5,H⟩ := dE H
  have Jj5 : ∀ {y2 : Bool} {σ2 : Env} {w8 : World} {h7 : Sto},Le h3 h7 → St w0 noM h0 h7 w8 → σ2 3 = .bool y2 → σ2 55 = .slice bS p0.S.length bT → σ2 56 = I (p0.S.length : Int) → σ2 57 = I (j3 : Int) → SlR h7 bS bT p0.S → j5 y2 = some r → Run X26 [.inBlock 3,.code c26_37,.inLoop c26_26,.inBlock 2,.code c26_38] σ2 w8 (.fn (Q26 w0 h0 r)) := by
   intro y2 σ2 w8 h7 le4 st9 s3_j5 s55_j5 s56_j5 s57_j5 R7 H
   rw [hj5] at H
   refine aW<|aA e26_37<|vv rfl (aP .add .i64 (j3 : Int) 1 (I ((j3 + 1 : Nat) : Int)) 3 3 s57_j5 rfl (dL hj2 R7.mx))<|vv rfl (aE (I ((j3 + 1 : Nat) : Int)) rfl)<|aD<|bF ?_
   exact ih.2 (j3 := (j3 + 1)) st9 s3_j5 s55_j5 s56_j5 rfl R7 hd4 H
  refine vv rfl (aE (.bool b3) s3)<|vv rfl (aE (.bool b3) rfl) ?_
  rcases aN H with ⟨hc3,H⟩ | ⟨hc3,H⟩
  · refine aZ (wt2 hc3 rfl) rfl (aF (b := b5) (o := 0) fl33_0 rfl)<|aZ (wt2 hc3 rfl) rfl (aL (.string x2.Name) sc9 rfl ((aQ (st5.has _ _ g3)).trans rfl)) ?_
    obtain ⟨r1,hr1,H⟩ := aK H
    refine aU [.string x2.Name] en46 (wt2 hc3 rfl) rfl rfl (F46 k st5.has hr1) ?_
    rintro _ w5 ⟨h4,rfl,sp4⟩
    have st6 := st5.call0 sp4
    refine vv rfl (dH (.bool r1) hc3 rfl rfl)<|vv rfl (aE (.bool r1) rfl) ?_
    rcases aN H with ⟨hc4,H⟩ | ⟨hc4,H⟩
    · refine aZ (wt2 hc4 rfl) rfl (aF (b := b5) (o := 0) fl33_1 rfl)<|aZ (wt2 hc4 rfl) rfl (aL (.slice a1 x2.Index.length c1) sc28 rfl ((aQ (st6.has _ _ (sp4.le _ _ g3))).trans rfl)) ?_
      obtain ⟨r2,hr2,H⟩ := aK H
      refine aU [.slice a1 x2.Index.length c1] en49 (wt2 hc4 rfl) rfl rfl (F49 k st6.has (SlR.mono (le3.trans sp4.le) R4) hr2) ?_
      rintro _ w6 ⟨h5,rfl,sp5⟩
      have st7 := st6.call0 sp5
      refine vv rfl (dH (.bool r2) hc4 rfl rfl)<|vv rfl (aE (.bool r2) rfl) ?_
      rcases aN H with ⟨hc5,H⟩ | ⟨hc5,H⟩
      · refine aZ (wt2 hc5 rfl) rfl (aF (b := b5) (o := 0) fl33_2 rfl)<|aZ (wt2 hc5 rfl) rfl (bH [I x2.E.Op,I x2.E.N,.string x2.E.Name,.slice a2 x2.E.Index.length c2,.slice a3 x2.E.L.length c3] ag31 cX rfl rfl (aY (st7.has _ _ ((sp4.le.trans sp5.le) _ _ g3)) rfl)) ?_
        obtain ⟨r3,hr3,H⟩ := aK H
        refine aU [.agg #[I x2.E.Op,I x2.E.N,.string x2.E.Name,.slice a2 x2.E.Index.length c2,.slice a3 x2.E.L.length c3]] en21 (wt2 hc5 rfl) rfl rfl (F21 k (p0 := x2.E) st7.has (SlR.mono (le3.trans (sp4.le.trans sp5.le)) R5) (SlR.mono (le3.trans (sp4.le.trans sp5.le)) R6) hr3) ?_
        rintro _ w7 ⟨h6,rfl,sp6⟩
        have st8 := st7.call0 sp6
        refine vv rfl (dH (.bool r3) hc5 rfl rfl)<|vv rfl (aC (.bool r3) rfl)<|aD ?_
        exact Jj5 (sp4.le.trans (sp5.le.trans sp6.le)) st8 rfl s55 s56 s57 (SlR.mono (le3.trans (sp4.le.trans (sp5.le.trans sp6.le))) R3) H
      refine aR (wf2 (cA hc5) rfl) rfl<|aR (wf2 (cA hc5) rfl) rfl<|aR (wf2 (cA hc5) rfl) rfl<|vv rfl (dI (.bool false) (cA hc5) rfl rfl)<|vv rfl (aC (.bool false) rfl)<|aD ?_
      exact Jj5 (sp4.le.trans sp5.le) st7 rfl s55 s56 s57 (SlR.mono (le3.trans (sp4.le.trans sp5.le)) R3) H
    refine aR (wf2 (cA hc4) rfl) rfl<|aR (wf2 (cA hc4) rfl) rfl<|aR (wf2 (cA hc4) rfl) rfl<|vv rfl (dI (.bool false) (cA hc4) rfl rfl)<|vv rfl (aE (.bool false) rfl)<|aR (wf (p := false) rfl rfl) rfl<|aR (wf (p := false) rfl rfl) rfl<|aR (wf (p := false) rfl rfl) rfl<|vv rfl (cI (.bool false) (p := false) rfl rfl rfl)<|vv rfl (aC (.bool false) rfl) ?_
    refine aD ?_
    exact Jj5 sp4.le st6 rfl s55 s56 s57 (SlR.mono (le3.trans sp4.le) R3) H
  refine aR (wf2 (cA hc3) rfl) rfl<|aR (wf2 (cA hc3) rfl) rfl<|aR (wf2 (cA hc3) rfl) rfl<|vv rfl (dI (.bool false) (cA hc3) rfl rfl)<|vv rfl (aE (.bool false) rfl)<|aR (wf (p := false) rfl rfl) rfl<|aR (wf (p := false) rfl rfl) rfl<|aR (wf (p := false) rfl rfl) rfl<|vv rfl (cI (.bool false) (p := false) rfl rfl rfl)<|vv rfl (aE (.bool false) rfl) ?_
  refine aR (wf (p := false) rfl rfl) rfl<|aR (wf (p := false) rfl rfl) rfl<|aR (wf (p := false) rfl rfl) rfl<|vv rfl (cI (.bool false) (p := false) rfl rfl rfl)<|vv rfl (aC (.bool false) rfl)<|aD ?_
  exact Jj5 (Le.refl _) st5 rfl s55 s56 s57 (SlR.mono le3 R3) H
theorem ZSLl26_0_all : ∀ k,ZSLl26_0 k
  | 0 => ⟨SLl26_0_z,SLl26_1_z⟩
  | k + 1 => ⟨SLl26_0_s k (ZSLl26_0_all k),SLl26_1_s k (ZSLl26_0_all k)⟩
theorem Fl26_0 (k : Nat) : SLl26_0 k := (ZSLl26_0_all k).1
theorem F26 (k : Nat) : S26 k := by
 intro p0 bY bS bZ bT w0 h0 hh Rp0_D Rp0_S r H
 unfold m26 at H
 refine aO (fn := Try.f26) Try.func26 rfl (Nat.le_of_ble_eq_true rfl) ?_
 show Run X26 [.code c26_0] (fun t => List.getD [.agg #[.slice bY p0.D.length bZ,.slice bS p0.S.length bT]] t undef) w0 (.fn (Q26 w0 h0 r))
 have st0 := St.init hh noM
 refine aB e26_0<|aA e26_1<|eF (.agg #[.slice bY p0.D.length bZ,.slice bS p0.S.length bT]) rfl rfl rfl (fun b1 w1 al1 => ?_)
 replace al1 : Al _ (.cells (List.toArray [.slice bY p0.D.length bZ,.slice bS p0.S.length bT]) 25 (0,0)) b1 w1 := al1
 obtain ⟨h1,le1,g1,sp1⟩ := al1.fz st0.has
 have st1 := st0.call0 sp1
 refine vv rfl (aC (I 0) rfl)<|aD<|aB e26_2<|aA e26_3 ?_
 obtain ⟨j1,hj1,H⟩ := dE H
 have Jj1 : ∀ {y1 : Bool} {σ1 : Env} {w2 : World} {h2 : Sto},Le h1 h2 → St w0 noM h0 h2 w2 → σ1 1 = .pointer (some ⟨b1,0,none⟩) → σ1 3 = .bool y1 → j1 y1 = some r → Run X26 [.code c26_4] σ1 w2 (.fn (Q26 w0 h0 r)) := by
  intro y1 σ1 w2 h2 le2 st2 s1_j1 s3_j1 H
  rw [hj1] at H
  refine aB e26_4<|aB e26_5<|aA e26_6<|vv rfl (aF (b := b1) (o := 0) fl25_0 s1_j1)<|vv rfl (aL (.slice bY p0.D.length bZ) sc22 rfl ((aQ (st2.has _ _ (le2 _ _ g1))).trans rfl))<|vv rfl (bN u22 rfl)<|vv rfl (aE (I 0) rfl)<|aD<|aT e26_7<|cB e26_8 ?_
  exact Fl26_0 k (j2 := 0) st2 s1_j1 s3_j1 rfl rfl rfl (SlR.mono (le1.trans le2) Rp0_D) (SlR.mono (le1.trans le2) Rp0_S) (le2 _ _ g1) rfl H
 refine vv rfl (aF (b := b1) (o := 0) fl25_0 rfl)<|vv rfl (aL (.slice bY p0.D.length bZ) sc22 rfl ((aQ (st1.has _ _ g1)).trans rfl))<|vv rfl (bN u22 rfl)<|vv rfl (aP .leq .i64 (p0.D.length : Int) 32 (.bool (decide ((p0.D.length : Int) ≤ 32))) 3 3 rfl rfl rfl)<|vv rfl (aE (.bool (decide ((p0.D.length : Int) ≤ 32))) rfl) ?_
 rcases aN H with ⟨hc1,H⟩ | ⟨hc1,H⟩
 · refine aZ (wt2 (dT hc1) rfl) rfl (aF (b := b1) (o := 0) fl25_1 rfl)<|aZ (wt2 (dT hc1) rfl) rfl (aL (.slice bS p0.S.length bT) sc23 rfl ((aQ (st1.has _ _ g1)).trans rfl))<|aZ (wt2 (dT hc1) rfl) rfl (bN u23 rfl)<|aZ (wt2 (dT hc1) rfl) rfl (aP .leq .i64 (p0.S.length : Int) 32 (.bool (decide ((p0.S.length : Int) ≤ 32))) 3 3 rfl rfl rfl)<|vv rfl (dH (.bool (decide ((p0.S.length : Int) ≤ 32))) (dT hc1) rfl rfl)<|vv rfl (aC (.bool (decide ((p0.S.length : Int) ≤ 32))) rfl)<|aD ?_
   exact Jj1 (Le.refl _) st1 rfl rfl H
 refine aR (wf2 (dF hc1) rfl) rfl<|aR (wf2 (dF hc1) rfl) rfl<|aR (wf2 (dF hc1) rfl) rfl<|aR (wf2 (dF hc1) rfl) rfl<|vv rfl (dI (.bool false) (dF hc1) rfl rfl)<|vv rfl (aC (.bool false) rfl)<|aD ?_
 exact Jj1 (Le.refl _) st1 rfl rfl H
abbrev ZSLl82_0 (k : Nat) : Prop := SLl82_0 k
theorem SLl82_0_z : SLl82_0 0 := by
  unfold SLl82_0; intros; rename_i H; exact absurd H (by simp [l82_0])
theorem SLl82_0_s (k : Nat) (ih : ZSLl82_0 k) : SLl82_0 (k + 1) := by
 intro p0 bA a1 bC c1 w0 w h0 h σ l1 i1 r st s0 s2 s3 R1 O1 H
 rw [l82_0] at H
 refine aB e82_7<|aB e82_8<|aA e82_9<|vv rfl (aE (I i1) s3)<|vv rfl (aP .add .i64 i1 1 (I (wr (i1 + 1))) 3 3 rfl rfl rfl)<|vv rfl (aE (.slice bA p0.length bC) s0)<|vv rfl (bN u43 rfl)<|vv rfl (aP .lss .i64 (wr (i1 + 1)) (p0.length : Int) (.bool (decide ((wr (i1 + 1)) < (p0.length : Int)))) 3 3 rfl rfl rfl)<|aD ?_
 rcases aN H with ⟨hc1,H⟩ | ⟨hc1,H⟩
 · refine tr e82_10 (dT hc1) rfl<|aM e82_11<|aB e82_13<|aT e82_14 ?_
   refine dW [[(0,false),(1,false),(2,false),(3,false),(4,false),(5,false),(6,false),(7,false),(8,false),(9,false),(10,false),(11,true),(12,true),(13,true)]] [11,12,13] [0,1,2,3,4,5,6,7,8,9,10,11,12,13] [0,1,2,3,4,5,6,7,8,9,10,11,12,13] (fun w_ => Has h w_ ∧ True) e82_15 k82_15 m82_15 (fun w1 al1 => ?_)
   have sp1 := al1.st st.has
   have O2 := O1.call0 sp1
   have st1 := st.call0 sp1
   refine ⟨⟨Has.le (Le.refl _) st1.has,trivial⟩,?_,trivial⟩
   refine bI rfl rfl (fun w_ ok_ => aE (.slice a1 l1.length c1) s2)<|bI rfl rfl (fun w_ ok_ => aE (.slice bA p0.length bC) s0)<|bI rfl rfl (fun w_ ok_ => aE (I i1) s3) ?_
   obtain ⟨fS,hxd1_3_2,H⟩ := aK H
   have hid1_3_3 := dB hxd1_3_2
   obtain ⟨bd1_3_4,od1_3_5,vsd1_3_6,ead1_3_7,rpd1_3_8,cld1_3_9⟩ := SlR.at R1 hid1_3_3.2.2
   obtain rfl := rpd1_3_8
   refine bI rfl rfl (fun w_ ok_ => aX u43 sz3 rfl rfl ead1_3_7 hid1_3_3.1 hid1_3_3.2.1)<|bI rfl rfl (fun w_ ok_ => aL (I fS) sc3 rfl (((cld1_3_9 _ (Has.le (Le.refl _) ok_.1)) 0 (by decide)).trans rfl))<|bI rfl rfl (fun w_ ok_ => aE (.slice bA p0.length bC) s0)<|bI rfl rfl (fun w_ ok_ => aE (I i1) s3)<|bI rfl rfl (fun w_ ok_ => aP .add .i64 i1 1 (I (wr (i1 + 1))) 3 3 rfl rfl rfl) ?_
   obtain ⟨eC,hxd1_8_2,H⟩ := aK H
   have hid1_8_3 := dB hxd1_8_2
   obtain ⟨bd1_8_4,od1_8_5,vsd1_8_6,ead1_8_7,rpd1_8_8,cld1_8_9⟩ := SlR.at R1 hid1_8_3.2.2
   obtain rfl := rpd1_8_8
   refine bI rfl rfl (fun w_ ok_ => aX u43 sz3 rfl rfl ead1_8_7 hid1_8_3.1 hid1_8_3.2.1)<|bI rfl rfl (fun w_ ok_ => aL (I eC) sc3 rfl (((cld1_8_9 _ (Has.le (Le.refl _) ok_.1)) 0 (by decide)).trans rfl))<|bI rfl rfl (fun w_ ok_ => dK (vs := [I fS,I eC,I 0]) [(0,I fS),(1,I eC)] bd137 rfl rfl)<|dr_c rfl (dU [I 0,I 0,I 0] [I fS,I eC,I 0] [(0,.agg #[I fS,I eC,I 0])] u78 sz137 zr137 rfl rfl rfl (by kernel_rfl) rfl (by kernel_rfl) (fun bd1_11_1 wd1_11_2 ald1_11_3 => ?_))
   have lid1_11_8 : Lits h [[I fS,I eC,I 0]] ([(⟨fS,eC,0⟩ : GSpec)] : List GSpec) := (Lits.cons (GSpec.into (h := h) (x := (⟨fS,eC,0⟩ : GSpec)) ) Lits.nil)
   obtain ⟨hd1_11_4,led1_11_5,gd1_11_6,spd1_11_7⟩ := ald1_11_3.fz st1.has
   have Od1_11_9 := O2.call0 spd1_11_7
   have std1_11_10 := st1.call0 spd1_11_7
   have Rd1_11_11 : SlR _ _ _ ([(⟨fS,eC,0⟩ : GSpec)] : List GSpec) := Lits.sl (n := 1) (Lits.mono led1_11_5 lid1_11_8) rfl rfl (by decide) gd1_11_6
   refine ⟨.inr ⟨Has.le led1_11_5 std1_11_10.has,trivial⟩,?_⟩
   obtain ⟨hsd1_12_1,H⟩ := cD H
   refine dr_c rfl (od_append (α := GSpec) (B := w0.heap.size) (l := l1) (l2 := ([(⟨fS,eC,0⟩ : GSpec)] : List GSpec)) u78 u78 ap137 rfl rfl rfl std1_11_10.has std1_11_10.sp.size Od1_11_9 Rd1_11_11 rfl rfl hsd1_12_1 (fun ad1_12_2 cd1_12_3 wd1_12_4 Od1_12_5 spd1_12_6 bld1_12_7 => ?_))
   have std1_12_8 := std1_11_10.call spd1_12_6 (fun x e => (.inl (Od1_11_9.lbs x e)))
   refine ⟨.inr ⟨Has.le led1_11_5 std1_12_8.has,trivial⟩,?_⟩
   refine dr_c rfl (od_v rfl (aC (.slice ad1_12_2 ((l1 ++ ([(⟨fS,eC,0⟩ : GSpec)] : List GSpec)).length) cd1_12_3) rfl) ?_)
   refine ⟨.inl rfl,?_⟩
   refine dZ<|aW<|aA e82_16<|vv rfl (aE (I i1) s3)<|vv rfl (aP .add .i64 i1 2 (I (wr (i1 + 2))) 3 3 rfl rfl rfl)<|vv rfl (aC (I (wr (i1 + 2))) rfl)<|aD<|bF ?_
   exact ih std1_12_8 s0 rfl rfl (SlR.mono led1_11_5 R1) Od1_12_5 H
 refine fa e82_10 (dF hc1) rfl<|bM e82_12 rfl<|aB e82_17<|aA e82_18<|vv rfl (aE (.slice a1 l1.length c1) s2)<|vv rfl (aC (.slice a1 l1.length c1) rfl)<|aD ?_
 cases H
 exact aJ e82_19 (cG Try.results82 rfl ⟨a1,c1,h,rfl,st,O1⟩)
theorem ZSLl82_0_all : ∀ k,ZSLl82_0 k
  | 0 => SLl82_0_z
  | k + 1 => SLl82_0_s k (ZSLl82_0_all k)
theorem Fl82_0 (k : Nat) : SLl82_0 k := (ZSLl82_0_all k)
theorem F82 (k : Nat) : S82 k := by
 intro p0 bA bC w0 h0 hh Rp0 r H
 unfold m82 at H
 refine aO (fn := Try.f82) Try.func82 rfl (Nat.le_of_ble_eq_true rfl) ?_
 show Run X82 [.code c82_0] (fun t => List.getD [.slice bA p0.length bC] t undef) w0 (.fn (Q82 w0 h0 r))
 have st0 := St.init hh noM
 refine aB e82_0<|aA e82_1<|vv rfl (aC (.slice none 0 0) rfl)<|aD<|aB e82_2<|aB e82_3<|aA e82_4<|vv rfl (aC (I 0) rfl)<|aD<|aT e82_5 ?_
 refine cB e82_6 ?_
 exact Fl82_0 k st0 rfl rfl rfl Rp0 (Own.nil _ _ _ _) H
abbrev ZSLl83_0 (k : Nat) : Prop := SLl83_0 k
theorem SLl83_0_z : SLl83_0 0 := by
  unfold SLl83_0; intros; rename_i H; exact absurd H (by simp [l83_0])
theorem SLl83_0_s (k : Nat) (ih : ZSLl83_0 k) : SLl83_0 (k + 1) := by
 intro p0 p1 p2_0 i1 w0 w h0 h σ l1 a1 c1 r st s0 s1 s5 s7 s8 O1 H
 rw [l83_0] at H
 refine aB e83_7<|aA e83_8<|vv rfl (aP .lss .i64 i1 p2_0 (.bool (decide (i1 < p2_0))) 3 3 s8 s7 rfl)<|aD<|aB e83_9 ?_
 rcases aN H with ⟨hc1,H⟩ | ⟨hc1,H⟩
 · refine tr e83_10 (dT hc1) rfl<|aM e83_11<|aB e83_13<|aT e83_14<|aB e83_15<|aA e83_16<|vv rfl (aE (I i1) s8)<|vv rfl (aC (I i1) rfl)<|aD<|aB e83_17 ?_
   refine aA e83_18<|vv rfl (aE (.slice a1 l1.length c1) s5)<|vv rfl (aE (I p1) s1)<|vv rfl (aE (I i1) rfl)<|vv rfl (dK (vs := [I p1,I i1,I 0]) [(0,I p1),(1,I i1)] bd137 rfl rfl)<|cH [I 0,I 0,I 0] [I p1,I i1,I 0] [(0,.agg #[I p1,I i1,I 0])] u78 sz137 zr137 rfl rfl rfl rfl (by kernel_rfl) rfl (by kernel_rfl) (fun b1 w1 al1 => ?_)
   have li1 : Lits h [[I p1,I i1,I 0]] ([(⟨p1,i1,0⟩ : GSpec)] : List GSpec) := (Lits.cons (GSpec.into (h := h) (x := (⟨p1,i1,0⟩ : GSpec)) ) Lits.nil)
   obtain ⟨h2,le2,g1,sp1⟩ := al1.fz st.has
   have O2 := O1.call0 sp1
   have st2 := st.call0 sp1
   have R2 : SlR _ _ _ ([(⟨p1,i1,0⟩ : GSpec)] : List GSpec) := Lits.sl (n := 1) (Lits.mono le2 li1) rfl rfl (by decide) g1
   obtain ⟨hs1,H⟩ := cD H
   refine eG (α := GSpec) (B := w0.heap.size) (l := l1) (l2 := ([(⟨p1,i1,0⟩ : GSpec)] : List GSpec)) u78 u78 ap137 rfl rfl rfl rfl st2.has st2.sp.size O2 R2 rfl rfl hs1 (fun a2 c2 w2 O3 sp2 bl1 => ?_)
   have st3 := st2.call sp2 (fun x e => (.inl (O2.lbs x e)))
   refine vv rfl (aC (.slice a2 ((l1 ++ ([(⟨p1,i1,0⟩ : GSpec)] : List GSpec)).length) c2) rfl)<|aD<|aA e83_19<|vv rfl (aE (.slice a2 ((l1 ++ ([(⟨p1,i1,0⟩ : GSpec)] : List GSpec)).length) c2) rfl)<|vv rfl (aE (I p0) s0) ?_
   obtain ⟨x1,hx1,H⟩ := aK H
   have hi1 := dB hx1
   obtain ⟨b2,hab1⟩ := Own.adr O3 hi1.2.2
   refine vv rfl (aX u78 sz137 rfl rfl hab1 hi1.1 hi1.2.1)<|vv rfl (aF (b := b2) (o := 0 + (0 : Int).toNat * 3) fl137_0 rfl) ?_
   obtain ⟨vs1,rp1,hl1,cl1⟩ := Own.cell O3 hab1 hi1.2.2
   obtain rfl := GSpec.out rp1
   refine rr_storeOwn (off := 0) (n := 1) (us := [I p0]) (vs := [I x1.Kind,I x1.Mode,I x1.Size]) (y := (⟨p0,x1.Mode,x1.Size⟩ : GSpec)) (I p0) sz3 rfl rfl rfl rfl O3 hab1 hi1.2.2 rfl cl1 rfl rfl rfl (by decide) st3.has (GSpec.into (h := h2) (x := (⟨p0,x1.Mode,x1.Size⟩ : GSpec)) ) (fun w3 O4 sp3 => ?_)
   have st4 := st3.call sp3 (fun x e => (.inl (O3.lbs x e)))
   have hlen1 := set_len (l1 ++ ([(⟨p1,i1,0⟩ : GSpec)] : List GSpec)) ((0 : Int).toNat) (⟨p0,x1.Mode,x1.Size⟩ : GSpec)
   refine aD<|aW<|aA e83_20<|vv rfl (aP .add .i64 i1 1 (I (wr (i1 + 1))) 3 3 s8 rfl rfl)<|vv rfl (aE (I (wr (i1 + 1))) rfl)<|aD<|bF ?_
   exact ih st4 s0 s1 (Eq.trans rfl (sl_len hlen1)) s7 rfl O4 H
 refine fa e83_10 (dF hc1) rfl<|bM e83_12 rfl<|aB e83_21<|aA e83_22<|vv rfl (aE (.slice a1 l1.length c1) s5)<|vv rfl (aC (.slice a1 l1.length c1) rfl)<|aD ?_
 obtain ⟨h1,le1,st1,R1,kp1⟩ := O1.frz st (Nat.le_refl _)
 cases H
 exact aJ e83_23 (cG Try.results83 rfl ⟨a1,c1,h1,rfl,st1,R1⟩)
theorem ZSLl83_0_all : ∀ k,ZSLl83_0 k
  | 0 => SLl83_0_z
  | k + 1 => SLl83_0_s k (ZSLl83_0_all k)
theorem Fl83_0 (k : Nat) : SLl83_0 k := (ZSLl83_0_all k)
theorem F83 (k : Nat) : S83 k := by
 intro p0 p1 p2_0 p2_b w0 h0 hh gp2 r H
 unfold m83 at H
 refine aO (fn := Try.f83) Try.func83 rfl (Nat.le_of_ble_eq_true rfl) ?_
 show Run X83 [.code c83_0] (fun t => List.getD [I p0,I p1,.pointer (some ⟨p2_b,0,none⟩)] t undef) w0 (.fn (Q83 w0 h0 r))
 have st0 := St.init hh noM
 refine aB e83_0<|aA e83_1<|vv rfl (aC (.slice none 0 0) rfl)<|aD<|aB e83_2<|aB e83_3<|aA e83_4<|vv rfl (aL (I p2_0) sc3 rfl ((aQ (st0.has _ _ gp2)).trans rfl))<|vv rfl (aE (I 0) rfl)<|aD ?_
 refine aT e83_5<|cB e83_6 ?_
 exact Fl83_0 k st0 rfl rfl rfl rfl rfl (Own.nil _ _ _ _) H
theorem F56 (k : Nat) : S56 k := by
 intro p0 p1 p2 w0 h0 hh r H
 unfold m56 at H
 refine aO (fn := Try.f56) Try.func56 rfl (Nat.le_of_ble_eq_true rfl) ?_
 show Run X56 [.code c56_0] (fun t => List.getD [.string p0,I p1,I p2] t undef) w0 (.fn (Q56 w0 h0 r))
 have st0 := St.init hh noM
 refine aB e56_0<|aA e56_1<|eF (I p1) rfl rfl rfl (fun b1 w1 al1 => ?_)
 replace al1 : Al _ (.cells (List.toArray [I p1]) 3 (0,0)) b1 w1 := al1
 obtain ⟨h1,le1,g1,sp1⟩ := al1.fz st0.has
 have st1 := st0.call0 sp1
 refine vv rfl (aC (.slice none 0 0) rfl)<|vv rfl (aC (I 0) rfl)<|aD<|aB e56_2<|aB e56_3<|aA e56_4<|vv rfl (aL (I p1) sc3 rfl ((aQ (st1.has _ _ g1)).trans rfl))<|vv rfl (aP .lss .i64 p1 0 (.bool (decide (p1 < 0))) 3 3 rfl rfl rfl)<|vv rfl (aE (.bool (decide (p1 < 0))) rfl) ?_
 rcases aN H with ⟨hc1,H⟩ | ⟨hc1,H⟩
 · refine aR (wf2 (dT hc1) rfl) rfl<|aR (wf2 (dT hc1) rfl) rfl<|vv rfl (dH (.bool true) (dT hc1) rfl rfl)<|aD<|cQ e56_5 (p := true) rfl rfl<|aB e56_6<|aA e56_7<|vv rfl (aC (.slice none 0 0) rfl)<|vv rfl (aC (I 1) rfl)<|aD ?_
   cases H
   exact aJ e56_8 (eK Try.results56 rfl rfl ⟨none,0,h1,rfl,st1,(SlR.none _)⟩)
 refine aZ (wt2 (dF hc1) rfl) rfl (aL (I p1) sc3 rfl ((aQ (st1.has _ _ g1)).trans rfl))<|aZ (wt2 (dF hc1) rfl) rfl (aP .gtr .i64 p1 4 (.bool (decide (4 < p1))) 3 3 rfl rfl rfl)<|vv rfl (dI (.bool (decide (4 < p1))) (dF hc1) rfl rfl)<|aD ?_
 rcases aN H with ⟨hc2,H⟩ | ⟨hc2,H⟩
 · refine tr e56_5 (dT hc2) rfl<|aB e56_6<|aA e56_7<|vv rfl (aC (.slice none 0 0) rfl)<|vv rfl (aC (I 1) rfl)<|aD ?_
   cases H
   exact aJ e56_8 (eK Try.results56 rfl rfl ⟨none,0,h1,rfl,st1,(SlR.none _)⟩)
 refine fa e56_5 (dF hc2) rfl<|aM e56_9<|aB e56_10<|aA e56_11<|vv rfl (aC (.func (.func 82) #[] #[]) rfl)<|aD<|aB e56_12<|aA e56_13<|vv rfl (eT (.func (.func 83) #[] #[.pointer (some ⟨b1,0,none⟩)]) (mf rfl rfl))<|vv rfl (aC (.func (.func 83) #[] #[.pointer (some ⟨b1,0,none⟩)]) rfl) ?_
 refine aD<|aB e56_14<|aA e56_15<|rr_makeMap rfl rfl (fun b2 w2 al2 => ?_)
 have M1 : MpM _ _ b2 ([] : (List (ByteArray × (List GSpec)))) := MpM.new st1 al2
 have lb1 := st1.alB al2
 have sp2 := al2.st st1.has
 have st2 := st1.call0 sp2
 refine vv rfl (aE (.func (.func 82) #[] #[]) rfl)<|cH [I 0,I 0,I 0,I 0] [I 0,I 0,I 1,I 1] [(0,I 0),(1,I 0),(2,I 1),(3,I 1)] u43 sz3 zr3 rfl rfl rfl rfl (by kernel_rfl) rfl (by kernel_rfl) (fun b3 w3 al3 => ?_)
 have li1 : Lits h1 [[I 0],[I 0],[I 1],[I 1]] ([0,0,1,1] : List Int) := (Lits.cons rfl (Lits.cons rfl (Lits.cons rfl (Lits.cons rfl Lits.nil))))
 obtain ⟨h2,le2,g2,sp3⟩ := al3.fz st2.has
 have M2 := M1.call0 sp3
 have st3 := st2.call0 sp3
 have R1 : SlR _ _ _ ([0,0,1,1] : List Int) := Lits.sl (n := 4) (Lits.mono le2 li1) rfl rfl (by decide) g2
 obtain ⟨r1,hr1,H⟩ := aK H
 refine dR [] [] [.slice (some ⟨b3,0,none⟩) 4 4] [.slice (some ⟨b3,0,none⟩) 4 4] en82 rfl rfl rfl rfl rfl (F82 k st3.has R1 hr1) ?_
 rintro _ w4 ⟨a1,c1,h3,rfl,sp4,R2⟩
 have M3 := M2.call0 sp4
 have st4 := st3.call0 sp4
 have O1 := R2.low st3.sp.size
 obtain ⟨h4,le3,st5,R3,kp1⟩ := O1.frz st4 (Nat.le_refl _)
 have M4 := M3.frB le3 kp1 (MpM.ne_own M3 O1)
 refine rr_insert (l := ([] : (List (ByteArray × (List GSpec))))) (key := (⟨#[99,115,114]⟩ : ByteArray)) (v := (.slice a1 r1.length c1)) r1 mt140 rfl rfl rfl rfl rfl M4 ⟨_,_,rfl,R3⟩ st5.has (fun w5 M5 sp5 => ?_)
 have st6 := st5.call sp5 (fun x e => (.inl (e ▸ lb1)))
 refine vv rfl (aE (.func (.func 82) #[] #[]) rfl)<|cH [I 0,I 0,I 0,I 0] [I 0,I 1,I 1,I 0] [(0,I 0),(1,I 1),(2,I 1),(3,I 0)] u43 sz3 zr3 rfl rfl rfl rfl (by kernel_rfl) rfl (by kernel_rfl) (fun b4 w6 al4 => ?_)
 have li2 : Lits h4 [[I 0],[I 1],[I 1],[I 0]] ([0,1,1,0] : List Int) := (Lits.cons rfl (Lits.cons rfl (Lits.cons rfl (Lits.cons rfl Lits.nil))))
 obtain ⟨h5,le4,g3,sp6⟩ := al4.fz st6.has
 have M6 := M5.call0 sp6
 have st7 := st6.call0 sp6
 have R4 : SlR _ _ _ ([0,1,1,0] : List Int) := Lits.sl (n := 4) (Lits.mono le4 li2) rfl rfl (by decide) g3
 obtain ⟨r2,hr2,H⟩ := aK H
 refine dR [] [] [.slice (some ⟨b4,0,none⟩) 4 4] [.slice (some ⟨b4,0,none⟩) 4 4] en82 rfl rfl rfl rfl rfl (F82 k st7.has R4 hr2) ?_
 rintro _ w7 ⟨a2,c2,h6,rfl,sp7,R5⟩
 have M7 := M6.call0 sp7
 have st8 := st7.call0 sp7
 have O2 := R5.low st7.sp.size
 obtain ⟨h7,le5,st9,R6,kp2⟩ := O2.frz st8 (Nat.le_refl _)
 have M8 := M7.frB le5 kp2 (MpM.ne_own M7 O2)
 refine rr_insert (l := (cC ([] : (List (ByteArray × (List GSpec)))) (⟨#[99,115,114]⟩ : ByteArray) r1)) (key := (⟨#[99,115,99]⟩ : ByteArray)) (v := (.slice a2 r2.length c2)) r2 mt140 rfl rfl rfl rfl rfl M8 ⟨_,_,rfl,R6⟩ st9.has (fun w8 M9 sp8 => ?_)
 have st10 := st9.call sp8 (fun x e => (.inl (e ▸ lb1)))
 refine vv rfl (aE (.func (.func 82) #[] #[]) rfl)<|cH [I 0,I 0,I 0,I 0] [I 1,I 0,I 1,I 1] [(0,I 1),(1,I 0),(2,I 1),(3,I 1)] u43 sz3 zr3 rfl rfl rfl rfl (by kernel_rfl) rfl (by kernel_rfl) (fun b5 w9 al5 => ?_)
 have li3 : Lits h7 [[I 1],[I 0],[I 1],[I 1]] ([1,0,1,1] : List Int) := (Lits.cons rfl (Lits.cons rfl (Lits.cons rfl (Lits.cons rfl Lits.nil))))
 obtain ⟨h8,le6,g4,sp9⟩ := al5.fz st10.has
 have M10 := M9.call0 sp9
 have st11 := st10.call0 sp9
 have R7 : SlR _ _ _ ([1,0,1,1] : List Int) := Lits.sl (n := 4) (Lits.mono le6 li3) rfl rfl (by decide) g4
 obtain ⟨r3,hr3,H⟩ := aK H
 refine dR [] [] [.slice (some ⟨b5,0,none⟩) 4 4] [.slice (some ⟨b5,0,none⟩) 4 4] en82 rfl rfl rfl rfl rfl (F82 k st11.has R7 hr3) ?_
 rintro _ w10 ⟨a3,c3,h9,rfl,sp10,R8⟩
 have M11 := M10.call0 sp10
 have st12 := st11.call0 sp10
 have O3 := R8.low st11.sp.size
 obtain ⟨h10,le7,st13,R9,kp3⟩ := O3.frz st12 (Nat.le_refl _)
 have M12 := M11.frB le7 kp3 (MpM.ne_own M11 O3)
 refine rr_insert (l := (cC (cC ([] : (List (ByteArray × (List GSpec)))) (⟨#[99,115,114]⟩ : ByteArray) r1) (⟨#[99,115,99]⟩ : ByteArray) r2)) (key := (⟨#[100,99,115,114]⟩ : ByteArray)) (v := (.slice a3 r3.length c3)) r3 mt140 rfl rfl rfl rfl rfl M12 ⟨_,_,rfl,R9⟩ st13.has (fun w11 M13 sp11 => ?_)
 have st14 := st13.call sp11 (fun x e => (.inl (e ▸ lb1)))
 refine vv rfl (aE (.func (.func 82) #[] #[]) rfl)<|cH [I 0,I 0,I 0,I 0] [I 1,I 1,I 1,I 0] [(0,I 1),(1,I 1),(2,I 1),(3,I 0)] u43 sz3 zr3 rfl rfl rfl rfl (by kernel_rfl) rfl (by kernel_rfl) (fun b6 w12 al6 => ?_)
 have li4 : Lits h10 [[I 1],[I 1],[I 1],[I 0]] ([1,1,1,0] : List Int) := (Lits.cons rfl (Lits.cons rfl (Lits.cons rfl (Lits.cons rfl Lits.nil))))
 obtain ⟨h11,le8,g5,sp12⟩ := al6.fz st14.has
 have M14 := M13.call0 sp12
 have st15 := st14.call0 sp12
 have R10 : SlR _ _ _ ([1,1,1,0] : List Int) := Lits.sl (n := 4) (Lits.mono le8 li4) rfl rfl (by decide) g5
 obtain ⟨r4,hr4,H⟩ := aK H
 refine dR [] [] [.slice (some ⟨b6,0,none⟩) 4 4] [.slice (some ⟨b6,0,none⟩) 4 4] en82 rfl rfl rfl rfl rfl (F82 k st15.has R10 hr4) ?_
 rintro _ w13 ⟨a4,c4,h12,rfl,sp13,R11⟩
 have M15 := M14.call0 sp13
 have st16 := st15.call0 sp13
 have O4 := R11.low st15.sp.size
 obtain ⟨h13,le9,st17,R12,kp4⟩ := O4.frz st16 (Nat.le_refl _)
 have M16 := M15.frB le9 kp4 (MpM.ne_own M15 O4)
 refine rr_insert (l := (cC (cC (cC ([] : (List (ByteArray × (List GSpec)))) (⟨#[99,115,114]⟩ : ByteArray) r1) (⟨#[99,115,99]⟩ : ByteArray) r2) (⟨#[100,99,115,114]⟩ : ByteArray) r3)) (key := (⟨#[100,99,115,99]⟩ : ByteArray)) (v := (.slice a4 r4.length c4)) r4 mt140 rfl rfl rfl rfl rfl M16 ⟨_,_,rfl,R12⟩ st17.has (fun w14 M17 sp14 => ?_)
 have st18 := st17.call sp14 (fun x e => (.inl (e ▸ lb1)))
 refine vv rfl (aE (.func (.func 82) #[] #[]) rfl)<|cH [I 0,I 0,I 0,I 0] [I 0,I 0,I 1,I 1] [(0,I 0),(1,I 0),(2,I 1),(3,I 1)] u43 sz3 zr3 rfl rfl rfl rfl (by kernel_rfl) rfl (by kernel_rfl) (fun b7 w15 al7 => ?_)
 have li5 : Lits h13 [[I 0],[I 0],[I 1],[I 1]] ([0,0,1,1] : List Int) := (Lits.cons rfl (Lits.cons rfl (Lits.cons rfl (Lits.cons rfl Lits.nil))))
 obtain ⟨h14,le10,g6,sp15⟩ := al7.fz st18.has
 have M18 := M17.call0 sp15
 have st19 := st18.call0 sp15
 have R13 : SlR _ _ _ ([0,0,1,1] : List Int) := Lits.sl (n := 4) (Lits.mono le10 li5) rfl rfl (by decide) g6
 obtain ⟨r5,hr5,H⟩ := aK H
 refine dR [] [] [.slice (some ⟨b7,0,none⟩) 4 4] [.slice (some ⟨b7,0,none⟩) 4 4] en82 rfl rfl rfl rfl rfl (F82 k st19.has R13 hr5) ?_
 rintro _ w16 ⟨a5,c5,h15,rfl,sp16,R14⟩
 have M19 := M18.call0 sp16
 have st20 := st19.call0 sp16
 have O5 := R14.low st19.sp.size
 refine vv rfl (aE (I p2) rfl)<|vv rfl (dK (vs := [I 4,I 0,I p2]) [(0,I 4),(2,I p2)] bd137 rfl rfl)<|vv rfl (aE (I p2) rfl)<|vv rfl (dK (vs := [I 4,I 1,I p2]) [(0,I 4),(1,I 1),(2,I p2)] bd137 rfl rfl)<|cH [I 0,I 0,I 0,I 0,I 0,I 0] [I 4,I 0,I p2,I 4,I 1,I p2] [(0,.agg #[I 4,I 0,I p2]),(1,.agg #[I 4,I 1,I p2])] u78 sz137 zr137 rfl rfl rfl rfl (by kernel_rfl) rfl (by kernel_rfl) (fun b8 w17 al8 => ?_)
 have li6 : Lits h15 [[I 4,I 0,I p2],[I 4,I 1,I p2]] ([(⟨4,0,p2⟩ : GSpec),(⟨4,1,p2⟩ : GSpec)] : List GSpec) := (Lits.cons (GSpec.into (h := h15) (x := (⟨4,0,p2⟩ : GSpec)) ) (Lits.cons (GSpec.into (h := h15) (x := (⟨4,1,p2⟩ : GSpec)) ) Lits.nil))
 obtain ⟨h16,le11,g7,sp17⟩ := al8.fz st20.has
 have M20 := M19.call0 sp17
 have O6 := O5.call0 sp17
 have st21 := st20.call0 sp17
 have R15 : SlR _ _ _ ([(⟨4,0,p2⟩ : GSpec),(⟨4,1,p2⟩ : GSpec)] : List GSpec) := Lits.sl (n := 2) (Lits.mono le11 li6) rfl rfl (by decide) g7
 obtain ⟨hs1,H⟩ := cD H
 refine eG (α := GSpec) (B := w0.heap.size) (l := r5) (l2 := ([(⟨4,0,p2⟩ : GSpec),(⟨4,1,p2⟩ : GSpec)] : List GSpec)) u78 u78 ap137 rfl rfl rfl rfl st21.has st21.sp.size O6 R15 rfl rfl hs1 (fun a6 c6 w18 O7 sp18 bl1 => ?_)
 have M21 := M20.call sp18 (fun e => ((MpM.ne_own M20 O6) e))
 have st22 := st21.call sp18 (fun x e => (.inl (O6.lbs x e)))
 obtain ⟨h17,le12,st23,R16,kp5⟩ := O7.frz st22 (Nat.le_refl _)
 have M22 := M21.frB le12 kp5 (MpM.ne_own M21 O7)
 refine rr_insert (l := (cC (cC (cC (cC ([] : (List (ByteArray × (List GSpec)))) (⟨#[99,115,114]⟩ : ByteArray) r1) (⟨#[99,115,99]⟩ : ByteArray) r2) (⟨#[100,99,115,114]⟩ : ByteArray) r3) (⟨#[100,99,115,99]⟩ : ByteArray) r4)) (key := (⟨#[98,115,114]⟩ : ByteArray)) (v := (.slice a6 ((r5 ++ ([(⟨4,0,p2⟩ : GSpec),(⟨4,1,p2⟩ : GSpec)] : List GSpec)).length) c6)) (r5 ++ ([(⟨4,0,p2⟩ : GSpec),(⟨4,1,p2⟩ : GSpec)] : List GSpec)) mt140 rfl rfl rfl rfl rfl M22 ⟨_,_,rfl,R16⟩ st23.has (fun w19 M23 sp19 => ?_)
 have st24 := st23.call sp19 (fun x e => (.inl (e ▸ lb1)))
 refine vv rfl (aE (.map (some b2)) rfl)<|vv rfl (aC (.map (some b2)) rfl)<|aD<|aB e56_16<|aA e56_17<|vv rfl (aE (.map (some b2)) rfl)<|vv rfl (aE (.string p0) rfl) ?_
 obtain ⟨v1,rp1,lk1⟩ := MpM.look (zv := (.slice none 0 0)) (zu := ([] : (List GSpec))) M23 mt140 zr78 ⟨none,0,rfl,SlR.none _⟩ p0
 obtain ⟨a7,c7,rfl,R17⟩ := rep_sl rp1
 refine vv rfl (x_lookup (v := (.tuple #[.slice a7 (((dV (cC (cC (cC (cC (cC ([] : (List (ByteArray × (List GSpec)))) (⟨#[99,115,114]⟩ : ByteArray) r1) (⟨#[99,115,99]⟩ : ByteArray) r2) (⟨#[100,99,115,114]⟩ : ByteArray) r3) (⟨#[100,99,115,99]⟩ : ByteArray) r4) (⟨#[98,115,114]⟩ : ByteArray) (r5 ++ ([(⟨4,0,p2⟩ : GSpec),(⟨4,1,p2⟩ : GSpec)] : List GSpec))) p0).getD ([] : (List GSpec))).length) c7,.bool ((dV (cC (cC (cC (cC (cC ([] : (List (ByteArray × (List GSpec)))) (⟨#[99,115,114]⟩ : ByteArray) r1) (⟨#[99,115,99]⟩ : ByteArray) r2) (⟨#[100,99,115,114]⟩ : ByteArray) r3) (⟨#[100,99,115,99]⟩ : ByteArray) r4) (⟨#[98,115,114]⟩ : ByteArray) (r5 ++ ([(⟨4,0,p2⟩ : GSpec),(⟨4,1,p2⟩ : GSpec)] : List GSpec))) p0).isSome)])) rfl rfl (lk1 true))<|vv rfl (aE (.tuple #[.slice a7 (((dV (cC (cC (cC (cC (cC ([] : (List (ByteArray × (List GSpec)))) (⟨#[99,115,114]⟩ : ByteArray) r1) (⟨#[99,115,99]⟩ : ByteArray) r2) (⟨#[100,99,115,114]⟩ : ByteArray) r3) (⟨#[100,99,115,99]⟩ : ByteArray) r4) (⟨#[98,115,114]⟩ : ByteArray) (r5 ++ ([(⟨4,0,p2⟩ : GSpec),(⟨4,1,p2⟩ : GSpec)] : List GSpec))) p0).getD ([] : (List GSpec))).length) c7,.bool ((dV (cC (cC (cC (cC (cC ([] : (List (ByteArray × (List GSpec)))) (⟨#[99,115,114]⟩ : ByteArray) r1) (⟨#[99,115,99]⟩ : ByteArray) r2) (⟨#[100,99,115,114]⟩ : ByteArray) r3) (⟨#[100,99,115,99]⟩ : ByteArray) r4) (⟨#[98,115,114]⟩ : ByteArray) (r5 ++ ([(⟨4,0,p2⟩ : GSpec),(⟨4,1,p2⟩ : GSpec)] : List GSpec))) p0).isSome)]) rfl)<|vv rfl (bJ (.slice a7 (((dV (cC (cC (cC (cC (cC ([] : (List (ByteArray × (List GSpec)))) (⟨#[99,115,114]⟩ : ByteArray) r1) (⟨#[99,115,99]⟩ : ByteArray) r2) (⟨#[100,99,115,114]⟩ : ByteArray) r3) (⟨#[100,99,115,99]⟩ : ByteArray) r4) (⟨#[98,115,114]⟩ : ByteArray) (r5 ++ ([(⟨4,0,p2⟩ : GSpec),(⟨4,1,p2⟩ : GSpec)] : List GSpec))) p0).getD ([] : (List GSpec))).length) c7) rfl rfl)<|vv rfl (bJ (.bool ((dV (cC (cC (cC (cC (cC ([] : (List (ByteArray × (List GSpec)))) (⟨#[99,115,114]⟩ : ByteArray) r1) (⟨#[99,115,99]⟩ : ByteArray) r2) (⟨#[100,99,115,114]⟩ : ByteArray) r3) (⟨#[100,99,115,99]⟩ : ByteArray) r4) (⟨#[98,115,114]⟩ : ByteArray) (r5 ++ ([(⟨4,0,p2⟩ : GSpec),(⟨4,1,p2⟩ : GSpec)] : List GSpec))) p0).isSome)) rfl rfl)<|vv rfl (aC (.slice a7 (((dV (cC (cC (cC (cC (cC ([] : (List (ByteArray × (List GSpec)))) (⟨#[99,115,114]⟩ : ByteArray) r1) (⟨#[99,115,99]⟩ : ByteArray) r2) (⟨#[100,99,115,114]⟩ : ByteArray) r3) (⟨#[100,99,115,99]⟩ : ByteArray) r4) (⟨#[98,115,114]⟩ : ByteArray) (r5 ++ ([(⟨4,0,p2⟩ : GSpec),(⟨4,1,p2⟩ : GSpec)] : List GSpec))) p0).getD ([] : (List GSpec))).length) c7) rfl)<|vv rfl (aC (.bool ((dV (cC (cC (cC (cC (cC ([] : (List (ByteArray × (List GSpec)))) (⟨#[99,115,114]⟩ : ByteArray) r1) (⟨#[99,115,99]⟩ : ByteArray) r2) (⟨#[100,99,115,114]⟩ : ByteArray) r3) (⟨#[100,99,115,99]⟩ : ByteArray) r4) (⟨#[98,115,114]⟩ : ByteArray) (r5 ++ ([(⟨4,0,p2⟩ : GSpec),(⟨4,1,p2⟩ : GSpec)] : List GSpec))) p0).isSome)) rfl)<|aD<|aB e56_18<|aT e56_19<|aB e56_20 ?_
 refine aA e56_21<|vv rfl (aE (.string p0) rfl)<|vv rfl (x_strEq p0 (⟨#[100,101,110,115,101]⟩ : ByteArray) 9 9 rfl rfl)<|vv rfl (aC (.bool (decide (p0 = (⟨#[100,101,110,115,101]⟩ : ByteArray)))) rfl)<|aD ?_
 rcases aN H with ⟨hc3,H⟩ | ⟨hc3,H⟩
 · refine tr e56_22 (dT hc3) rfl<|aB e56_23<|aA e56_24<|vv rfl (aE (.func (.func 83) #[] #[.pointer (some ⟨b1,0,none⟩)]) rfl) ?_
   obtain ⟨r6,hr6,H⟩ := aK H
   refine dR [] [.pointer (some ⟨b1,0,none⟩)] [I 0,I 0] [I 0,I 0,.pointer (some ⟨b1,0,none⟩)] en83 rfl rfl rfl rfl rfl (F83 k st24.has ((le2.trans (sp4.le.trans (le3.trans (le4.trans (sp7.le.trans (le5.trans (le6.trans (sp10.le.trans (le7.trans (le8.trans (sp13.le.trans (le9.trans (le10.trans (sp16.le.trans (le11.trans le12))))))))))))))) _ _ g1) hr6) ?_
   rintro _ w20 ⟨a8,c8,h18,rfl,sp20,R18⟩
   have M24 := M23.call0 sp20
   have st25 := st24.call0 sp20
   refine vv rfl (aC (.slice a8 r6.length c8) rfl)<|vv rfl (aC (I 0) rfl)<|aD ?_
   cases H
   exact aJ e56_25 (eK Try.results56 rfl rfl ⟨a8,c8,h18,rfl,st25,R18⟩)
 refine fa e56_22 (dF hc3) rfl<|aB e56_26<|aA e56_27<|vv rfl (aE (.string p0) rfl)<|vv rfl (x_strEq p0 (⟨#[99,115,102]⟩ : ByteArray) 9 9 rfl rfl)<|vv rfl (aC (.bool (decide (p0 = (⟨#[99,115,102]⟩ : ByteArray)))) rfl)<|aD ?_
 rcases aN H with ⟨hc4,H⟩ | ⟨hc4,H⟩
 · refine tr e56_28 (dT hc4) rfl<|aB e56_29<|aA e56_30<|vv rfl (aE (.func (.func 83) #[] #[.pointer (some ⟨b1,0,none⟩)]) rfl) ?_
   obtain ⟨r7,hr7,H⟩ := aK H
   refine dR [] [.pointer (some ⟨b1,0,none⟩)] [I 1,I 1] [I 1,I 1,.pointer (some ⟨b1,0,none⟩)] en83 rfl rfl rfl rfl rfl (F83 k st24.has ((le2.trans (sp4.le.trans (le3.trans (le4.trans (sp7.le.trans (le5.trans (le6.trans (sp10.le.trans (le7.trans (le8.trans (sp13.le.trans (le9.trans (le10.trans (sp16.le.trans (le11.trans le12))))))))))))))) _ _ g1) hr7) ?_
   rintro _ w21 ⟨a9,c9,h19,rfl,sp21,R19⟩
   have M25 := M23.call0 sp21
   have st26 := st24.call0 sp21
   refine vv rfl (aC (.slice a9 r7.length c9) rfl)<|vv rfl (aC (I 0) rfl)<|aD ?_
   cases H
   exact aJ e56_31 (eK Try.results56 rfl rfl ⟨a9,c9,h19,rfl,st26,R19⟩)
 refine fa e56_28 (dF hc4) rfl<|aB e56_32<|aA e56_33 ?_
 obtain ⟨j3,hj3,H⟩ := dE H
 have Jj3 : ∀  {σ3 : Env} {w25 : World} {h23 : Sto},Le h17 h23 → St w0 noM h0 h23 w25 → σ3 11 = .slice a7 (((dV (cC (cC (cC (cC (cC ([] : (List (ByteArray × (List GSpec)))) (⟨#[99,115,114]⟩ : ByteArray) r1) (⟨#[99,115,99]⟩ : ByteArray) r2) (⟨#[100,99,115,114]⟩ : ByteArray) r3) (⟨#[100,99,115,99]⟩ : ByteArray) r4) (⟨#[98,115,114]⟩ : ByteArray) (r5 ++ ([(⟨4,0,p2⟩ : GSpec),(⟨4,1,p2⟩ : GSpec)] : List GSpec))) p0).getD ([] : (List GSpec))).length) c7 → SlR h23 a7 c7 ((dV (cC (cC (cC (cC (cC ([] : (List (ByteArray × (List GSpec)))) (⟨#[99,115,114]⟩ : ByteArray) r1) (⟨#[99,115,99]⟩ : ByteArray) r2) (⟨#[100,99,115,114]⟩ : ByteArray) r3) (⟨#[100,99,115,99]⟩ : ByteArray) r4) (⟨#[98,115,114]⟩ : ByteArray) (r5 ++ ([(⟨4,0,p2⟩ : GSpec),(⟨4,1,p2⟩ : GSpec)] : List GSpec))) p0).getD ([] : (List GSpec))) → MpM h23 w25 b2 (cC (cC (cC (cC (cC ([] : (List (ByteArray × (List GSpec)))) (⟨#[99,115,114]⟩ : ByteArray) r1) (⟨#[99,115,99]⟩ : ByteArray) r2) (⟨#[100,99,115,114]⟩ : ByteArray) r3) (⟨#[100,99,115,99]⟩ : ByteArray) r4) (⟨#[98,115,114]⟩ : ByteArray) (r5 ++ ([(⟨4,0,p2⟩ : GSpec),(⟨4,1,p2⟩ : GSpec)] : List GSpec))) → j3 () = some r → Run X56 [.inBlock 0,.code c56_51] σ3 w25 (.fn (Q56 w0 h0 r)) := by
  intro σ3 w25 h23 le15 st30 s11_j3 R23 M29 H
  rw [hj3] at H
  refine aW<|aB e56_51<|aA e56_52<|vv rfl (aE (.slice a7 (((dV (cC (cC (cC (cC (cC ([] : (List (ByteArray × (List GSpec)))) (⟨#[99,115,114]⟩ : ByteArray) r1) (⟨#[99,115,99]⟩ : ByteArray) r2) (⟨#[100,99,115,114]⟩ : ByteArray) r3) (⟨#[100,99,115,99]⟩ : ByteArray) r4) (⟨#[98,115,114]⟩ : ByteArray) (r5 ++ ([(⟨4,0,p2⟩ : GSpec),(⟨4,1,p2⟩ : GSpec)] : List GSpec))) p0).getD ([] : (List GSpec))).length) c7) s11_j3)<|vv rfl (aC (.slice a7 (((dV (cC (cC (cC (cC (cC ([] : (List (ByteArray × (List GSpec)))) (⟨#[99,115,114]⟩ : ByteArray) r1) (⟨#[99,115,99]⟩ : ByteArray) r2) (⟨#[100,99,115,114]⟩ : ByteArray) r3) (⟨#[100,99,115,99]⟩ : ByteArray) r4) (⟨#[98,115,114]⟩ : ByteArray) (r5 ++ ([(⟨4,0,p2⟩ : GSpec),(⟨4,1,p2⟩ : GSpec)] : List GSpec))) p0).getD ([] : (List GSpec))).length) c7) rfl)<|vv rfl (aC (I 0) rfl)<|aD ?_
  cases H
  exact aJ e56_53 (eK Try.results56 rfl rfl ⟨a7,c7,h23,rfl,st30,R23⟩)
 refine vv rfl (aE (.string p0) rfl)<|vv rfl (x_strEq p0 (⟨#[99,111,111]⟩ : ByteArray) 9 9 rfl rfl)<|vv rfl (aE (.bool (decide (p0 = (⟨#[99,111,111]⟩ : ByteArray)))) rfl) ?_
 rcases aN H with ⟨hc5,H⟩ | ⟨hc5,H⟩
 · refine aZ (wt2 (dT hc5) rfl) rfl (aL (I p1) sc3 rfl ((aQ (st24.has _ _ ((le2.trans (sp4.le.trans (le3.trans (le4.trans (sp7.le.trans (le5.trans (le6.trans (sp10.le.trans (le7.trans (le8.trans (sp13.le.trans (le9.trans (le10.trans (sp16.le.trans (le11.trans le12))))))))))))))) _ _ g1))).trans rfl))<|aZ (wt2 (dT hc5) rfl) rfl (aP .gtr .i64 p1 0 (.bool (decide (0 < p1))) 3 3 rfl rfl rfl)<|vv rfl (dH (.bool (decide (0 < p1))) (dT hc5) rfl rfl)<|vv rfl (aC (.bool (decide (0 < p1))) rfl)<|aD ?_
   rcases aN H with ⟨hc6,H⟩ | ⟨hc6,H⟩
   · refine tr e56_34 (dT hc6) rfl<|aB e56_35<|aA e56_36<|vv rfl (aE (.func (.func 83) #[] #[.pointer (some ⟨b1,0,none⟩)]) rfl) ?_
     obtain ⟨r8,hr8,H⟩ := aK H
     refine dR [] [.pointer (some ⟨b1,0,none⟩)] [I 2,I 3] [I 2,I 3,.pointer (some ⟨b1,0,none⟩)] en83 rfl rfl rfl rfl rfl (F83 k st24.has ((le2.trans (sp4.le.trans (le3.trans (le4.trans (sp7.le.trans (le5.trans (le6.trans (sp10.le.trans (le7.trans (le8.trans (sp13.le.trans (le9.trans (le10.trans (sp16.le.trans (le11.trans le12))))))))))))))) _ _ g1) hr8) ?_
     rintro _ w22 ⟨a10,c10,h20,rfl,sp22,R20⟩
     have M26 := M23.call0 sp22
     have st27 := st24.call0 sp22
     refine vv rfl (aC (.slice a10 r8.length c10) rfl)<|vv rfl (aC (I 0) rfl)<|aD ?_
     cases H
     exact aJ e56_37 (eK Try.results56 rfl rfl ⟨a10,c10,h20,rfl,st27,R20⟩)
   refine fa e56_34 (dF hc6) rfl<|aB e56_38<|aA e56_39<|vv rfl (aE (.bool ((dV (cC (cC (cC (cC (cC ([] : (List (ByteArray × (List GSpec)))) (⟨#[99,115,114]⟩ : ByteArray) r1) (⟨#[99,115,99]⟩ : ByteArray) r2) (⟨#[100,99,115,114]⟩ : ByteArray) r3) (⟨#[100,99,115,99]⟩ : ByteArray) r4) (⟨#[98,115,114]⟩ : ByteArray) (r5 ++ ([(⟨4,0,p2⟩ : GSpec),(⟨4,1,p2⟩ : GSpec)] : List GSpec))) p0).isSome)) rfl)<|vv rfl (eA ((dV (cC (cC (cC (cC (cC ([] : (List (ByteArray × (List GSpec)))) (⟨#[99,115,114]⟩ : ByteArray) r1) (⟨#[99,115,99]⟩ : ByteArray) r2) (⟨#[100,99,115,114]⟩ : ByteArray) r3) (⟨#[100,99,115,99]⟩ : ByteArray) r4) (⟨#[98,115,114]⟩ : ByteArray) (r5 ++ ([(⟨4,0,p2⟩ : GSpec),(⟨4,1,p2⟩ : GSpec)] : List GSpec))) p0).isSome) 4 rfl)<|vv rfl (aE (.bool (!((dV (cC (cC (cC (cC (cC ([] : (List (ByteArray × (List GSpec)))) (⟨#[99,115,114]⟩ : ByteArray) r1) (⟨#[99,115,99]⟩ : ByteArray) r2) (⟨#[100,99,115,114]⟩ : ByteArray) r3) (⟨#[100,99,115,99]⟩ : ByteArray) r4) (⟨#[98,115,114]⟩ : ByteArray) (r5 ++ ([(⟨4,0,p2⟩ : GSpec),(⟨4,1,p2⟩ : GSpec)] : List GSpec))) p0).isSome))) rfl) ?_
   rcases aN H with ⟨hc7,H⟩ | ⟨hc7,H⟩
   · refine aZ (wt2 (bL hc7) rfl) rfl (aL (I p1) sc3 rfl ((aQ (st24.has _ _ ((le2.trans (sp4.le.trans (le3.trans (le4.trans (sp7.le.trans (le5.trans (le6.trans (sp10.le.trans (le7.trans (le8.trans (sp13.le.trans (le9.trans (le10.trans (sp16.le.trans (le11.trans le12))))))))))))))) _ _ g1))).trans rfl))<|aZ (wt2 (bL hc7) rfl) rfl (aP .neq .i64 p1 2 (.bool (!decide (p1 = 2))) 3 3 rfl rfl rfl)<|vv rfl (dI (.bool (!decide (p1 = 2))) (bL hc7) rfl rfl)<|vv rfl (aC (.bool (!decide (p1 = 2))) rfl)<|aD ?_
     rcases aN H with ⟨hc8,H⟩ | ⟨hc8,H⟩
     · refine fa e56_40 (bL (dT hc8)) rfl<|aB e56_44<|aA e56_45 ?_
       obtain ⟨j5,hj5,H⟩ := dE H
       have Jj5 : ∀  {σ1 : Env} {w23 : World} {h21 : Sto},Le h17 h21 → St w0 noM h0 h21 w23 → σ1 11 = .slice a7 (((dV (cC (cC (cC (cC (cC ([] : (List (ByteArray × (List GSpec)))) (⟨#[99,115,114]⟩ : ByteArray) r1) (⟨#[99,115,99]⟩ : ByteArray) r2) (⟨#[100,99,115,114]⟩ : ByteArray) r3) (⟨#[100,99,115,99]⟩ : ByteArray) r4) (⟨#[98,115,114]⟩ : ByteArray) (r5 ++ ([(⟨4,0,p2⟩ : GSpec),(⟨4,1,p2⟩ : GSpec)] : List GSpec))) p0).getD ([] : (List GSpec))).length) c7 → SlR h21 a7 c7 ((dV (cC (cC (cC (cC (cC ([] : (List (ByteArray × (List GSpec)))) (⟨#[99,115,114]⟩ : ByteArray) r1) (⟨#[99,115,99]⟩ : ByteArray) r2) (⟨#[100,99,115,114]⟩ : ByteArray) r3) (⟨#[100,99,115,99]⟩ : ByteArray) r4) (⟨#[98,115,114]⟩ : ByteArray) (r5 ++ ([(⟨4,0,p2⟩ : GSpec),(⟨4,1,p2⟩ : GSpec)] : List GSpec))) p0).getD ([] : (List GSpec))) → MpM h21 w23 b2 (cC (cC (cC (cC (cC ([] : (List (ByteArray × (List GSpec)))) (⟨#[99,115,114]⟩ : ByteArray) r1) (⟨#[99,115,99]⟩ : ByteArray) r2) (⟨#[100,99,115,114]⟩ : ByteArray) r3) (⟨#[100,99,115,99]⟩ : ByteArray) r4) (⟨#[98,115,114]⟩ : ByteArray) (r5 ++ ([(⟨4,0,p2⟩ : GSpec),(⟨4,1,p2⟩ : GSpec)] : List GSpec))) → j5 () = some r → Run X56 [.inBlock 0,.code c56_51] σ1 w23 (.fn (Q56 w0 h0 r)) := by
        intro σ1 w23 h21 le13 st28 s11_j5 R21 M27 H
        rw [hj5] at H
        exact Jj3 le13 st28 s11_j5 R21 M27 H
       refine vv rfl (aE (.string p0) rfl)<|vv rfl (x_strEq p0 (⟨#[98,115,114]⟩ : ByteArray) 9 9 rfl rfl)<|vv rfl (aE (.bool (decide (p0 = (⟨#[98,115,114]⟩ : ByteArray)))) rfl) ?_
       rcases aN H with ⟨hc9,H⟩ | ⟨hc9,H⟩
       · refine aZ (wt2 (dT hc9) rfl) rfl (aE (I p2) rfl)<|aZ (wt2 (dT hc9) rfl) rfl (aP .lss .i64 p2 1 (.bool (decide (p2 < 1))) 3 3 rfl rfl rfl)<|vv rfl (dH (.bool (decide (p2 < 1))) (dT hc9) rfl rfl)<|vv rfl (aC (.bool (decide (p2 < 1))) rfl)<|aD ?_
         rcases aN H with ⟨hc10,H⟩ | ⟨hc10,H⟩
         · refine tr e56_46 (dT hc10) rfl<|aB e56_47<|aA e56_48<|vv rfl (aC (.slice none 0 0) rfl)<|vv rfl (aC (I 1) rfl)<|aD ?_
           cases H
           exact aJ e56_49 (eK Try.results56 rfl rfl ⟨none,0,h17,rfl,st24,(SlR.none _)⟩)
         refine fa e56_46 (dF hc10) rfl<|aM e56_50 ?_
         exact Jj5 (Le.refl _) st24 rfl R17 M23 H
       refine aR (wf2 (dF hc9) rfl) rfl<|aR (wf2 (dF hc9) rfl) rfl<|vv rfl (dI (.bool false) (dF hc9) rfl rfl)<|vv rfl (aC (.bool false) rfl)<|aD<|dJ e56_46 (p := false) rfl rfl<|aM e56_50 ?_
       exact Jj5 (Le.refl _) st24 rfl R17 M23 H
     refine tr e56_40 (bK (dF hc8)) rfl<|aB e56_41<|aA e56_42<|vv rfl (aC (.slice none 0 0) rfl)<|vv rfl (aC (I 5) rfl)<|aD ?_
     cases H
     exact aJ e56_43 (eK Try.results56 rfl rfl ⟨none,0,h17,rfl,st24,(SlR.none _)⟩)
   refine aR (wf2 (bK (cA hc7)) rfl) rfl<|aR (wf2 (bK (cA hc7)) rfl) rfl<|vv rfl (dH (.bool true) (bK (cA hc7)) rfl rfl)<|vv rfl (aC (.bool true) rfl)<|aD<|cQ e56_40 (p := true) rfl rfl<|aB e56_41<|aA e56_42<|vv rfl (aC (.slice none 0 0) rfl)<|vv rfl (aC (I 5) rfl) ?_
   refine aD ?_
   cases H
   exact aJ e56_43 (eK Try.results56 rfl rfl ⟨none,0,h17,rfl,st24,(SlR.none _)⟩)
 refine aR (wf2 (dF hc5) rfl) rfl<|aR (wf2 (dF hc5) rfl) rfl<|vv rfl (dI (.bool false) (dF hc5) rfl rfl)<|vv rfl (aC (.bool false) rfl)<|aD<|dJ e56_34 (p := false) rfl rfl<|aB e56_38<|aA e56_39<|vv rfl (aE (.bool ((dV (cC (cC (cC (cC (cC ([] : (List (ByteArray × (List GSpec)))) (⟨#[99,115,114]⟩ : ByteArray) r1) (⟨#[99,115,99]⟩ : ByteArray) r2) (⟨#[100,99,115,114]⟩ : ByteArray) r3) (⟨#[100,99,115,99]⟩ : ByteArray) r4) (⟨#[98,115,114]⟩ : ByteArray) (r5 ++ ([(⟨4,0,p2⟩ : GSpec),(⟨4,1,p2⟩ : GSpec)] : List GSpec))) p0).isSome)) rfl)<|vv rfl (eA ((dV (cC (cC (cC (cC (cC ([] : (List (ByteArray × (List GSpec)))) (⟨#[99,115,114]⟩ : ByteArray) r1) (⟨#[99,115,99]⟩ : ByteArray) r2) (⟨#[100,99,115,114]⟩ : ByteArray) r3) (⟨#[100,99,115,99]⟩ : ByteArray) r4) (⟨#[98,115,114]⟩ : ByteArray) (r5 ++ ([(⟨4,0,p2⟩ : GSpec),(⟨4,1,p2⟩ : GSpec)] : List GSpec))) p0).isSome) 4 rfl) ?_
 refine vv rfl (aE (.bool (!((dV (cC (cC (cC (cC (cC ([] : (List (ByteArray × (List GSpec)))) (⟨#[99,115,114]⟩ : ByteArray) r1) (⟨#[99,115,99]⟩ : ByteArray) r2) (⟨#[100,99,115,114]⟩ : ByteArray) r3) (⟨#[100,99,115,99]⟩ : ByteArray) r4) (⟨#[98,115,114]⟩ : ByteArray) (r5 ++ ([(⟨4,0,p2⟩ : GSpec),(⟨4,1,p2⟩ : GSpec)] : List GSpec))) p0).isSome))) rfl) ?_
 rcases aN H with ⟨hc11,H⟩ | ⟨hc11,H⟩
 · refine aZ (wt2 (bL hc11) rfl) rfl (aL (I p1) sc3 rfl ((aQ (st24.has _ _ ((le2.trans (sp4.le.trans (le3.trans (le4.trans (sp7.le.trans (le5.trans (le6.trans (sp10.le.trans (le7.trans (le8.trans (sp13.le.trans (le9.trans (le10.trans (sp16.le.trans (le11.trans le12))))))))))))))) _ _ g1))).trans rfl))<|aZ (wt2 (bL hc11) rfl) rfl (aP .neq .i64 p1 2 (.bool (!decide (p1 = 2))) 3 3 rfl rfl rfl)<|vv rfl (dI (.bool (!decide (p1 = 2))) (bL hc11) rfl rfl)<|vv rfl (aC (.bool (!decide (p1 = 2))) rfl)<|aD ?_
   rcases aN H with ⟨hc12,H⟩ | ⟨hc12,H⟩
   · refine fa e56_40 (bL (dT hc12)) rfl<|aB e56_44<|aA e56_45 ?_
     obtain ⟨j7,hj7,H⟩ := dE H
     have Jj7 : ∀  {σ2 : Env} {w24 : World} {h22 : Sto},Le h17 h22 → St w0 noM h0 h22 w24 → σ2 11 = .slice a7 (((dV (cC (cC (cC (cC (cC ([] : (List (ByteArray × (List GSpec)))) (⟨#[99,115,114]⟩ : ByteArray) r1) (⟨#[99,115,99]⟩ : ByteArray) r2) (⟨#[100,99,115,114]⟩ : ByteArray) r3) (⟨#[100,99,115,99]⟩ : ByteArray) r4) (⟨#[98,115,114]⟩ : ByteArray) (r5 ++ ([(⟨4,0,p2⟩ : GSpec),(⟨4,1,p2⟩ : GSpec)] : List GSpec))) p0).getD ([] : (List GSpec))).length) c7 → SlR h22 a7 c7 ((dV (cC (cC (cC (cC (cC ([] : (List (ByteArray × (List GSpec)))) (⟨#[99,115,114]⟩ : ByteArray) r1) (⟨#[99,115,99]⟩ : ByteArray) r2) (⟨#[100,99,115,114]⟩ : ByteArray) r3) (⟨#[100,99,115,99]⟩ : ByteArray) r4) (⟨#[98,115,114]⟩ : ByteArray) (r5 ++ ([(⟨4,0,p2⟩ : GSpec),(⟨4,1,p2⟩ : GSpec)] : List GSpec))) p0).getD ([] : (List GSpec))) → MpM h22 w24 b2 (cC (cC (cC (cC (cC ([] : (List (ByteArray × (List GSpec)))) (⟨#[99,115,114]⟩ : ByteArray) r1) (⟨#[99,115,99]⟩ : ByteArray) r2) (⟨#[100,99,115,114]⟩ : ByteArray) r3) (⟨#[100,99,115,99]⟩ : ByteArray) r4) (⟨#[98,115,114]⟩ : ByteArray) (r5 ++ ([(⟨4,0,p2⟩ : GSpec),(⟨4,1,p2⟩ : GSpec)] : List GSpec))) → j7 () = some r → Run X56 [.inBlock 0,.code c56_51] σ2 w24 (.fn (Q56 w0 h0 r)) := by
      intro σ2 w24 h22 le14 st29 s11_j7 R22 M28 H
      rw [hj7] at H
      exact Jj3 le14 st29 s11_j7 R22 M28 H
     refine vv rfl (aE (.string p0) rfl)<|vv rfl (x_strEq p0 (⟨#[98,115,114]⟩ : ByteArray) 9 9 rfl rfl)<|vv rfl (aE (.bool (decide (p0 = (⟨#[98,115,114]⟩ : ByteArray)))) rfl) ?_
     rcases aN H with ⟨hc13,H⟩ | ⟨hc13,H⟩
     · refine aZ (wt2 (dT hc13) rfl) rfl (aE (I p2) rfl)<|aZ (wt2 (dT hc13) rfl) rfl (aP .lss .i64 p2 1 (.bool (decide (p2 < 1))) 3 3 rfl rfl rfl)<|vv rfl (dH (.bool (decide (p2 < 1))) (dT hc13) rfl rfl)<|vv rfl (aC (.bool (decide (p2 < 1))) rfl)<|aD ?_
       rcases aN H with ⟨hc14,H⟩ | ⟨hc14,H⟩
       · refine tr e56_46 (dT hc14) rfl<|aB e56_47<|aA e56_48<|vv rfl (aC (.slice none 0 0) rfl)<|vv rfl (aC (I 1) rfl)<|aD ?_
         cases H
         exact aJ e56_49 (eK Try.results56 rfl rfl ⟨none,0,h17,rfl,st24,(SlR.none _)⟩)
       refine fa e56_46 (dF hc14) rfl<|aM e56_50 ?_
       exact Jj7 (Le.refl _) st24 rfl R17 M23 H
     refine aR (wf2 (dF hc13) rfl) rfl<|aR (wf2 (dF hc13) rfl) rfl<|vv rfl (dI (.bool false) (dF hc13) rfl rfl)<|vv rfl (aC (.bool false) rfl)<|aD<|dJ e56_46 (p := false) rfl rfl<|aM e56_50 ?_
     exact Jj7 (Le.refl _) st24 rfl R17 M23 H
   refine tr e56_40 (bK (dF hc12)) rfl<|aB e56_41<|aA e56_42<|vv rfl (aC (.slice none 0 0) rfl)<|vv rfl (aC (I 5) rfl)<|aD ?_
   cases H
   exact aJ e56_43 (eK Try.results56 rfl rfl ⟨none,0,h17,rfl,st24,(SlR.none _)⟩)
 refine aR (wf2 (bK (cA hc11)) rfl) rfl<|aR (wf2 (bK (cA hc11)) rfl) rfl<|vv rfl (dH (.bool true) (bK (cA hc11)) rfl rfl)<|vv rfl (aC (.bool true) rfl)<|aD<|cQ e56_40 (p := true) rfl rfl<|aB e56_41<|aA e56_42<|vv rfl (aC (.slice none 0 0) rfl)<|vv rfl (aC (I 5) rfl) ?_
 refine aD ?_
 cases H
 exact aJ e56_43 (eK Try.results56 rfl rfl ⟨none,0,h17,rfl,st24,(SlR.none _)⟩)
theorem F97 : S97 := by
 intro p0 w0 h0 hh r H
 unfold m97 at H
 refine aO (fn := Try.f97) Try.func97 rfl (Nat.le_of_ble_eq_true rfl) ?_
 show Run X97 [.code c97_0] (fun t => List.getD [I p0] t undef) w0 (.fn (Q97 w0 h0 r))
 have st0 := St.init hh noM
 refine aB e97_0<|aA e97_1<|vv rfl (aC (.bool false) rfl)<|aD<|aB e97_2<|aA e97_3<|vv rfl (aE (I p0) rfl)<|vv rfl (aP .lss .i64 p0 0 (.bool (decide (p0 < 0))) 3 3 rfl rfl rfl)<|vv rfl (aC (.bool (decide (p0 < 0))) rfl)<|aD ?_
 cases H
 exact aJ e97_4 (cG Try.results97 rfl ⟨h0,rfl,st0⟩)
abbrev ZSLl91_1_0 (k : Nat) : Prop := SLl91_1_0 k
theorem SLl91_1_0_z : SLl91_1_0 0 := by
  unfold SLl91_1_0; intros; rename_i H; exact absurd H (by simp [l91_1_0])
theorem SLl91_1_0_s (k : Nat) (ih : ZSLl91_1_0 k) : SLl91_1_0 (k + 1) := by
 intro p0 bA bC j1 w0 w h0 h σ xs1 r st s0 s1 s7 s8 R1 hd1 H
 cases xs1 with
 | nil =>
  rw [l91_1_0] at H
  have hk1 := cV hd1
  refine aB e91_7<|aA e91_8<|vv rfl (aP .lss .i64 (j1 : Int) (p0.length : Int) (.bool (decide ((j1 : Int) < (p0.length : Int)))) 3 3 s8 s7 rfl)<|aD<|aB e91_9<|fa e91_10 hk1 rfl<|bM e91_12 rfl<|aB e91_25<|aA e91_26<|vv rfl (aC (I (-1)) rfl) ?_
  refine aD ?_
  cases H
  exact aJ e91_27 (cG Try.results91 rfl ⟨h,rfl,st⟩)
 | cons x1 xs2 =>
  rw [l91_1_0] at H
  obtain ⟨hk2,hj1,hx1,hd2⟩ := cL hd1
  refine aB e91_7<|aA e91_8<|vv rfl (aP .lss .i64 (j1 : Int) (p0.length : Int) (.bool (decide ((j1 : Int) < (p0.length : Int)))) 3 3 s8 s7 rfl)<|aD<|aB e91_9<|tr e91_10 hk2 rfl<|aM e91_11<|aB e91_13<|aT e91_14<|aB e91_15 ?_
  refine aA e91_16<|vv rfl (aE (I (j1 : Int)) s8)<|vv rfl (aC (I (j1 : Int)) rfl)<|aD<|aB e91_17<|aA e91_18<|vv rfl (aE (.func (.func 97) #[] #[]) s1)<|vv rfl (aE (.slice bA p0.length bC) s0)<|vv rfl (aE (I (j1 : Int)) rfl) ?_
  obtain ⟨b1,o1,vs1,ea1,rp1,cl1⟩ := SlR.at R1 hx1
  obtain rfl := rp1
  refine vv rfl (aX u43 sz3 rfl rfl ea1 (Int.natCast_nonneg _) (Int.ofNat_lt.2 hj1))<|vv rfl (aL (I x1) sc3 rfl (((cl1 _ (Has.le (Le.refl _) st.has)) 0 (by decide)).trans rfl)) ?_
  obtain ⟨r1,hr1,H⟩ := aK H
  refine dR [] [] [I x1] [I x1] en97 rfl rfl rfl rfl rfl (F97 st.has hr1) ?_
  rintro _ w1 ⟨h1,rfl,sp1⟩
  have st1 := st.call0 sp1
  refine aD ?_
  rcases aN H with ⟨hc1,H⟩ | ⟨hc1,H⟩
  · refine tr e91_19 hc1 rfl<|aB e91_20<|aA e91_21<|vv rfl (aE (I (j1 : Int)) rfl)<|vv rfl (aC (I (j1 : Int)) rfl)<|aD ?_
    cases H
    exact aJ e91_22 (cG Try.results91 rfl ⟨h1,rfl,st1⟩)
  refine fa e91_19 (cA hc1) rfl<|aM e91_23<|aW<|aA e91_24<|vv rfl (aP .add .i64 (j1 : Int) 1 (I ((j1 + 1 : Nat) : Int)) 3 3 s8 rfl (dL hj1 (SlR.mono sp1.le R1).mx))<|vv rfl (aE (I ((j1 + 1 : Nat) : Int)) rfl)<|aD<|bF ?_
  exact ih (j1 := (j1 + 1)) st1 s0 s1 s7 rfl (SlR.mono sp1.le R1) hd2 H
theorem ZSLl91_1_0_all : ∀ k,ZSLl91_1_0 k
  | 0 => SLl91_1_0_z
  | k + 1 => SLl91_1_0_s k (ZSLl91_1_0_all k)
theorem Fl91_1_0 (k : Nat) : SLl91_1_0 k := (ZSLl91_1_0_all k)
theorem F91_1 (k : Nat) : S91_1 k := by
 intro p0 bA bC w0 h0 hh Rp0 r H
 unfold m91_1 at H
 refine aO (fn := Try.f91) Try.func91 rfl (Nat.le_of_ble_eq_true rfl) ?_
 show Run X91 [.code c91_0] (fun t => List.getD [.slice bA p0.length bC,.func (.func 97) #[] #[]] t undef) w0 (.fn (Q91_1 w0 h0 r))
 have st0 := St.init hh noM
 refine aB e91_0<|aA e91_1<|vv rfl (aC (I 0) rfl)<|aD<|aB e91_2<|aB e91_3<|aA e91_4<|vv rfl (aE (.slice bA p0.length bC) rfl)<|vv rfl (bN u43 rfl)<|vv rfl (aE (I 0) rfl) ?_
 refine aD<|aT e91_5<|cB e91_6 ?_
 exact Fl91_1_0 k (j1 := 0) st0 rfl rfl rfl rfl Rp0 rfl H
theorem F77_1 (k : Nat) : S77_1 k := by
 intro p0 bA bC w0 h0 hh Rp0 r H
 unfold m77_1 at H
 refine aO (fn := Try.f77) Try.func77 rfl (Nat.le_of_ble_eq_true rfl) ?_
 show Run X77 [.code c77_0] (fun t => List.getD [.slice bA p0.length bC,.func (.func 97) #[] #[]] t undef) w0 (.fn (Q77_1 w0 h0 r))
 have st0 := St.init hh noM
 refine aB e77_0<|aA e77_1<|vv rfl (aC (.bool false) rfl)<|aD<|aB e77_2<|aA e77_3<|vv rfl (aE (.slice bA p0.length bC) rfl)<|vv rfl (aE (.func (.func 97) #[] #[]) rfl) ?_
 obtain ⟨r1,hr1,H⟩ := aK H
 refine aU [.slice bA p0.length bC,.func (.func 97) #[] #[]] en91 rfl rfl rfl (F91_1 k st0.has Rp0 hr1) ?_
 rintro _ w1 ⟨h1,rfl,sp1⟩
 have st1 := st0.call0 sp1
 refine vv rfl (aP .geq .i64 r1 0 (.bool (decide (0 ≤ r1))) 3 3 rfl rfl rfl)<|vv rfl (aC (.bool (decide (0 ≤ r1))) rfl)<|aD ?_
 cases H
 exact aJ e77_4 (cG Try.results77 rfl ⟨h1,rfl,st1⟩)
abbrev ZSLl101_0 (k : Nat) : Prop := SLl101_0 k
theorem SLl101_0_z : SLl101_0 0 := by
  unfold SLl101_0; intros; rename_i H; exact absurd H (by simp [l101_0])
theorem SLl101_0_s (k : Nat) (ih : ZSLl101_0 k) : SLl101_0 (k + 1) := by
 intro p0 bA bC j1 p1 w0 w h0 h σ xs1 r st s0 s1 s7 s8 R1 hd1 H
 cases xs1 with
 | nil =>
  rw [l101_0] at H
  have hk1 := cV hd1
  refine aB e101_7<|aA e101_8<|vv rfl (aP .lss .i64 (j1 : Int) (p0.length : Int) (.bool (decide ((j1 : Int) < (p0.length : Int)))) 3 3 s8 s7 rfl)<|aD<|aB e101_9<|fa e101_10 hk1 rfl<|bM e101_12 rfl<|aB e101_25<|aA e101_26<|vv rfl (aC (I (-1)) rfl) ?_
  refine aD ?_
  cases H
  exact aJ e101_27 (cG Try.results101 rfl ⟨h,rfl,st⟩)
 | cons x1 xs2 =>
  rw [l101_0] at H
  obtain ⟨hk2,hj1,hx1,hd2⟩ := cL hd1
  refine aB e101_7<|aA e101_8<|vv rfl (aP .lss .i64 (j1 : Int) (p0.length : Int) (.bool (decide ((j1 : Int) < (p0.length : Int)))) 3 3 s8 s7 rfl)<|aD<|aB e101_9<|tr e101_10 hk2 rfl<|aM e101_11<|aB e101_13<|aT e101_14<|aB e101_15 ?_
  refine aA e101_16<|vv rfl (aE (I (j1 : Int)) s8)<|vv rfl (aC (I (j1 : Int)) rfl)<|aD<|aB e101_17<|aA e101_18<|vv rfl (aE (I p1) s1)<|vv rfl (aE (.slice bA p0.length bC) s0)<|vv rfl (aE (I (j1 : Int)) rfl) ?_
  obtain ⟨b1,o1,vs1,ea1,rp1,cl1⟩ := SlR.at R1 hx1
  obtain rfl := rp1
  refine vv rfl (aX u43 sz3 rfl rfl ea1 (Int.natCast_nonneg _) (Int.ofNat_lt.2 hj1))<|vv rfl (aL (I x1) sc3 rfl (((cl1 _ (Has.le (Le.refl _) st.has)) 0 (by decide)).trans rfl))<|vv rfl (aP .eql .i64 p1 x1 (.bool (decide (p1 = x1))) 3 3 rfl rfl rfl)<|aD ?_
  rcases aN H with ⟨hc1,H⟩ | ⟨hc1,H⟩
  · refine tr e101_19 (dT hc1) rfl<|aB e101_20<|aA e101_21<|vv rfl (aE (I (j1 : Int)) rfl)<|vv rfl (aC (I (j1 : Int)) rfl)<|aD ?_
    cases H
    exact aJ e101_22 (cG Try.results101 rfl ⟨h,rfl,st⟩)
  refine fa e101_19 (dF hc1) rfl<|aM e101_23<|aW<|aA e101_24<|vv rfl (aP .add .i64 (j1 : Int) 1 (I ((j1 + 1 : Nat) : Int)) 3 3 s8 rfl (dL hj1 R1.mx))<|vv rfl (aE (I ((j1 + 1 : Nat) : Int)) rfl)<|aD<|bF ?_
  exact ih (j1 := (j1 + 1)) st s0 s1 s7 rfl R1 hd2 H
theorem ZSLl101_0_all : ∀ k,ZSLl101_0 k
  | 0 => SLl101_0_z
  | k + 1 => SLl101_0_s k (ZSLl101_0_all k)
theorem Fl101_0 (k : Nat) : SLl101_0 k := (ZSLl101_0_all k)
theorem F101 (k : Nat) : S101 k := by
 intro p0 bA bC p1 w0 h0 hh Rp0 r H
 unfold m101 at H
 refine aO (fn := Try.f101) Try.func101 rfl (Nat.le_of_ble_eq_true rfl) ?_
 show Run X101 [.code c101_0] (fun t => List.getD [.slice bA p0.length bC,I p1] t undef) w0 (.fn (Q101 w0 h0 r))
 have st0 := St.init hh noM
 refine aB e101_0<|aA e101_1<|vv rfl (aC (I 0) rfl)<|aD<|aB e101_2<|aB e101_3<|aA e101_4<|vv rfl (aE (.slice bA p0.length bC) rfl)<|vv rfl (bN u43 rfl)<|vv rfl (aE (I 0) rfl) ?_
 refine aD<|aT e101_5<|cB e101_6 ?_
 exact Fl101_0 k (j1 := 0) st0 rfl rfl rfl rfl Rp0 rfl H
theorem F98 (k : Nat) : S98 k := by
 intro p0 bA bC p1 w0 h0 hh Rp0 r H
 unfold m98 at H
 refine aO (fn := Try.f98) Try.func98 rfl (Nat.le_of_ble_eq_true rfl) ?_
 show Run X98 [.code c98_0] (fun t => List.getD [.slice bA p0.length bC,I p1] t undef) w0 (.fn (Q98 w0 h0 r))
 have st0 := St.init hh noM
 refine aB e98_0<|aA e98_1<|vv rfl (aC (.bool false) rfl)<|aD<|aB e98_2<|aA e98_3<|vv rfl (aE (.slice bA p0.length bC) rfl)<|vv rfl (aE (I p1) rfl) ?_
 obtain ⟨r1,hr1,H⟩ := aK H
 refine aU [.slice bA p0.length bC,I p1] en101 rfl rfl rfl (F101 k st0.has Rp0 hr1) ?_
 rintro _ w1 ⟨h1,rfl,sp1⟩
 have st1 := st0.call0 sp1
 refine vv rfl (aP .geq .i64 r1 0 (.bool (decide (0 ≤ r1))) 3 3 rfl rfl rfl)<|vv rfl (aC (.bool (decide (0 ≤ r1))) rfl)<|aD ?_
 cases H
 exact aJ e98_4 (cG Try.results98 rfl ⟨h1,rfl,st1⟩)
theorem F99 : S99 := by
 intro p0 p1 w0 h0 hh r H
 unfold m99 at H
 refine aO (fn := Try.f99) Try.func99 rfl (Nat.le_of_ble_eq_true rfl) ?_
 show Run X99 [.code c99_0] (fun t => List.getD [.int .u64 p0,.int .u64 p1] t undef) w0 (.fn (Q99 w0 h0 r))
 have st0 := St.init hh noM
 refine aB e99_0<|aA e99_1<|vv rfl (aC (.int .u64 0) rfl)<|vv rfl (aC (.int .u64 0) rfl)<|aD<|aB e99_2<|aA e99_3<|vv rfl (aE (.int .u64 p0) rfl)<|vv rfl (aP .and .u64 p0 4294967295 (.int .u64 (bQ p0 4294967295)) 158 158 rfl rfl rfl)<|vv rfl (aC (.int .u64 (bQ p0 4294967295)) rfl) ?_
 refine aD<|aB e99_4<|aA e99_5<|vv rfl (aE (.int .u64 p0) rfl)<|vv rfl (x_shr .u64 .u64 p0 32 (.int .u64 (Int.fdiv p0 4294967296)) 158 163 rfl rfl (by decide) rfl)<|vv rfl (aC (.int .u64 (Int.fdiv p0 4294967296)) rfl)<|aD<|aB e99_6<|aA e99_7<|vv rfl (aE (.int .u64 p1) rfl) ?_
 refine vv rfl (aP .and .u64 p1 4294967295 (.int .u64 (bQ p1 4294967295)) 158 158 rfl rfl rfl)<|vv rfl (aC (.int .u64 (bQ p1 4294967295)) rfl)<|aD<|aB e99_8<|aA e99_9<|vv rfl (aE (.int .u64 p1) rfl)<|vv rfl (x_shr .u64 .u64 p1 32 (.int .u64 (Int.fdiv p1 4294967296)) 158 163 rfl rfl (by decide) rfl)<|vv rfl (aC (.int .u64 (Int.fdiv p1 4294967296)) rfl)<|aD<|aB e99_10 ?_
 refine aA e99_11<|vv rfl (aE (.int .u64 (bQ p0 4294967295)) rfl)<|vv rfl (aE (.int .u64 (bQ p1 4294967295)) rfl)<|vv rfl (aP .mul .u64 (bQ p0 4294967295) (bQ p1 4294967295) (.int .u64 (bR ((bQ p0 4294967295) * (bQ p1 4294967295)))) 158 158 rfl rfl rfl)<|vv rfl (aC (.int .u64 (bR ((bQ p0 4294967295) * (bQ p1 4294967295)))) rfl)<|aD<|aB e99_12<|aA e99_13<|vv rfl (aE (.int .u64 (Int.fdiv p0 4294967296)) rfl)<|vv rfl (aE (.int .u64 (bQ p1 4294967295)) rfl) ?_
 refine vv rfl (aP .mul .u64 (Int.fdiv p0 4294967296) (bQ p1 4294967295) (.int .u64 (bR ((Int.fdiv p0 4294967296) * (bQ p1 4294967295)))) 158 158 rfl rfl rfl)<|vv rfl (aE (.int .u64 (bR ((bQ p0 4294967295) * (bQ p1 4294967295)))) rfl)<|vv rfl (x_shr .u64 .u64 (bR ((bQ p0 4294967295) * (bQ p1 4294967295))) 32 (.int .u64 (Int.fdiv (bR ((bQ p0 4294967295) * (bQ p1 4294967295))) 4294967296)) 158 163 rfl rfl (by decide) rfl)<|vv rfl (aP .add .u64 (bR ((Int.fdiv p0 4294967296) * (bQ p1 4294967295))) (Int.fdiv (bR ((bQ p0 4294967295) * (bQ p1 4294967295))) 4294967296) (.int .u64 (bR ((bR ((Int.fdiv p0 4294967296) * (bQ p1 4294967295))) + (Int.fdiv (bR ((bQ p0 4294967295) * (bQ p1 4294967295))) 4294967296)))) 158 158 rfl rfl rfl)<|vv rfl (aC (.int .u64 (bR ((bR ((Int.fdiv p0 4294967296) * (bQ p1 4294967295))) + (Int.fdiv (bR ((bQ p0 4294967295) * (bQ p1 4294967295))) 4294967296)))) rfl)<|aD<|aB e99_14<|aA e99_15<|vv rfl (aE (.int .u64 (bR ((bR ((Int.fdiv p0 4294967296) * (bQ p1 4294967295))) + (Int.fdiv (bR ((bQ p0 4294967295) * (bQ p1 4294967295))) 4294967296)))) rfl)<|vv rfl (aP .and .u64 (bR ((bR ((Int.fdiv p0 4294967296) * (bQ p1 4294967295))) + (Int.fdiv (bR ((bQ p0 4294967295) * (bQ p1 4294967295))) 4294967296))) 4294967295 (.int .u64 (bQ (bR ((bR ((Int.fdiv p0 4294967296) * (bQ p1 4294967295))) + (Int.fdiv (bR ((bQ p0 4294967295) * (bQ p1 4294967295))) 4294967296))) 4294967295)) 158 158 rfl rfl rfl) ?_
 refine vv rfl (aC (.int .u64 (bQ (bR ((bR ((Int.fdiv p0 4294967296) * (bQ p1 4294967295))) + (Int.fdiv (bR ((bQ p0 4294967295) * (bQ p1 4294967295))) 4294967296))) 4294967295)) rfl)<|aD<|aB e99_16<|aA e99_17<|vv rfl (aE (.int .u64 (bR ((bR ((Int.fdiv p0 4294967296) * (bQ p1 4294967295))) + (Int.fdiv (bR ((bQ p0 4294967295) * (bQ p1 4294967295))) 4294967296)))) rfl)<|vv rfl (x_shr .u64 .u64 (bR ((bR ((Int.fdiv p0 4294967296) * (bQ p1 4294967295))) + (Int.fdiv (bR ((bQ p0 4294967295) * (bQ p1 4294967295))) 4294967296))) 32 (.int .u64 (Int.fdiv (bR ((bR ((Int.fdiv p0 4294967296) * (bQ p1 4294967295))) + (Int.fdiv (bR ((bQ p0 4294967295) * (bQ p1 4294967295))) 4294967296))) 4294967296)) 158 163 rfl rfl (by decide) rfl)<|vv rfl (aC (.int .u64 (Int.fdiv (bR ((bR ((Int.fdiv p0 4294967296) * (bQ p1 4294967295))) + (Int.fdiv (bR ((bQ p0 4294967295) * (bQ p1 4294967295))) 4294967296))) 4294967296)) rfl)<|aD<|aB e99_18<|aA e99_19 ?_
 refine vv rfl (aE (.int .u64 (bQ (bR ((bR ((Int.fdiv p0 4294967296) * (bQ p1 4294967295))) + (Int.fdiv (bR ((bQ p0 4294967295) * (bQ p1 4294967295))) 4294967296))) 4294967295)) rfl)<|vv rfl (aE (.int .u64 (bQ p0 4294967295)) rfl)<|vv rfl (aE (.int .u64 (Int.fdiv p1 4294967296)) rfl)<|vv rfl (aP .mul .u64 (bQ p0 4294967295) (Int.fdiv p1 4294967296) (.int .u64 (bR ((bQ p0 4294967295) * (Int.fdiv p1 4294967296)))) 158 158 rfl rfl rfl)<|vv rfl (aP .add .u64 (bQ (bR ((bR ((Int.fdiv p0 4294967296) * (bQ p1 4294967295))) + (Int.fdiv (bR ((bQ p0 4294967295) * (bQ p1 4294967295))) 4294967296))) 4294967295) (bR ((bQ p0 4294967295) * (Int.fdiv p1 4294967296))) (.int .u64 (bR ((bQ (bR ((bR ((Int.fdiv p0 4294967296) * (bQ p1 4294967295))) + (Int.fdiv (bR ((bQ p0 4294967295) * (bQ p1 4294967295))) 4294967296))) 4294967295) + (bR ((bQ p0 4294967295) * (Int.fdiv p1 4294967296)))))) 158 158 rfl rfl rfl)<|vv rfl (aC (.int .u64 (bR ((bQ (bR ((bR ((Int.fdiv p0 4294967296) * (bQ p1 4294967295))) + (Int.fdiv (bR ((bQ p0 4294967295) * (bQ p1 4294967295))) 4294967296))) 4294967295) + (bR ((bQ p0 4294967295) * (Int.fdiv p1 4294967296)))))) rfl)<|aD<|aB e99_20<|aA e99_21<|vv rfl (aE (.int .u64 (Int.fdiv p0 4294967296)) rfl) ?_
 refine vv rfl (aE (.int .u64 (Int.fdiv p1 4294967296)) rfl)<|vv rfl (aP .mul .u64 (Int.fdiv p0 4294967296) (Int.fdiv p1 4294967296) (.int .u64 (bR ((Int.fdiv p0 4294967296) * (Int.fdiv p1 4294967296)))) 158 158 rfl rfl rfl)<|vv rfl (aE (.int .u64 (Int.fdiv (bR ((bR ((Int.fdiv p0 4294967296) * (bQ p1 4294967295))) + (Int.fdiv (bR ((bQ p0 4294967295) * (bQ p1 4294967295))) 4294967296))) 4294967296)) rfl)<|vv rfl (aP .add .u64 (bR ((Int.fdiv p0 4294967296) * (Int.fdiv p1 4294967296))) (Int.fdiv (bR ((bR ((Int.fdiv p0 4294967296) * (bQ p1 4294967295))) + (Int.fdiv (bR ((bQ p0 4294967295) * (bQ p1 4294967295))) 4294967296))) 4294967296) (.int .u64 (bR ((bR ((Int.fdiv p0 4294967296) * (Int.fdiv p1 4294967296))) + (Int.fdiv (bR ((bR ((Int.fdiv p0 4294967296) * (bQ p1 4294967295))) + (Int.fdiv (bR ((bQ p0 4294967295) * (bQ p1 4294967295))) 4294967296))) 4294967296)))) 158 158 rfl rfl rfl)<|vv rfl (aE (.int .u64 (bR ((bQ (bR ((bR ((Int.fdiv p0 4294967296) * (bQ p1 4294967295))) + (Int.fdiv (bR ((bQ p0 4294967295) * (bQ p1 4294967295))) 4294967296))) 4294967295) + (bR ((bQ p0 4294967295) * (Int.fdiv p1 4294967296)))))) rfl)<|vv rfl (x_shr .u64 .u64 (bR ((bQ (bR ((bR ((Int.fdiv p0 4294967296) * (bQ p1 4294967295))) + (Int.fdiv (bR ((bQ p0 4294967295) * (bQ p1 4294967295))) 4294967296))) 4294967295) + (bR ((bQ p0 4294967295) * (Int.fdiv p1 4294967296))))) 32 (.int .u64 (Int.fdiv (bR ((bQ (bR ((bR ((Int.fdiv p0 4294967296) * (bQ p1 4294967295))) + (Int.fdiv (bR ((bQ p0 4294967295) * (bQ p1 4294967295))) 4294967296))) 4294967295) + (bR ((bQ p0 4294967295) * (Int.fdiv p1 4294967296))))) 4294967296)) 158 163 rfl rfl (by decide) rfl)<|vv rfl (aP .add .u64 (bR ((bR ((Int.fdiv p0 4294967296) * (Int.fdiv p1 4294967296))) + (Int.fdiv (bR ((bR ((Int.fdiv p0 4294967296) * (bQ p1 4294967295))) + (Int.fdiv (bR ((bQ p0 4294967295) * (bQ p1 4294967295))) 4294967296))) 4294967296))) (Int.fdiv (bR ((bQ (bR ((bR ((Int.fdiv p0 4294967296) * (bQ p1 4294967295))) + (Int.fdiv (bR ((bQ p0 4294967295) * (bQ p1 4294967295))) 4294967296))) 4294967295) + (bR ((bQ p0 4294967295) * (Int.fdiv p1 4294967296))))) 4294967296) (.int .u64 (bR ((bR ((bR ((Int.fdiv p0 4294967296) * (Int.fdiv p1 4294967296))) + (Int.fdiv (bR ((bR ((Int.fdiv p0 4294967296) * (bQ p1 4294967295))) + (Int.fdiv (bR ((bQ p0 4294967295) * (bQ p1 4294967295))) 4294967296))) 4294967296))) + (Int.fdiv (bR ((bQ (bR ((bR ((Int.fdiv p0 4294967296) * (bQ p1 4294967295))) + (Int.fdiv (bR ((bQ p0 4294967295) * (bQ p1 4294967295))) 4294967296))) 4294967295) + (bR ((bQ p0 4294967295) * (Int.fdiv p1 4294967296))))) 4294967296)))) 158 158 rfl rfl rfl)<|vv rfl (aC (.int .u64 (bR ((bR ((bR ((Int.fdiv p0 4294967296) * (Int.fdiv p1 4294967296))) + (Int.fdiv (bR ((bR ((Int.fdiv p0 4294967296) * (bQ p1 4294967295))) + (Int.fdiv (bR ((bQ p0 4294967295) * (bQ p1 4294967295))) 4294967296))) 4294967296))) + (Int.fdiv (bR ((bQ (bR ((bR ((Int.fdiv p0 4294967296) * (bQ p1 4294967295))) + (Int.fdiv (bR ((bQ p0 4294967295) * (bQ p1 4294967295))) 4294967296))) 4294967295) + (bR ((bQ p0 4294967295) * (Int.fdiv p1 4294967296))))) 4294967296)))) rfl)<|aD<|aB e99_22 ?_
 refine aA e99_23<|vv rfl (aE (.int .u64 p0) rfl)<|vv rfl (aE (.int .u64 p1) rfl)<|vv rfl (aP .mul .u64 p0 p1 (.int .u64 (bR (p0 * p1))) 158 158 rfl rfl rfl)<|vv rfl (aC (.int .u64 (bR (p0 * p1))) rfl)<|aD ?_
 cases H
 exact aJ e99_24 (eK Try.results99 rfl rfl ⟨h0,rfl,st0⟩)
abbrev ZSLl93_0 (k : Nat) : Prop := SLl93_0 k
theorem SLl93_0_z : SLl93_0 0 := by
  unfold SLl93_0; intros; rename_i H; exact absurd H (by simp [l93_0])
theorem SLl93_0_s (k : Nat) (ih : ZSLl93_0 k) : SLl93_0 (k + 1) := by
 intro p0 bA bC j3 w0 w h0 h σ i1 xs1 r st s4 s18 s19 s20 R1 hd1 H
 cases xs1 with
 | nil =>
  rw [l93_0] at H
  have hk1 := cV hd1
  refine aB e93_25<|aA e93_26<|vv rfl (aP .lss .i64 (j3 : Int) (p0.length : Int) (.bool (decide ((j3 : Int) < (p0.length : Int)))) 3 3 s20 s19 rfl)<|aD<|aB e93_27<|fa e93_28 hk1 rfl<|bM e93_30 rfl<|aB e93_47<|aA e93_48<|vv rfl (aE (.int .u64 i1) s4) ?_
  refine vv rfl (x_conv .u64 .i64 i1 u3 u158 rfl)<|vv rfl (aC (I (wr (i1))) rfl)<|vv rfl (aC (I 0) rfl)<|aD ?_
  cases H
  exact aJ e93_49 (eK Try.results93 rfl rfl ⟨h,rfl,st⟩)
 | cons x1 xs2 =>
  rw [l93_0] at H
  obtain ⟨hk2,hj1,hx1,hd2⟩ := cL hd1
  refine aB e93_25<|aA e93_26<|vv rfl (aP .lss .i64 (j3 : Int) (p0.length : Int) (.bool (decide ((j3 : Int) < (p0.length : Int)))) 3 3 s20 s19 rfl)<|aD<|aB e93_27<|tr e93_28 hk2 rfl<|aM e93_29<|aB e93_31<|aT e93_32<|aB e93_33 ?_
  refine aA e93_34 ?_
  obtain ⟨b1,o1,vs1,ea1,rp1,cl1⟩ := SlR.at R1 hx1
  obtain rfl := rp1
  refine vv rfl (aX u43 sz3 s18 s20 ea1 (Int.natCast_nonneg _) (Int.ofNat_lt.2 hj1))<|vv rfl (aL (I x1) sc3 rfl (((cl1 _ (Has.le (Le.refl _) st.has)) 0 (by decide)).trans rfl))<|vv rfl (aC (I x1) rfl)<|aD<|aB e93_35<|aA e93_36<|vv rfl (aE (.int .u64 i1) s4)<|vv rfl (aE (I x1) rfl)<|vv rfl (x_conv .i64 .u64 x1 u158 u3 rfl) ?_
  obtain ⟨r3,hr3,H⟩ := aK H
  refine aU [.int .u64 i1,.int .u64 (bR (x1))] en99 rfl rfl rfl (F99 st.has hr3) ?_
  rintro _ w3 ⟨h3,rfl,sp3⟩
  have st3 := st.call0 sp3
  refine vv rfl (aE (.tuple #[.int .u64 r3.1,.int .u64 r3.2]) rfl)<|vv rfl (bJ (.int .u64 r3.1) rfl rfl)<|vv rfl (bJ (.int .u64 r3.2) rfl rfl)<|vv rfl (aC (.int .u64 r3.1) rfl)<|vv rfl (aC (.int .u64 r3.2) rfl)<|aD<|aB e93_37<|aB e93_38<|aA e93_39<|vv rfl (aE (.int .u64 r3.1) rfl) ?_
  refine vv rfl (aP .gtr .u64 r3.1 0 (.bool (decide (0 < r3.1))) 158 158 rfl rfl rfl)<|vv rfl (aE (.bool (decide (0 < r3.1))) rfl) ?_
  rcases aN H with ⟨hc4,H⟩ | ⟨hc4,H⟩
  · refine aR (wf2 (dT hc4) rfl) rfl<|aR (wf2 (dT hc4) rfl) rfl<|vv rfl (dH (.bool true) (dT hc4) rfl rfl)<|aD<|cQ e93_40 (p := true) rfl rfl<|aB e93_41<|aA e93_42<|vv rfl (aC (I 0) rfl)<|vv rfl (aC (I 2) rfl)<|aD ?_
    cases H
    exact aJ e93_43 (eK Try.results93 rfl rfl ⟨h3,rfl,st3⟩)
  refine aZ (wt2 (dF hc4) rfl) rfl (aE (.int .u64 r3.2) rfl)<|aZ (wt2 (dF hc4) rfl) rfl (aP .geq .u64 r3.2 4611686018427387904 (.bool (decide (4611686018427387904 ≤ r3.2))) 158 158 rfl rfl rfl)<|vv rfl (dI (.bool (decide (4611686018427387904 ≤ r3.2))) (dF hc4) rfl rfl)<|aD ?_
  rcases aN H with ⟨hc5,H⟩ | ⟨hc5,H⟩
  · refine tr e93_40 (dT hc5) rfl<|aB e93_41<|aA e93_42<|vv rfl (aC (I 0) rfl)<|vv rfl (aC (I 2) rfl)<|aD ?_
    cases H
    exact aJ e93_43 (eK Try.results93 rfl rfl ⟨h3,rfl,st3⟩)
  refine fa e93_40 (dF hc5) rfl<|aM e93_44<|aA e93_45<|vv rfl (aE (.int .u64 r3.2) rfl)<|vv rfl (aC (.int .u64 r3.2) rfl)<|aD<|aW<|aA e93_46<|vv rfl (aP .add .i64 (j3 : Int) 1 (I ((j3 + 1 : Nat) : Int)) 3 3 s20 rfl (dL hj1 (SlR.mono sp3.le R1).mx))<|vv rfl (aE (I ((j3 + 1 : Nat) : Int)) rfl) ?_
  refine aD<|bF ?_
  exact ih (j3 := (j3 + 1)) st3 rfl s18 s19 rfl (SlR.mono sp3.le R1) hd2 H
theorem ZSLl93_0_all : ∀ k,ZSLl93_0 k
  | 0 => SLl93_0_z
  | k + 1 => SLl93_0_s k (ZSLl93_0_all k)
theorem Fl93_0 (k : Nat) : SLl93_0 k := (ZSLl93_0_all k)
theorem F93 (k : Nat) : S93 k := by
 intro p0 bA bC w0 h0 hh Rp0 r H
 unfold m93 at H
 refine aO (fn := Try.f93) Try.func93 rfl (Nat.le_of_ble_eq_true rfl) ?_
 show Run X93 [.code c93_0] (fun t => List.getD [.slice bA p0.length bC] t undef) w0 (.fn (Q93 w0 h0 r))
 have st0 := St.init hh noM
 refine aB e93_0<|aA e93_1<|vv rfl (aC (I 0) rfl)<|vv rfl (aC (I 0) rfl)<|aD<|aB e93_2<|aB e93_3<|aA e93_4<|vv rfl (aE (.slice bA p0.length bC) rfl)<|vv rfl (bN u43 rfl) ?_
 refine vv rfl (aP .gtr .i64 (p0.length : Int) 4 (.bool (decide (4 < (p0.length : Int)))) 3 3 rfl rfl rfl)<|vv rfl (aE (.bool (decide (4 < (p0.length : Int)))) rfl) ?_
 rcases aN H with ⟨hc1,H⟩ | ⟨hc1,H⟩
 · refine aR (wf2 (dT hc1) rfl) rfl<|aR (wf2 (dT hc1) rfl) rfl<|vv rfl (dH (.bool true) (dT hc1) rfl rfl)<|aD<|cQ e93_5 (p := true) rfl rfl<|aB e93_6<|aA e93_7<|vv rfl (aC (I 0) rfl)<|vv rfl (aC (I 1) rfl)<|aD ?_
   cases H
   exact aJ e93_8 (eK Try.results93 rfl rfl ⟨h0,rfl,st0⟩)
 refine aZ (wt2 (dF hc1) rfl) rfl (aE (.slice bA p0.length bC) rfl) ?_
 obtain ⟨r1,hr1,H⟩ := aK H
 refine aU [.slice bA p0.length bC,.func (.func 97) #[] #[]] en77 (wt2 (dF hc1) rfl) rfl rfl (F77_1 k st0.has Rp0 hr1) ?_
 rintro _ w1 ⟨h1,rfl,sp1⟩
 have st1 := st0.call0 sp1
 refine vv rfl (dI (.bool r1) (dF hc1) rfl rfl)<|aD ?_
 rcases aN H with ⟨hc2,H⟩ | ⟨hc2,H⟩
 · refine tr e93_5 hc2 rfl<|aB e93_6<|aA e93_7<|vv rfl (aC (I 0) rfl)<|vv rfl (aC (I 1) rfl)<|aD ?_
   cases H
   exact aJ e93_8 (eK Try.results93 rfl rfl ⟨h1,rfl,st1⟩)
 refine fa e93_5 (cA hc2) rfl<|aM e93_9<|aB e93_10<|aB e93_11<|aA e93_12<|vv rfl (aE (.slice bA p0.length bC) rfl) ?_
 obtain ⟨r2,hr2,H⟩ := aK H
 refine aU [.slice bA p0.length bC,I 0] en98 rfl rfl rfl (F98 k st1.has (SlR.mono sp1.le Rp0) hr2) ?_
 rintro _ w2 ⟨h2,rfl,sp2⟩
 have st2 := st1.call0 sp2
 refine aD ?_
 rcases aN H with ⟨hc3,H⟩ | ⟨hc3,H⟩
 · refine tr e93_13 hc3 rfl<|aB e93_14<|aA e93_15<|vv rfl (aC (I 0) rfl)<|vv rfl (aC (I 0) rfl)<|aD ?_
   cases H
   exact aJ e93_16 (eK Try.results93 rfl rfl ⟨h2,rfl,st2⟩)
 refine fa e93_13 (cA hc3) rfl<|aM e93_17<|aB e93_18<|aA e93_19<|vv rfl (aC (.int .u64 1) rfl)<|aD<|aB e93_20<|aB e93_21<|aA e93_22<|vv rfl (aE (.slice bA p0.length bC) rfl) ?_
 refine vv rfl (bN u43 rfl)<|vv rfl (aE (I 0) rfl)<|aD<|aT e93_23<|cB e93_24 ?_
 exact Fl93_0 k (j3 := 0) st2 rfl rfl rfl rfl (SlR.mono (sp1.le.trans sp2.le) Rp0) rfl H
abbrev ZSLl94_0 (k : Nat) : Prop := SLl94_0 k ∧ SLl94_1 k
theorem SLl94_0_z : SLl94_0 0 := by
  unfold SLl94_0; intros; rename_i H; exact absurd H (by simp [l94_0])
theorem SLl94_0_s (k : Nat) (ih : ZSLl94_0 k) : SLl94_0 (k + 1) := by
 intro p0 bA cY bC cZ b1 j1 p1 w0 w h0 h σ b2 b3 b4 b5 i1 i2 i3 i4 i5 xs1 r st s0 s4 s6 s12 s13 s14 R1 M2 lb2 R2 hd1 H
 cases xs1 with
 | nil =>
  rw [l94_0] at H
  have hk1 := cV hd1
  refine aB e94_9<|aA e94_10<|vv rfl (aP .lss .i64 (j1 : Int) (p1.length : Int) (.bool (decide ((j1 : Int) < (p1.length : Int)))) 3 3 s14 s13 rfl)<|aD<|aB e94_11<|fa e94_12 hk1 rfl<|bM e94_14 rfl<|aB e94_70<|aB e94_71<|aA e94_72 ?_
  refine vv rfl (aE (.slice bA p0.length bC) s0)<|vv rfl (bN u43 rfl)<|vv rfl (aE (I 0) rfl)<|aD<|aT e94_73<|cB e94_74 ?_
  exact ih.2 st s4 rfl rfl M2 lb2 H
 | cons x1 xs2 =>
  rw [l94_0] at H
  obtain ⟨hk2,hj1,hx1,hd2⟩ := cL hd1
  refine aB e94_9<|aA e94_10<|vv rfl (aP .lss .i64 (j1 : Int) (p1.length : Int) (.bool (decide ((j1 : Int) < (p1.length : Int)))) 3 3 s14 s13 rfl)<|aD<|aB e94_11<|tr e94_12 hk2 rfl<|aM e94_13<|aB e94_15<|aT e94_16<|aB e94_17 ?_
  refine aA e94_18 ?_
  obtain ⟨b10,o1,vs1,ea1,rp1,cl1⟩ := SlR.at R2 hx1
  obtain rfl := GSpec.out rp1
  refine vv rfl (aX u78 sz137 s12 s14 ea1 (Int.natCast_nonneg _) (Int.ofNat_lt.2 hj1))<|vv rfl (bH [I x1.Kind,I x1.Mode,I x1.Size] ag137 sz137 rfl rfl (cl1 _ (Has.le (Le.refl _) st.has)))<|cF (.agg #[I 0,I 0,I 0]) zr137 rfl rfl (fun b11 w4 al2 => ?_)
  replace al2 : Al _ (.cells (List.toArray [I 0,I 0,I 0]) 137 (0,0)) b11 w4 := al2
  have M6 := Mut.new st al2
  have lb4 := st.alB al2
  have sp4 := al2.st st.has
  have M7 := M2.call0 sp4
  have st4 := st.call0 sp4
  refine aV (o := 0) (n := 3) [I x1.Kind,I x1.Mode,I x1.Size] [I x1.Kind,I x1.Mode,I x1.Size] (.agg #[I x1.Kind,I x1.Mode,I x1.Size]) sz137 rfl rfl rfl rfl M6 rfl rfl rfl rfl rfl (fun w5 wr3 M8 => ?_)
  have sp5 := wr3.st st4.has M6.none
  have M9 := M7.call sp5 (fun e => ((Mut.ne_ty M7 M6 (by decide)) e))
  have st5 := st4.call sp5 (fun x e => (.inl (e ▸ lb4)))
  obtain ⟨h1,le1,g1,st6,kp1⟩ := M8.fz st5 lb4
  have M10 := M9.fr kp1 (Mut.ne_ty M9 M8 (by decide))
  refine aD<|aB e94_19<|aB e94_20<|aA e94_21<|vv rfl (aF (b := b11) (o := 0) fl137_1 rfl)<|vv rfl (aL (I x1.Mode) sc3 rfl ((aQ (st6.has _ _ g1)).trans rfl))<|vv rfl (aP .lss .i64 x1.Mode 0 (.bool (decide (x1.Mode < 0))) 3 3 rfl rfl rfl)<|vv rfl (aE (.bool (decide (x1.Mode < 0))) rfl) ?_
  rcases aN H with ⟨hc3,H⟩ | ⟨hc3,H⟩
  · refine aR (wf2 (dT hc3) rfl) rfl<|aR (wf2 (dT hc3) rfl) rfl<|aR (wf2 (dT hc3) rfl) rfl<|aR (wf2 (dT hc3) rfl) rfl<|aR (wf2 (dT hc3) rfl) rfl<|vv rfl (dH (.bool true) (dT hc3) rfl rfl)<|aD<|cQ e94_22 (p := true) rfl rfl<|aB e94_23<|aA e94_24 ?_
    refine vv rfl (bH [.bool b2,I i1,.bool b3,I i2,.bool b4,I i3,.bool b5,I i4] ag154 sz154 s4 rfl (aY M10.get rfl))<|aV (o := 0) (n := 8) [.bool b2,I i1,.bool b3,I i2,.bool b4,I i3,.bool b5,I i4] [.bool b2,I i1,.bool b3,I i2,.bool b4,I i3,.bool b5,I i4] (.agg #[.bool b2,I i1,.bool b3,I i2,.bool b4,I i3,.bool b5,I i4]) sz154 rfl rfl s4 rfl M10 rfl rfl rfl rfl rfl (fun w6 wr4 M11 => ?_)
    have sp6 := wr4.st st6.has M10.none
    have st7 := st6.call sp6 (fun x e => (.inl (e ▸ lb2)))
    refine vv rfl (aC (.bool false) rfl)<|aD ?_
    cases H
    exact aJ e94_25 (eK Try.results94 (eI [.bool b2,I i1,.bool b3,I i2,.bool b4,I i3,.bool b5,I i4] ag154 sz154 s4 rfl (aY M11.get rfl)) rfl ⟨h1,rfl,st7⟩)
  refine aZ (wt2 (dF hc3) rfl) rfl (aF (b := b11) (o := 0) fl137_1 rfl)<|aZ (wt2 (dF hc3) rfl) rfl (aL (I x1.Mode) sc3 rfl ((aQ (st6.has _ _ g1)).trans rfl))<|aZ (wt2 (dF hc3) rfl) rfl (aE (.slice bA p0.length bC) s0)<|aZ (wt2 (dF hc3) rfl) rfl (bN u43 rfl)<|aZ (wt2 (dF hc3) rfl) rfl (aP .geq .i64 x1.Mode (p0.length : Int) (.bool (decide ((p0.length : Int) ≤ x1.Mode))) 3 3 rfl rfl rfl)<|vv rfl (dI (.bool (decide ((p0.length : Int) ≤ x1.Mode))) (dF hc3) rfl rfl)<|aD ?_
  rcases aN H with ⟨hc4,H⟩ | ⟨hc4,H⟩
  · refine tr e94_22 (dT hc4) rfl<|aB e94_23<|aA e94_24<|vv rfl (bH [.bool b2,I i1,.bool b3,I i2,.bool b4,I i3,.bool b5,I i4] ag154 sz154 s4 rfl (aY M10.get rfl))<|aV (o := 0) (n := 8) [.bool b2,I i1,.bool b3,I i2,.bool b4,I i3,.bool b5,I i4] [.bool b2,I i1,.bool b3,I i2,.bool b4,I i3,.bool b5,I i4] (.agg #[.bool b2,I i1,.bool b3,I i2,.bool b4,I i3,.bool b5,I i4]) sz154 rfl rfl s4 rfl M10 rfl rfl rfl rfl rfl (fun w7 wr5 M12 => ?_)
    have sp7 := wr5.st st6.has M10.none
    have st8 := st6.call sp7 (fun x e => (.inl (e ▸ lb2)))
    refine vv rfl (aC (.bool false) rfl)<|aD ?_
    cases H
    exact aJ e94_25 (eK Try.results94 (eI [.bool b2,I i1,.bool b3,I i2,.bool b4,I i3,.bool b5,I i4] ag154 sz154 s4 rfl (aY M12.get rfl)) rfl ⟨h1,rfl,st8⟩)
  refine fa e94_22 (dF hc4) rfl<|aM e94_26<|aB e94_27<|aA e94_28 ?_
  obtain ⟨j5,hj5,H⟩ := dE H
  have Jj5 : ∀ {y1 : Bool} {σ1 : Env} {w8 : World} {h2 : Sto},Le h1 h2 → St w0 noM h0 h2 w8 → σ1 0 = .slice bA p0.length bC → σ1 4 = .pointer (some ⟨b1,0,none⟩) → σ1 8 = .pointer (some ⟨b11,0,none⟩) → σ1 9 = .bool y1 → σ1 12 = .slice cY p1.length cZ → σ1 13 = I (p1.length : Int) → σ1 14 = I (j1 : Int) → SlR h2 bA bC p0 → SlR h2 cY cZ p1 → Mut h2 w8 b1 (.cells (List.toArray [.bool b2,I i1,.bool b3,I i2,.bool b4,I i3,.bool b5,I i4]) 154 (0,0)) → j5 y1 = some r → Run X94 [.code c94_29,.inBlock 1,.code c94_69,.inLoop c94_9,.inBlock 0,.code c94_70] σ1 w8 (.fn (Q94 w0 h0 r)) := by
   intro y1 σ1 w8 h2 le2 st9 s0_j5 s4_j5 s8_j5 s9_j5 s12_j5 s13_j5 s14_j5 R3 R4 M13 H
   rw [hj5] at H
   refine aB e94_29<|aA e94_30<|vv rfl (aF (b := b11) (o := 0) fl137_1 s8_j5)<|vv rfl (aL (I x1.Mode) sc3 rfl ((aQ (st9.has _ _ (le2 _ _ g1))).trans rfl)) ?_
   obtain ⟨hs2,H⟩ := cD H
   refine vv rfl (x_indexAddrA (i := (x1.Mode : Int).toNat) u154 sz152 s4_j5 rfl (Int.toNat_of_nonneg hs2.1).symm (tn_lt (n := 4) hs2.1 hs2.2))<|vv rfl (aC (.pointer (some ⟨b1,0 + (x1.Mode : Int).toNat * 2,none⟩)) rfl)<|aD<|aB e94_31<|aB e94_32<|aA e94_33<|vv rfl (aF (b := b11) (o := 0) fl137_0 s8_j5)<|vv rfl (aL (I x1.Kind) sc3 rfl ((aQ (st9.has _ _ (le2 _ _ g1))).trans rfl))<|aD<|aT e94_34 ?_
   refine aB e94_35<|aB e94_36<|aA e94_37<|vv rfl (aP .eql .i64 x1.Kind 0 (.bool (decide (x1.Kind = 0))) 3 3 rfl rfl rfl)<|vv rfl (aC (.bool (decide (x1.Kind = 0))) rfl)<|aD ?_
   obtain ⟨j6,hj6,H⟩ := dE H
   have Jj6 : ∀ {y25 y26 y28 y30 y32 : Bool} {y27 y29 y31 y33 : Int} {σ9 : Env} {w22 : World} {h10 : Sto},Le h2 h10 → St w0 noM h0 h10 w22 → σ9 0 = .slice bA p0.length bC → σ9 4 = .pointer (some ⟨b1,0,none⟩) → σ9 5 = .bool y25 → σ9 8 = .pointer (some ⟨b11,0,none⟩) → σ9 12 = .slice cY p1.length cZ → σ9 13 = I (p1.length : Int) → σ9 14 = I (j1 : Int) → SlR h10 bA bC p0 → SlR h10 cY cZ p1 → Mut h10 w22 b1 (.cells (List.toArray [.bool y26,I y27,.bool y28,I y29,.bool y30,I y31,.bool y32,I y33]) 154 (0,0)) → j6 y25 y26 y27 y28 y29 y30 y31 y32 y33 = some r → Run X94 [.inBlock 2,.code c94_60,.inBlock 1,.code c94_69,.inLoop c94_9,.inBlock 0,.code c94_70] σ9 w22 (.fn (Q94 w0 h0 r)) := by
    intro y25 y26 y28 y30 y32 y27 y29 y31 y33 σ9 w22 h10 le10 st23 s0_j6 s4_j6 s5_j6 s8_j6 s12_j6 s13_j6 s14_j6 R19 R20 M27 H
    rw [hj6] at H
    refine aW<|aB e94_60<|aB e94_61<|aA e94_62<|vv rfl (aE (.bool y25) s5_j6)<|vv rfl (eA y25 4 rfl)<|aD ?_
    rcases aN H with ⟨hc23,H⟩ | ⟨hc23,H⟩
    · refine fa e94_63 (bL hc23) rfl<|aM e94_67<|aA e94_68<|vv rfl (aF (b := b11) (o := 0) fl137_0 s8_j6)<|vv rfl (aL (I x1.Kind) sc3 rfl ((aQ (st23.has _ _ ((le2.trans le10) _ _ g1))).trans rfl))<|vv rfl (aC (I x1.Kind) rfl)<|aD<|aW<|aA e94_69<|vv rfl (aP .add .i64 (j1 : Int) 1 (I ((j1 + 1 : Nat) : Int)) 3 3 s14_j6 rfl (dL hj1 R20.mx)) ?_
      refine vv rfl (aE (I ((j1 + 1 : Nat) : Int)) rfl)<|aD<|bF ?_
      exact ih.1 (j1 := (j1 + 1)) st23 s0_j6 s4_j6 rfl s12_j6 s13_j6 rfl R19 M27 lb2 R20 hd2 H
    refine tr e94_63 (bK (cA hc23)) rfl<|aB e94_64<|aA e94_65<|vv rfl (bH [.bool y26,I y27,.bool y28,I y29,.bool y30,I y31,.bool y32,I y33] ag154 sz154 s4_j6 rfl (aY M27.get rfl))<|aV (o := 0) (n := 8) [.bool y26,I y27,.bool y28,I y29,.bool y30,I y31,.bool y32,I y33] [.bool y26,I y27,.bool y28,I y29,.bool y30,I y31,.bool y32,I y33] (.agg #[.bool y26,I y27,.bool y28,I y29,.bool y30,I y31,.bool y32,I y33]) sz154 rfl rfl s4_j6 rfl M27 rfl rfl rfl rfl rfl (fun w23 wr11 M28 => ?_)
    have sp14 := wr11.st st23.has M27.none
    have st24 := st23.call sp14 (fun x e => (.inl (e ▸ lb2)))
    refine vv rfl (aC (.bool false) rfl)<|aD ?_
    cases H
    exact aJ e94_66 (eK Try.results94 (eI [.bool y26,I y27,.bool y28,I y29,.bool y30,I y31,.bool y32,I y33] ag154 sz154 s4_j6 rfl (aY M28.get rfl)) rfl ⟨h10,rfl,st24⟩)
   rcases aN H with ⟨hc6,H⟩ | ⟨hc6,H⟩
   · refine tr e94_38 (dT hc6) rfl<|aM e94_39<|tr e94_49 (dT hc6) rfl<|aB e94_50<|aA e94_51 ?_
     obtain ⟨j7,hj7,H⟩ := dE H
     have Jj7 : ∀ {y2 : Bool} {σ2 : Env} {w9 : World} {h3 : Sto},Le h2 h3 → St w0 noM h0 h3 w9 → σ2 0 = .slice bA p0.length bC → σ2 4 = .pointer (some ⟨b1,0,none⟩) → σ2 5 = .bool y2 → σ2 8 = .pointer (some ⟨b11,0,none⟩) → σ2 10 = .pointer (some ⟨b1,0 + (x1.Mode : Int).toNat * 2,none⟩) → σ2 12 = .slice cY p1.length cZ → σ2 13 = I (p1.length : Int) → σ2 14 = I (j1 : Int) → SlR h3 bA bC p0 → SlR h3 cY cZ p1 → Mut h3 w9 b1 (.cells (List.toArray [.bool b2,I i1,.bool b3,I i2,.bool b4,I i3,.bool b5,I i4]) 154 (0,0)) → j7 y2 = some r → Run X94 [.code c94_52,.inBlock 2,.code c94_60,.inBlock 1,.code c94_69,.inLoop c94_9,.inBlock 0,.code c94_70] σ2 w9 (.fn (Q94 w0 h0 r)) := by
      intro y2 σ2 w9 h3 le3 st10 s0_j7 s4_j7 s5_j7 s8_j7 s10_j7 s12_j7 s13_j7 s14_j7 R5 R6 M14 H
      rw [hj7] at H
      refine aA e94_52<|vv rfl (aE (.pointer (some ⟨b1,0 + (x1.Mode : Int).toNat * 2,none⟩)) s10_j7)<|vv rfl (bG ⟨b1,0 + (x1.Mode : Int).toNat * 2,none⟩ rfl)<|vv rfl (aF (b := b1) (o := 0 + (x1.Mode : Int).toNat * 2) fl152_0 rfl)<|aV (o := 0 + (x1.Mode : Int).toNat * 2 + 0) (n := 1) [.bool true] [.bool (if (x1.Mode : Int).toNat = 0 then true else b2),I i1,.bool (if (x1.Mode : Int).toNat = 1 then true else b3),I i2,.bool (if (x1.Mode : Int).toNat = 2 then true else b4),I i3,.bool (if (x1.Mode : Int).toNat = 3 then true else b5),I i4] (.bool true) sz4 rfl rfl rfl rfl M14 rfl rfl rfl (by have hq_ := (tn_lt (n := 4) hs2.1 hs2.2); generalize (x1.Mode : Int).toNat = q_ at hq_ ⊢; match q_,hq_ with | 0,_ => rfl | 1,_ => rfl | 2,_ => rfl | 3,_ => rfl | n_ + 4,h_ => exact absurd h_ (by omega)) (by have hq_ := (tn_lt (n := 4) hs2.1 hs2.2); generalize (x1.Mode : Int).toNat = q_ at hq_ ⊢; match q_,hq_ with | 0,_ => rfl | 1,_ => rfl | 2,_ => rfl | 3,_ => rfl | n_ + 4,h_ => exact absurd h_ (by omega)) (fun w10 wr6 M15 => ?_)
      have sp8 := wr6.st st10.has M14.none
      have st11 := st10.call sp8 (fun x e => (.inl (e ▸ lb2)))
      refine aD ?_
      exact Jj6 le3 st11 s0_j7 s4_j7 s5_j7 s8_j7 s12_j7 s13_j7 s14_j7 R5 R6 M15 H
     refine vv rfl (aE (.pointer (some ⟨b1,0 + (x1.Mode : Int).toNat * 2,none⟩)) rfl)<|vv rfl (bG ⟨b1,0 + (x1.Mode : Int).toNat * 2,none⟩ rfl)<|vv rfl (aF (b := b1) (o := 0 + (x1.Mode : Int).toNat * 2) fl152_0 rfl)<|vv rfl (aL (.bool (([b2,b3,b4,b5] : List Bool).getD (x1.Mode : Int).toNat false)) sc4 rfl ((aQ M13.get).trans (by have hq_ := (tn_lt (n := 4) hs2.1 hs2.2); generalize (x1.Mode : Int).toNat = q_ at hq_ ⊢; match q_,hq_ with | 0,_ => rfl | 1,_ => rfl | 2,_ => rfl | 3,_ => rfl | n_ + 4,h_ => exact absurd h_ (by omega))))<|vv rfl (eA (([b2,b3,b4,b5] : List Bool).getD (x1.Mode : Int).toNat false) 4 rfl)<|vv rfl (aE (.bool (!(([b2,b3,b4,b5] : List Bool).getD (x1.Mode : Int).toNat false))) rfl) ?_
     rcases aN H with ⟨hc7,H⟩ | ⟨hc7,H⟩
     · refine aR (wf2 (bL hc7) rfl) rfl<|aR (wf2 (bL hc7) rfl) rfl<|aR (wf2 (bL hc7) rfl) rfl<|vv rfl (dI (.bool false) (bL hc7) rfl rfl)<|vv rfl (aE (.bool false) rfl)<|aR (wf (p := false) rfl rfl) rfl<|aR (wf (p := false) rfl rfl) rfl<|aR (wf (p := false) rfl rfl) rfl<|aR (wf (p := false) rfl rfl) rfl<|aR (wf (p := false) rfl rfl) rfl ?_
       refine vv rfl (cI (.bool false) (p := false) rfl rfl rfl)<|vv rfl (aC (.bool false) rfl)<|aD ?_
       exact Jj7 (Le.refl _) st9 s0_j5 s4_j5 rfl s8_j5 rfl s12_j5 s13_j5 s14_j5 R3 R4 M13 H
     refine aZ (wt2 (bK (cA hc7)) rfl) rfl (aF (b := b11) (o := 0) fl137_2 s8_j5)<|aZ (wt2 (bK (cA hc7)) rfl) rfl (aL (I x1.Size) sc3 rfl ((aQ (st9.has _ _ (le2 _ _ g1))).trans rfl))<|aZ (wt2 (bK (cA hc7)) rfl) rfl (aP .eql .i64 x1.Size 0 (.bool (decide (x1.Size = 0))) 3 3 rfl rfl rfl)<|vv rfl (dH (.bool (decide (x1.Size = 0))) (bK (cA hc7)) rfl rfl)<|vv rfl (aE (.bool (decide (x1.Size = 0))) rfl) ?_
     rcases aN H with ⟨hc8,H⟩ | ⟨hc8,H⟩
     · refine aZ (wt2 (dT hc8) rfl) rfl (aE (.bool y1) s9_j5)<|aZ (wt2 (dT hc8) rfl) rfl (aF (b := b11) (o := 0) fl137_0 s8_j5)<|aZ (wt2 (dT hc8) rfl) rfl (aL (I x1.Kind) sc3 rfl ((aQ (st9.has _ _ (le2 _ _ g1))).trans rfl))<|aZ (wt2 (dT hc8) rfl) rfl (aP .eql .i64 x1.Kind 3 (.bool (decide (x1.Kind = 3))) 3 3 rfl rfl rfl)<|aZ (wt2 (dT hc8) rfl) rfl (x_boolEq (a := y1) (b := (decide (x1.Kind = 3))) u4 rfl rfl)<|vv rfl (dH (.bool (y1 == (decide (x1.Kind = 3)))) (dT hc8) rfl rfl)<|vv rfl (aC (.bool (y1 == (decide (x1.Kind = 3)))) rfl)<|aD ?_
       exact Jj7 (Le.refl _) st9 s0_j5 s4_j5 rfl s8_j5 rfl s12_j5 s13_j5 s14_j5 R3 R4 M13 H
     refine aR (wf2 (dF hc8) rfl) rfl<|aR (wf2 (dF hc8) rfl) rfl<|aR (wf2 (dF hc8) rfl) rfl<|aR (wf2 (dF hc8) rfl) rfl<|aR (wf2 (dF hc8) rfl) rfl<|vv rfl (dI (.bool false) (dF hc8) rfl rfl)<|vv rfl (aC (.bool false) rfl)<|aD ?_
     exact Jj7 (Le.refl _) st9 s0_j5 s4_j5 rfl s8_j5 rfl s12_j5 s13_j5 s14_j5 R3 R4 M13 H
   refine fa e94_38 (dF hc6) rfl<|aB e94_40<|aA e94_41<|vv rfl (aP .eql .i64 x1.Kind 1 (.bool (decide (x1.Kind = 1))) 3 3 rfl rfl rfl)<|vv rfl (aC (.bool (decide (x1.Kind = 1))) rfl)<|aD ?_
   obtain ⟨j8,hj8,H⟩ := dE H
   have Jj8 : ∀ {y16 y17 y19 y21 y23 : Bool} {y18 y20 y22 y24 : Int} {σ8 : Env} {w21 : World} {h9 : Sto},Le h2 h9 → St w0 noM h0 h9 w21 → σ8 0 = .slice bA p0.length bC → σ8 4 = .pointer (some ⟨b1,0,none⟩) → σ8 5 = .bool y16 → σ8 8 = .pointer (some ⟨b11,0,none⟩) → σ8 12 = .slice cY p1.length cZ → σ8 13 = I (p1.length : Int) → σ8 14 = I (j1 : Int) → SlR h9 bA bC p0 → SlR h9 cY cZ p1 → Mut h9 w21 b1 (.cells (List.toArray [.bool y17,I y18,.bool y19,I y20,.bool y21,I y22,.bool y23,I y24]) 154 (0,0)) → j8 y16 y17 y18 y19 y20 y21 y22 y23 y24 = some r → Run X94 [.inBlock 2,.code c94_60,.inBlock 1,.code c94_69,.inLoop c94_9,.inBlock 0,.code c94_70] σ8 w21 (.fn (Q94 w0 h0 r)) := by
    intro y16 y17 y19 y21 y23 y18 y20 y22 y24 σ8 w21 h9 le9 st22 s0_j8 s4_j8 s5_j8 s8_j8 s12_j8 s13_j8 s14_j8 R17 R18 M26 H
    rw [hj8] at H
    exact Jj6 le9 st22 s0_j8 s4_j8 s5_j8 s8_j8 s12_j8 s13_j8 s14_j8 R17 R18 M26 H
   rcases aN H with ⟨hc9,H⟩ | ⟨hc9,H⟩
   · refine tr e94_42 (dT hc9) rfl<|aM e94_43<|tr e94_49 (dT hc9) rfl<|aB e94_50<|aA e94_51 ?_
     obtain ⟨j9,hj9,H⟩ := dE H
     have Jj9 : ∀ {y3 : Bool} {σ3 : Env} {w11 : World} {h4 : Sto},Le h2 h4 → St w0 noM h0 h4 w11 → σ3 0 = .slice bA p0.length bC → σ3 4 = .pointer (some ⟨b1,0,none⟩) → σ3 5 = .bool y3 → σ3 8 = .pointer (some ⟨b11,0,none⟩) → σ3 10 = .pointer (some ⟨b1,0 + (x1.Mode : Int).toNat * 2,none⟩) → σ3 12 = .slice cY p1.length cZ → σ3 13 = I (p1.length : Int) → σ3 14 = I (j1 : Int) → SlR h4 bA bC p0 → SlR h4 cY cZ p1 → Mut h4 w11 b1 (.cells (List.toArray [.bool b2,I i1,.bool b3,I i2,.bool b4,I i3,.bool b5,I i4]) 154 (0,0)) → j9 y3 = some r → Run X94 [.code c94_52,.inBlock 2,.code c94_60,.inBlock 1,.code c94_69,.inLoop c94_9,.inBlock 0,.code c94_70] σ3 w11 (.fn (Q94 w0 h0 r)) := by
      intro y3 σ3 w11 h4 le4 st12 s0_j9 s4_j9 s5_j9 s8_j9 s10_j9 s12_j9 s13_j9 s14_j9 R7 R8 M16 H
      rw [hj9] at H
      refine aA e94_52<|vv rfl (aE (.pointer (some ⟨b1,0 + (x1.Mode : Int).toNat * 2,none⟩)) s10_j9)<|vv rfl (bG ⟨b1,0 + (x1.Mode : Int).toNat * 2,none⟩ rfl)<|vv rfl (aF (b := b1) (o := 0 + (x1.Mode : Int).toNat * 2) fl152_0 rfl)<|aV (o := 0 + (x1.Mode : Int).toNat * 2 + 0) (n := 1) [.bool true] [.bool (if (x1.Mode : Int).toNat = 0 then true else b2),I i1,.bool (if (x1.Mode : Int).toNat = 1 then true else b3),I i2,.bool (if (x1.Mode : Int).toNat = 2 then true else b4),I i3,.bool (if (x1.Mode : Int).toNat = 3 then true else b5),I i4] (.bool true) sz4 rfl rfl rfl rfl M16 rfl rfl rfl (by have hq_ := (tn_lt (n := 4) hs2.1 hs2.2); generalize (x1.Mode : Int).toNat = q_ at hq_ ⊢; match q_,hq_ with | 0,_ => rfl | 1,_ => rfl | 2,_ => rfl | 3,_ => rfl | n_ + 4,h_ => exact absurd h_ (by omega)) (by have hq_ := (tn_lt (n := 4) hs2.1 hs2.2); generalize (x1.Mode : Int).toNat = q_ at hq_ ⊢; match q_,hq_ with | 0,_ => rfl | 1,_ => rfl | 2,_ => rfl | 3,_ => rfl | n_ + 4,h_ => exact absurd h_ (by omega)) (fun w12 wr7 M17 => ?_)
      have sp9 := wr7.st st12.has M16.none
      have st13 := st12.call sp9 (fun x e => (.inl (e ▸ lb2)))
      refine aD ?_
      exact Jj8 le4 st13 s0_j9 s4_j9 s5_j9 s8_j9 s12_j9 s13_j9 s14_j9 R7 R8 M17 H
     refine vv rfl (aE (.pointer (some ⟨b1,0 + (x1.Mode : Int).toNat * 2,none⟩)) rfl)<|vv rfl (bG ⟨b1,0 + (x1.Mode : Int).toNat * 2,none⟩ rfl)<|vv rfl (aF (b := b1) (o := 0 + (x1.Mode : Int).toNat * 2) fl152_0 rfl)<|vv rfl (aL (.bool (([b2,b3,b4,b5] : List Bool).getD (x1.Mode : Int).toNat false)) sc4 rfl ((aQ M13.get).trans (by have hq_ := (tn_lt (n := 4) hs2.1 hs2.2); generalize (x1.Mode : Int).toNat = q_ at hq_ ⊢; match q_,hq_ with | 0,_ => rfl | 1,_ => rfl | 2,_ => rfl | 3,_ => rfl | n_ + 4,h_ => exact absurd h_ (by omega))))<|vv rfl (eA (([b2,b3,b4,b5] : List Bool).getD (x1.Mode : Int).toNat false) 4 rfl)<|vv rfl (aE (.bool (!(([b2,b3,b4,b5] : List Bool).getD (x1.Mode : Int).toNat false))) rfl) ?_
     rcases aN H with ⟨hc10,H⟩ | ⟨hc10,H⟩
     · refine aR (wf2 (bL hc10) rfl) rfl<|aR (wf2 (bL hc10) rfl) rfl<|aR (wf2 (bL hc10) rfl) rfl<|vv rfl (dI (.bool false) (bL hc10) rfl rfl)<|vv rfl (aE (.bool false) rfl)<|aR (wf (p := false) rfl rfl) rfl<|aR (wf (p := false) rfl rfl) rfl<|aR (wf (p := false) rfl rfl) rfl<|aR (wf (p := false) rfl rfl) rfl<|aR (wf (p := false) rfl rfl) rfl ?_
       refine vv rfl (cI (.bool false) (p := false) rfl rfl rfl)<|vv rfl (aC (.bool false) rfl)<|aD ?_
       exact Jj9 (Le.refl _) st9 s0_j5 s4_j5 rfl s8_j5 rfl s12_j5 s13_j5 s14_j5 R3 R4 M13 H
     refine aZ (wt2 (bK (cA hc10)) rfl) rfl (aF (b := b11) (o := 0) fl137_2 s8_j5)<|aZ (wt2 (bK (cA hc10)) rfl) rfl (aL (I x1.Size) sc3 rfl ((aQ (st9.has _ _ (le2 _ _ g1))).trans rfl))<|aZ (wt2 (bK (cA hc10)) rfl) rfl (aP .eql .i64 x1.Size 0 (.bool (decide (x1.Size = 0))) 3 3 rfl rfl rfl)<|vv rfl (dH (.bool (decide (x1.Size = 0))) (bK (cA hc10)) rfl rfl)<|vv rfl (aE (.bool (decide (x1.Size = 0))) rfl) ?_
     rcases aN H with ⟨hc11,H⟩ | ⟨hc11,H⟩
     · refine aZ (wt2 (dT hc11) rfl) rfl (aE (.bool y1) s9_j5)<|aZ (wt2 (dT hc11) rfl) rfl (aF (b := b11) (o := 0) fl137_0 s8_j5)<|aZ (wt2 (dT hc11) rfl) rfl (aL (I x1.Kind) sc3 rfl ((aQ (st9.has _ _ (le2 _ _ g1))).trans rfl))<|aZ (wt2 (dT hc11) rfl) rfl (aP .eql .i64 x1.Kind 3 (.bool (decide (x1.Kind = 3))) 3 3 rfl rfl rfl)<|aZ (wt2 (dT hc11) rfl) rfl (x_boolEq (a := y1) (b := (decide (x1.Kind = 3))) u4 rfl rfl)<|vv rfl (dH (.bool (y1 == (decide (x1.Kind = 3)))) (dT hc11) rfl rfl)<|vv rfl (aC (.bool (y1 == (decide (x1.Kind = 3)))) rfl)<|aD ?_
       exact Jj9 (Le.refl _) st9 s0_j5 s4_j5 rfl s8_j5 rfl s12_j5 s13_j5 s14_j5 R3 R4 M13 H
     refine aR (wf2 (dF hc11) rfl) rfl<|aR (wf2 (dF hc11) rfl) rfl<|aR (wf2 (dF hc11) rfl) rfl<|aR (wf2 (dF hc11) rfl) rfl<|aR (wf2 (dF hc11) rfl) rfl<|vv rfl (dI (.bool false) (dF hc11) rfl rfl)<|vv rfl (aC (.bool false) rfl)<|aD ?_
     exact Jj9 (Le.refl _) st9 s0_j5 s4_j5 rfl s8_j5 rfl s12_j5 s13_j5 s14_j5 R3 R4 M13 H
   refine fa e94_42 (dF hc9) rfl<|aB e94_44<|aA e94_45<|vv rfl (aP .eql .i64 x1.Kind 2 (.bool (decide (x1.Kind = 2))) 3 3 rfl rfl rfl)<|vv rfl (aC (.bool (decide (x1.Kind = 2))) rfl)<|aD ?_
   obtain ⟨j10,hj10,H⟩ := dE H
   have Jj10 : ∀ {y7 y8 y10 y12 y14 : Bool} {y9 y11 y13 y15 : Int} {σ7 : Env} {w20 : World} {h8 : Sto},Le h2 h8 → St w0 noM h0 h8 w20 → σ7 0 = .slice bA p0.length bC → σ7 4 = .pointer (some ⟨b1,0,none⟩) → σ7 5 = .bool y7 → σ7 8 = .pointer (some ⟨b11,0,none⟩) → σ7 12 = .slice cY p1.length cZ → σ7 13 = I (p1.length : Int) → σ7 14 = I (j1 : Int) → SlR h8 bA bC p0 → SlR h8 cY cZ p1 → Mut h8 w20 b1 (.cells (List.toArray [.bool y8,I y9,.bool y10,I y11,.bool y12,I y13,.bool y14,I y15]) 154 (0,0)) → j10 y7 y8 y9 y10 y11 y12 y13 y14 y15 = some r → Run X94 [.inBlock 2,.code c94_60,.inBlock 1,.code c94_69,.inLoop c94_9,.inBlock 0,.code c94_70] σ7 w20 (.fn (Q94 w0 h0 r)) := by
    intro y7 y8 y10 y12 y14 y9 y11 y13 y15 σ7 w20 h8 le8 st21 s0_j10 s4_j10 s5_j10 s8_j10 s12_j10 s13_j10 s14_j10 R15 R16 M25 H
    rw [hj10] at H
    exact Jj8 le8 st21 s0_j10 s4_j10 s5_j10 s8_j10 s12_j10 s13_j10 s14_j10 R15 R16 M25 H
   rcases aN H with ⟨hc12,H⟩ | ⟨hc12,H⟩
   · refine tr e94_46 (dT hc12) rfl<|aM e94_47<|tr e94_49 (dT hc12) rfl<|aB e94_50<|aA e94_51 ?_
     obtain ⟨j11,hj11,H⟩ := dE H
     have Jj11 : ∀ {y4 : Bool} {σ4 : Env} {w13 : World} {h5 : Sto},Le h2 h5 → St w0 noM h0 h5 w13 → σ4 0 = .slice bA p0.length bC → σ4 4 = .pointer (some ⟨b1,0,none⟩) → σ4 5 = .bool y4 → σ4 8 = .pointer (some ⟨b11,0,none⟩) → σ4 10 = .pointer (some ⟨b1,0 + (x1.Mode : Int).toNat * 2,none⟩) → σ4 12 = .slice cY p1.length cZ → σ4 13 = I (p1.length : Int) → σ4 14 = I (j1 : Int) → SlR h5 bA bC p0 → SlR h5 cY cZ p1 → Mut h5 w13 b1 (.cells (List.toArray [.bool b2,I i1,.bool b3,I i2,.bool b4,I i3,.bool b5,I i4]) 154 (0,0)) → j11 y4 = some r → Run X94 [.code c94_52,.inBlock 2,.code c94_60,.inBlock 1,.code c94_69,.inLoop c94_9,.inBlock 0,.code c94_70] σ4 w13 (.fn (Q94 w0 h0 r)) := by
      intro y4 σ4 w13 h5 le5 st14 s0_j11 s4_j11 s5_j11 s8_j11 s10_j11 s12_j11 s13_j11 s14_j11 R9 R10 M18 H
      rw [hj11] at H
      refine aA e94_52<|vv rfl (aE (.pointer (some ⟨b1,0 + (x1.Mode : Int).toNat * 2,none⟩)) s10_j11)<|vv rfl (bG ⟨b1,0 + (x1.Mode : Int).toNat * 2,none⟩ rfl)<|vv rfl (aF (b := b1) (o := 0 + (x1.Mode : Int).toNat * 2) fl152_0 rfl)<|aV (o := 0 + (x1.Mode : Int).toNat * 2 + 0) (n := 1) [.bool true] [.bool (if (x1.Mode : Int).toNat = 0 then true else b2),I i1,.bool (if (x1.Mode : Int).toNat = 1 then true else b3),I i2,.bool (if (x1.Mode : Int).toNat = 2 then true else b4),I i3,.bool (if (x1.Mode : Int).toNat = 3 then true else b5),I i4] (.bool true) sz4 rfl rfl rfl rfl M18 rfl rfl rfl (by have hq_ := (tn_lt (n := 4) hs2.1 hs2.2); generalize (x1.Mode : Int).toNat = q_ at hq_ ⊢; match q_,hq_ with | 0,_ => rfl | 1,_ => rfl | 2,_ => rfl | 3,_ => rfl | n_ + 4,h_ => exact absurd h_ (by omega)) (by have hq_ := (tn_lt (n := 4) hs2.1 hs2.2); generalize (x1.Mode : Int).toNat = q_ at hq_ ⊢; match q_,hq_ with | 0,_ => rfl | 1,_ => rfl | 2,_ => rfl | 3,_ => rfl | n_ + 4,h_ => exact absurd h_ (by omega)) (fun w14 wr8 M19 => ?_)
      have sp10 := wr8.st st14.has M18.none
      have st15 := st14.call sp10 (fun x e => (.inl (e ▸ lb2)))
      refine aD ?_
      exact Jj10 le5 st15 s0_j11 s4_j11 s5_j11 s8_j11 s12_j11 s13_j11 s14_j11 R9 R10 M19 H
     refine vv rfl (aE (.pointer (some ⟨b1,0 + (x1.Mode : Int).toNat * 2,none⟩)) rfl)<|vv rfl (bG ⟨b1,0 + (x1.Mode : Int).toNat * 2,none⟩ rfl)<|vv rfl (aF (b := b1) (o := 0 + (x1.Mode : Int).toNat * 2) fl152_0 rfl)<|vv rfl (aL (.bool (([b2,b3,b4,b5] : List Bool).getD (x1.Mode : Int).toNat false)) sc4 rfl ((aQ M13.get).trans (by have hq_ := (tn_lt (n := 4) hs2.1 hs2.2); generalize (x1.Mode : Int).toNat = q_ at hq_ ⊢; match q_,hq_ with | 0,_ => rfl | 1,_ => rfl | 2,_ => rfl | 3,_ => rfl | n_ + 4,h_ => exact absurd h_ (by omega))))<|vv rfl (eA (([b2,b3,b4,b5] : List Bool).getD (x1.Mode : Int).toNat false) 4 rfl)<|vv rfl (aE (.bool (!(([b2,b3,b4,b5] : List Bool).getD (x1.Mode : Int).toNat false))) rfl) ?_
     rcases aN H with ⟨hc13,H⟩ | ⟨hc13,H⟩
     · refine aR (wf2 (bL hc13) rfl) rfl<|aR (wf2 (bL hc13) rfl) rfl<|aR (wf2 (bL hc13) rfl) rfl<|vv rfl (dI (.bool false) (bL hc13) rfl rfl)<|vv rfl (aE (.bool false) rfl)<|aR (wf (p := false) rfl rfl) rfl<|aR (wf (p := false) rfl rfl) rfl<|aR (wf (p := false) rfl rfl) rfl<|aR (wf (p := false) rfl rfl) rfl<|aR (wf (p := false) rfl rfl) rfl ?_
       refine vv rfl (cI (.bool false) (p := false) rfl rfl rfl)<|vv rfl (aC (.bool false) rfl)<|aD ?_
       exact Jj11 (Le.refl _) st9 s0_j5 s4_j5 rfl s8_j5 rfl s12_j5 s13_j5 s14_j5 R3 R4 M13 H
     refine aZ (wt2 (bK (cA hc13)) rfl) rfl (aF (b := b11) (o := 0) fl137_2 s8_j5)<|aZ (wt2 (bK (cA hc13)) rfl) rfl (aL (I x1.Size) sc3 rfl ((aQ (st9.has _ _ (le2 _ _ g1))).trans rfl))<|aZ (wt2 (bK (cA hc13)) rfl) rfl (aP .eql .i64 x1.Size 0 (.bool (decide (x1.Size = 0))) 3 3 rfl rfl rfl)<|vv rfl (dH (.bool (decide (x1.Size = 0))) (bK (cA hc13)) rfl rfl)<|vv rfl (aE (.bool (decide (x1.Size = 0))) rfl) ?_
     rcases aN H with ⟨hc14,H⟩ | ⟨hc14,H⟩
     · refine aZ (wt2 (dT hc14) rfl) rfl (aE (.bool y1) s9_j5)<|aZ (wt2 (dT hc14) rfl) rfl (aF (b := b11) (o := 0) fl137_0 s8_j5)<|aZ (wt2 (dT hc14) rfl) rfl (aL (I x1.Kind) sc3 rfl ((aQ (st9.has _ _ (le2 _ _ g1))).trans rfl))<|aZ (wt2 (dT hc14) rfl) rfl (aP .eql .i64 x1.Kind 3 (.bool (decide (x1.Kind = 3))) 3 3 rfl rfl rfl)<|aZ (wt2 (dT hc14) rfl) rfl (x_boolEq (a := y1) (b := (decide (x1.Kind = 3))) u4 rfl rfl)<|vv rfl (dH (.bool (y1 == (decide (x1.Kind = 3)))) (dT hc14) rfl rfl)<|vv rfl (aC (.bool (y1 == (decide (x1.Kind = 3)))) rfl)<|aD ?_
       exact Jj11 (Le.refl _) st9 s0_j5 s4_j5 rfl s8_j5 rfl s12_j5 s13_j5 s14_j5 R3 R4 M13 H
     refine aR (wf2 (dF hc14) rfl) rfl<|aR (wf2 (dF hc14) rfl) rfl<|aR (wf2 (dF hc14) rfl) rfl<|aR (wf2 (dF hc14) rfl) rfl<|aR (wf2 (dF hc14) rfl) rfl<|vv rfl (dI (.bool false) (dF hc14) rfl rfl)<|vv rfl (aC (.bool false) rfl)<|aD ?_
     exact Jj11 (Le.refl _) st9 s0_j5 s4_j5 rfl s8_j5 rfl s12_j5 s13_j5 s14_j5 R3 R4 M13 H
   refine fa e94_46 (dF hc12) rfl<|aA e94_48<|vv rfl (aP .eql .i64 x1.Kind 3 (.bool (decide (x1.Kind = 3))) 3 3 rfl rfl rfl)<|vv rfl (aC (.bool (decide (x1.Kind = 3))) rfl)<|aD ?_
   rcases aN H with ⟨hc15,H⟩ | ⟨hc15,H⟩
   · refine tr e94_49 (dT hc15) rfl<|aB e94_50<|aA e94_51 ?_
     obtain ⟨j12,hj12,H⟩ := dE H
     have Jj12 : ∀ {y5 : Bool} {σ5 : Env} {w15 : World} {h6 : Sto},Le h2 h6 → St w0 noM h0 h6 w15 → σ5 0 = .slice bA p0.length bC → σ5 4 = .pointer (some ⟨b1,0,none⟩) → σ5 5 = .bool y5 → σ5 8 = .pointer (some ⟨b11,0,none⟩) → σ5 10 = .pointer (some ⟨b1,0 + (x1.Mode : Int).toNat * 2,none⟩) → σ5 12 = .slice cY p1.length cZ → σ5 13 = I (p1.length : Int) → σ5 14 = I (j1 : Int) → SlR h6 bA bC p0 → SlR h6 cY cZ p1 → Mut h6 w15 b1 (.cells (List.toArray [.bool b2,I i1,.bool b3,I i2,.bool b4,I i3,.bool b5,I i4]) 154 (0,0)) → j12 y5 = some r → Run X94 [.code c94_52,.inBlock 2,.code c94_60,.inBlock 1,.code c94_69,.inLoop c94_9,.inBlock 0,.code c94_70] σ5 w15 (.fn (Q94 w0 h0 r)) := by
      intro y5 σ5 w15 h6 le6 st16 s0_j12 s4_j12 s5_j12 s8_j12 s10_j12 s12_j12 s13_j12 s14_j12 R11 R12 M20 H
      rw [hj12] at H
      refine aA e94_52<|vv rfl (aE (.pointer (some ⟨b1,0 + (x1.Mode : Int).toNat * 2,none⟩)) s10_j12)<|vv rfl (bG ⟨b1,0 + (x1.Mode : Int).toNat * 2,none⟩ rfl)<|vv rfl (aF (b := b1) (o := 0 + (x1.Mode : Int).toNat * 2) fl152_0 rfl)<|aV (o := 0 + (x1.Mode : Int).toNat * 2 + 0) (n := 1) [.bool true] [.bool (if (x1.Mode : Int).toNat = 0 then true else b2),I i1,.bool (if (x1.Mode : Int).toNat = 1 then true else b3),I i2,.bool (if (x1.Mode : Int).toNat = 2 then true else b4),I i3,.bool (if (x1.Mode : Int).toNat = 3 then true else b5),I i4] (.bool true) sz4 rfl rfl rfl rfl M20 rfl rfl rfl (by have hq_ := (tn_lt (n := 4) hs2.1 hs2.2); generalize (x1.Mode : Int).toNat = q_ at hq_ ⊢; match q_,hq_ with | 0,_ => rfl | 1,_ => rfl | 2,_ => rfl | 3,_ => rfl | n_ + 4,h_ => exact absurd h_ (by omega)) (by have hq_ := (tn_lt (n := 4) hs2.1 hs2.2); generalize (x1.Mode : Int).toNat = q_ at hq_ ⊢; match q_,hq_ with | 0,_ => rfl | 1,_ => rfl | 2,_ => rfl | 3,_ => rfl | n_ + 4,h_ => exact absurd h_ (by omega)) (fun w16 wr9 M21 => ?_)
      have sp11 := wr9.st st16.has M20.none
      have st17 := st16.call sp11 (fun x e => (.inl (e ▸ lb2)))
      refine aD ?_
      exact Jj10 le6 st17 s0_j12 s4_j12 s5_j12 s8_j12 s12_j12 s13_j12 s14_j12 R11 R12 M21 H
     refine vv rfl (aE (.pointer (some ⟨b1,0 + (x1.Mode : Int).toNat * 2,none⟩)) rfl)<|vv rfl (bG ⟨b1,0 + (x1.Mode : Int).toNat * 2,none⟩ rfl)<|vv rfl (aF (b := b1) (o := 0 + (x1.Mode : Int).toNat * 2) fl152_0 rfl)<|vv rfl (aL (.bool (([b2,b3,b4,b5] : List Bool).getD (x1.Mode : Int).toNat false)) sc4 rfl ((aQ M13.get).trans (by have hq_ := (tn_lt (n := 4) hs2.1 hs2.2); generalize (x1.Mode : Int).toNat = q_ at hq_ ⊢; match q_,hq_ with | 0,_ => rfl | 1,_ => rfl | 2,_ => rfl | 3,_ => rfl | n_ + 4,h_ => exact absurd h_ (by omega))))<|vv rfl (eA (([b2,b3,b4,b5] : List Bool).getD (x1.Mode : Int).toNat false) 4 rfl)<|vv rfl (aE (.bool (!(([b2,b3,b4,b5] : List Bool).getD (x1.Mode : Int).toNat false))) rfl) ?_
     rcases aN H with ⟨hc16,H⟩ | ⟨hc16,H⟩
     · refine aR (wf2 (bL hc16) rfl) rfl<|aR (wf2 (bL hc16) rfl) rfl<|aR (wf2 (bL hc16) rfl) rfl<|vv rfl (dI (.bool false) (bL hc16) rfl rfl)<|vv rfl (aE (.bool false) rfl)<|aR (wf (p := false) rfl rfl) rfl<|aR (wf (p := false) rfl rfl) rfl<|aR (wf (p := false) rfl rfl) rfl<|aR (wf (p := false) rfl rfl) rfl<|aR (wf (p := false) rfl rfl) rfl ?_
       refine vv rfl (cI (.bool false) (p := false) rfl rfl rfl)<|vv rfl (aC (.bool false) rfl)<|aD ?_
       exact Jj12 (Le.refl _) st9 s0_j5 s4_j5 rfl s8_j5 rfl s12_j5 s13_j5 s14_j5 R3 R4 M13 H
     refine aZ (wt2 (bK (cA hc16)) rfl) rfl (aF (b := b11) (o := 0) fl137_2 s8_j5)<|aZ (wt2 (bK (cA hc16)) rfl) rfl (aL (I x1.Size) sc3 rfl ((aQ (st9.has _ _ (le2 _ _ g1))).trans rfl))<|aZ (wt2 (bK (cA hc16)) rfl) rfl (aP .eql .i64 x1.Size 0 (.bool (decide (x1.Size = 0))) 3 3 rfl rfl rfl)<|vv rfl (dH (.bool (decide (x1.Size = 0))) (bK (cA hc16)) rfl rfl)<|vv rfl (aE (.bool (decide (x1.Size = 0))) rfl) ?_
     rcases aN H with ⟨hc17,H⟩ | ⟨hc17,H⟩
     · refine aZ (wt2 (dT hc17) rfl) rfl (aE (.bool y1) s9_j5)<|aZ (wt2 (dT hc17) rfl) rfl (aF (b := b11) (o := 0) fl137_0 s8_j5)<|aZ (wt2 (dT hc17) rfl) rfl (aL (I x1.Kind) sc3 rfl ((aQ (st9.has _ _ (le2 _ _ g1))).trans rfl))<|aZ (wt2 (dT hc17) rfl) rfl (aP .eql .i64 x1.Kind 3 (.bool (decide (x1.Kind = 3))) 3 3 rfl rfl rfl)<|aZ (wt2 (dT hc17) rfl) rfl (x_boolEq (a := y1) (b := (decide (x1.Kind = 3))) u4 rfl rfl)<|vv rfl (dH (.bool (y1 == (decide (x1.Kind = 3)))) (dT hc17) rfl rfl)<|vv rfl (aC (.bool (y1 == (decide (x1.Kind = 3)))) rfl)<|aD ?_
       exact Jj12 (Le.refl _) st9 s0_j5 s4_j5 rfl s8_j5 rfl s12_j5 s13_j5 s14_j5 R3 R4 M13 H
     refine aR (wf2 (dF hc17) rfl) rfl<|aR (wf2 (dF hc17) rfl) rfl<|aR (wf2 (dF hc17) rfl) rfl<|aR (wf2 (dF hc17) rfl) rfl<|aR (wf2 (dF hc17) rfl) rfl<|vv rfl (dI (.bool false) (dF hc17) rfl rfl)<|vv rfl (aC (.bool false) rfl)<|aD ?_
     exact Jj12 (Le.refl _) st9 s0_j5 s4_j5 rfl s8_j5 rfl s12_j5 s13_j5 s14_j5 R3 R4 M13 H
   refine fa e94_49 (dF hc15) rfl<|aB e94_53<|aA e94_54<|vv rfl (aP .eql .i64 x1.Kind 4 (.bool (decide (x1.Kind = 4))) 3 3 rfl rfl rfl)<|vv rfl (aC (.bool (decide (x1.Kind = 4))) rfl)<|aD ?_
   rcases aN H with ⟨hc18,H⟩ | ⟨hc18,H⟩
   · refine tr e94_55 (dT hc18) rfl<|aB e94_56 ?_
     obtain ⟨j13,hj13,H⟩ := dE H
     have Jj13 : ∀ {y6 : Bool} {σ6 : Env} {w18 : World} {h7 : Sto},Le h2 h7 → St w0 noM h0 h7 w18 → σ6 0 = .slice bA p0.length bC → σ6 4 = .pointer (some ⟨b1,0,none⟩) → σ6 5 = .bool y6 → σ6 8 = .pointer (some ⟨b11,0,none⟩) → σ6 10 = .pointer (some ⟨b1,0 + (x1.Mode : Int).toNat * 2,none⟩) → σ6 12 = .slice cY p1.length cZ → σ6 13 = I (p1.length : Int) → σ6 14 = I (j1 : Int) → SlR h7 bA bC p0 → SlR h7 cY cZ p1 → Mut h7 w18 b1 (.cells (List.toArray [.bool b2,I i1,.bool b3,I i2,.bool b4,I i3,.bool b5,I i4]) 154 (0,0)) → j13 y6 = some r → Run X94 [.code c94_58,.inBlock 2,.code c94_60,.inBlock 1,.code c94_69,.inLoop c94_9,.inBlock 0,.code c94_70] σ6 w18 (.fn (Q94 w0 h0 r)) := by
      intro y6 σ6 w18 h7 le7 st19 s0_j13 s4_j13 s5_j13 s8_j13 s10_j13 s12_j13 s13_j13 s14_j13 R13 R14 M23 H
      rw [hj13] at H
      refine aA e94_58<|vv rfl (aE (.pointer (some ⟨b1,0 + (x1.Mode : Int).toNat * 2,none⟩)) s10_j13)<|vv rfl (aF (b := b11) (o := 0) fl137_2 s8_j13)<|vv rfl (aL (I x1.Size) sc3 rfl ((aQ (st19.has _ _ ((le2.trans le7) _ _ g1))).trans rfl))<|vv rfl (bG ⟨b1,0 + (x1.Mode : Int).toNat * 2,none⟩ rfl)<|vv rfl (aF (b := b1) (o := 0 + (x1.Mode : Int).toNat * 2) fl152_1 rfl)<|aV (o := 0 + (x1.Mode : Int).toNat * 2 + 1) (n := 1) [I x1.Size] [.bool b2,I (if (x1.Mode : Int).toNat = 0 then x1.Size else i1),.bool b3,I (if (x1.Mode : Int).toNat = 1 then x1.Size else i2),.bool b4,I (if (x1.Mode : Int).toNat = 2 then x1.Size else i3),.bool b5,I (if (x1.Mode : Int).toNat = 3 then x1.Size else i4)] (I x1.Size) sz3 rfl rfl rfl rfl M23 rfl rfl rfl (by have hq_ := (tn_lt (n := 4) hs2.1 hs2.2); generalize (x1.Mode : Int).toNat = q_ at hq_ ⊢; match q_,hq_ with | 0,_ => rfl | 1,_ => rfl | 2,_ => rfl | 3,_ => rfl | n_ + 4,h_ => exact absurd h_ (by omega)) (by have hq_ := (tn_lt (n := 4) hs2.1 hs2.2); generalize (x1.Mode : Int).toNat = q_ at hq_ ⊢; match q_,hq_ with | 0,_ => rfl | 1,_ => rfl | 2,_ => rfl | 3,_ => rfl | n_ + 4,h_ => exact absurd h_ (by omega)) (fun w19 wr10 M24 => ?_)
      have sp13 := wr10.st st19.has M23.none
      have st20 := st19.call sp13 (fun x e => (.inl (e ▸ lb2)))
      refine aD ?_
      exact Jj10 le7 st20 s0_j13 s4_j13 s5_j13 s8_j13 s12_j13 s13_j13 s14_j13 R13 R14 M24 H
     refine dW [[(0,false),(1,false),(2,false),(3,false),(4,false),(5,false),(6,false),(7,false),(8,false),(9,false),(10,false),(11,false),(12,false),(13,false),(14,false),(15,false),(16,false),(17,false),(18,false),(19,false),(20,false),(21,false),(22,false),(23,false),(24,false),(25,false),(26,false),(27,false),(28,false),(29,false),(30,false),(31,false)]] [] [0,1,2,3,4,5,6,7,8,9,10,11,12,13,14,15,16,17,18,19,20,21,22,23,24,25,26,27,28,29,30,31] [0,1,2,3,4,5,6,7,8,9,10,11,12,13,14,15,16,17,18,19,20,21,22,23,24,25,26,27,28,29,30,31] (fun w_ => Has h2 w_ ∧ w_.heap[b1]? = some (.cells (List.toArray [.bool b2,I i1,.bool b3,I i2,.bool b4,I i3,.bool b5,I i4]) 154 (0,0)) ∧ True) e94_57 k94_57 m94_57 (fun w17 al3 => ?_)
     have sp12 := al3.st st9.has
     have M22 := M13.call0 sp12
     have st18 := st9.call0 sp12
     refine ⟨⟨Has.le (Le.refl _) st18.has,M22.get,trivial⟩,?_,trivial⟩
     refine bI rfl rfl (fun w_ ok_ => aE (.pointer (some ⟨b1,0 + (x1.Mode : Int).toNat * 2,none⟩)) rfl)<|bI rfl rfl (fun w_ ok_ => bG ⟨b1,0 + (x1.Mode : Int).toNat * 2,none⟩ rfl)<|bI rfl rfl (fun w_ ok_ => aF (b := b1) (o := 0 + (x1.Mode : Int).toNat * 2) fl152_0 rfl)<|bI rfl rfl (fun w_ ok_ => aL (.bool (([b2,b3,b4,b5] : List Bool).getD (x1.Mode : Int).toNat false)) sc4 rfl ((aQ ok_.2.1).trans (by have hq_ := (tn_lt (n := 4) hs2.1 hs2.2); generalize (x1.Mode : Int).toNat = q_ at hq_ ⊢; match q_,hq_ with | 0,_ => rfl | 1,_ => rfl | 2,_ => rfl | 3,_ => rfl | n_ + 4,h_ => exact absurd h_ (by omega))))<|bI rfl rfl (fun w_ ok_ => aE (.bool (([b2,b3,b4,b5] : List Bool).getD (x1.Mode : Int).toNat false)) rfl) ?_
     rcases aN H with ⟨hc19,H⟩ | ⟨hc19,H⟩
     · refine bI rfl (wt2 hc19 rfl) (fun w_ ok_ => aE (.pointer (some ⟨b1,0 + (x1.Mode : Int).toNat * 2,none⟩)) rfl)<|bI rfl (wt2 hc19 rfl) (fun w_ ok_ => bG ⟨b1,0 + (x1.Mode : Int).toNat * 2,none⟩ rfl)<|bI rfl (wt2 hc19 rfl) (fun w_ ok_ => aF (b := b1) (o := 0 + (x1.Mode : Int).toNat * 2) fl152_1 rfl)<|bI rfl (wt2 hc19 rfl) (fun w_ ok_ => aL (I (([i1,i2,i3,i4] : List Int).getD (x1.Mode : Int).toNat 0)) sc3 rfl ((aQ ok_.2.1).trans (by have hq_ := (tn_lt (n := 4) hs2.1 hs2.2); generalize (x1.Mode : Int).toNat = q_ at hq_ ⊢; match q_,hq_ with | 0,_ => rfl | 1,_ => rfl | 2,_ => rfl | 3,_ => rfl | n_ + 4,h_ => exact absurd h_ (by omega))))<|bI rfl (wt2 hc19 rfl) (fun w_ ok_ => aP .eql .i64 (([i1,i2,i3,i4] : List Int).getD (x1.Mode : Int).toNat 0) 0 (.bool (decide ((([i1,i2,i3,i4] : List Int).getD (x1.Mode : Int).toNat 0) = 0))) 3 3 rfl rfl rfl)<|bI rfl rfl (fun w_ ok_ => dH (.bool (decide ((([i1,i2,i3,i4] : List Int).getD (x1.Mode : Int).toNat 0) = 0))) hc19 rfl rfl)<|bI rfl rfl (fun w_ ok_ => aE (.bool (decide ((([i1,i2,i3,i4] : List Int).getD (x1.Mode : Int).toNat 0) = 0))) rfl) ?_
       rcases aN H with ⟨hc20,H⟩ | ⟨hc20,H⟩
       · refine bI rfl (wt2 (dT hc20) rfl) (fun w_ ok_ => aE (.bool y1) s9_j5)<|bI rfl (wt2 (dT hc20) rfl) (fun w_ ok_ => eA y1 4 rfl)<|bI rfl rfl (fun w_ ok_ => dH (.bool (!y1)) (dT hc20) rfl rfl)<|bI rfl rfl (fun w_ ok_ => aE (.bool (!y1)) rfl) ?_
         rcases aN H with ⟨hc21,H⟩ | ⟨hc21,H⟩
         · refine dP rfl (wf2 (bL hc21) rfl)<|dP rfl (wf2 (bL hc21) rfl)<|dP rfl (wf2 (bL hc21) rfl)<|bI rfl rfl (fun w_ ok_ => dI (.bool false) (bL hc21) rfl rfl)<|bI rfl rfl (fun w_ ok_ => aE (.bool false) rfl)<|dP rfl (wf (p := false) rfl rfl)<|dP rfl (wf (p := false) rfl rfl)<|dP rfl (wf (p := false) rfl rfl)<|dP rfl (wf (p := false) rfl rfl)<|dP rfl (wf (p := false) rfl rfl) ?_
           refine dP rfl (wf (p := false) rfl rfl)<|dP rfl (wf (p := false) rfl rfl)<|dP rfl (wf (p := false) rfl rfl)<|dP rfl (wf (p := false) rfl rfl)<|bI rfl rfl (fun w_ ok_ => cI (.bool false) (p := false) rfl rfl rfl)<|bI rfl rfl (fun w_ ok_ => aC (.bool false) rfl)<|dZ ?_
           exact Jj13 (Le.refl _) st18 s0_j5 s4_j5 rfl s8_j5 rfl s12_j5 s13_j5 s14_j5 R3 R4 M22 H
         refine bI rfl (wt2 (bK (cA hc21)) rfl) (fun w_ ok_ => aF (b := b11) (o := 0) fl137_2 s8_j5)<|bI rfl (wt2 (bK (cA hc21)) rfl) (fun w_ ok_ => aL (I x1.Size) sc3 rfl ((aQ (ok_.1 _ _ (le2 _ _ g1))).trans rfl))<|bI rfl (wt2 (bK (cA hc21)) rfl) (fun w_ ok_ => aP .gtr .i64 x1.Size 0 (.bool (decide (0 < x1.Size))) 3 3 rfl rfl rfl)<|bI rfl rfl (fun w_ ok_ => dH (.bool (decide (0 < x1.Size))) (bK (cA hc21)) rfl rfl)<|bI rfl rfl (fun w_ ok_ => aE (.bool (decide (0 < x1.Size))) rfl) ?_
         rcases aN H with ⟨hc22,H⟩ | ⟨hc22,H⟩
         · refine bI rfl (wt2 (dT hc22) rfl) (fun w_ ok_ => aE (.slice bA p0.length bC) s0_j5)<|bI rfl (wt2 (dT hc22) rfl) (fun w_ ok_ => aF (b := b11) (o := 0) fl137_1 s8_j5)<|bI rfl (wt2 (dT hc22) rfl) (fun w_ ok_ => aL (I x1.Mode) sc3 rfl ((aQ (ok_.1 _ _ (le2 _ _ g1))).trans rfl)) ?_
           obtain ⟨xd1_24_1,hxd1_24_2,H⟩ := aK H
           have hid1_24_3 := dB hxd1_24_2
           obtain ⟨bd1_24_4,od1_24_5,vsd1_24_6,ead1_24_7,rpd1_24_8,cld1_24_9⟩ := SlR.at R3 hid1_24_3.2.2
           obtain rfl := rpd1_24_8
           refine bI rfl (wt2 (dT hc22) rfl) (fun w_ ok_ => aX u43 sz3 rfl rfl ead1_24_7 hid1_24_3.1 hid1_24_3.2.1)<|bI rfl (wt2 (dT hc22) rfl) (fun w_ ok_ => aL (I xd1_24_1) sc3 rfl (((cld1_24_9 _ (Has.le (Le.refl _) ok_.1)) 0 (by decide)).trans rfl))<|bI rfl (wt2 (dT hc22) rfl) (fun w_ ok_ => aF (b := b11) (o := 0) fl137_2 s8_j5)<|bI rfl (wt2 (dT hc22) rfl) (fun w_ ok_ => aL (I x1.Size) sc3 rfl ((aQ (ok_.1 _ _ (le2 _ _ g1))).trans rfl)) ?_
           obtain ⟨hzd1_28_1,H⟩ := cD H
           refine bI rfl (wt2 (dT hc22) rfl) (fun w_ ok_ => x_div .rem .i64 xd1_24_1 x1.Size (I (xd1_24_1.tmod x1.Size)) 3 3 rfl rfl hzd1_28_1 rfl)<|bI rfl (wt2 (dT hc22) rfl) (fun w_ ok_ => aP .eql .i64 (xd1_24_1.tmod x1.Size) 0 (.bool (decide ((xd1_24_1.tmod x1.Size) = 0))) 3 3 rfl rfl rfl)<|bI rfl rfl (fun w_ ok_ => dH (.bool (decide ((xd1_24_1.tmod x1.Size) = 0))) (dT hc22) rfl rfl)<|bI rfl rfl (fun w_ ok_ => aC (.bool (decide ((xd1_24_1.tmod x1.Size) = 0))) rfl)<|dZ ?_
           exact Jj13 (Le.refl _) st18 s0_j5 s4_j5 rfl s8_j5 rfl s12_j5 s13_j5 s14_j5 R3 R4 M22 H
         refine dP rfl (wf2 (dF hc22) rfl)<|dP rfl (wf2 (dF hc22) rfl)<|dP rfl (wf2 (dF hc22) rfl)<|dP rfl (wf2 (dF hc22) rfl)<|dP rfl (wf2 (dF hc22) rfl)<|dP rfl (wf2 (dF hc22) rfl)<|dP rfl (wf2 (dF hc22) rfl)<|dP rfl (wf2 (dF hc22) rfl)<|dP rfl (wf2 (dF hc22) rfl)<|bI rfl rfl (fun w_ ok_ => dI (.bool false) (dF hc22) rfl rfl) ?_
         refine bI rfl rfl (fun w_ ok_ => aC (.bool false) rfl)<|dZ ?_
         exact Jj13 (Le.refl _) st18 s0_j5 s4_j5 rfl s8_j5 rfl s12_j5 s13_j5 s14_j5 R3 R4 M22 H
       refine dP rfl (wf2 (dF hc20) rfl)<|dP rfl (wf2 (dF hc20) rfl)<|bI rfl rfl (fun w_ ok_ => dI (.bool false) (dF hc20) rfl rfl)<|bI rfl rfl (fun w_ ok_ => aE (.bool false) rfl)<|dP rfl (wf (p := false) rfl rfl)<|dP rfl (wf (p := false) rfl rfl)<|dP rfl (wf (p := false) rfl rfl)<|bI rfl rfl (fun w_ ok_ => cI (.bool false) (p := false) rfl rfl rfl)<|bI rfl rfl (fun w_ ok_ => aE (.bool false) rfl)<|dP rfl (wf (p := false) rfl rfl) ?_
       refine dP rfl (wf (p := false) rfl rfl)<|dP rfl (wf (p := false) rfl rfl)<|dP rfl (wf (p := false) rfl rfl)<|dP rfl (wf (p := false) rfl rfl)<|dP rfl (wf (p := false) rfl rfl)<|dP rfl (wf (p := false) rfl rfl)<|dP rfl (wf (p := false) rfl rfl)<|dP rfl (wf (p := false) rfl rfl)<|bI rfl rfl (fun w_ ok_ => cI (.bool false) (p := false) rfl rfl rfl)<|bI rfl rfl (fun w_ ok_ => aC (.bool false) rfl) ?_
       refine dZ ?_
       exact Jj13 (Le.refl _) st18 s0_j5 s4_j5 rfl s8_j5 rfl s12_j5 s13_j5 s14_j5 R3 R4 M22 H
     refine dP rfl (wf2 (cA hc19) rfl)<|dP rfl (wf2 (cA hc19) rfl)<|dP rfl (wf2 (cA hc19) rfl)<|dP rfl (wf2 (cA hc19) rfl)<|dP rfl (wf2 (cA hc19) rfl)<|bI rfl rfl (fun w_ ok_ => dI (.bool false) (cA hc19) rfl rfl)<|bI rfl rfl (fun w_ ok_ => aE (.bool false) rfl)<|dP rfl (wf (p := false) rfl rfl)<|dP rfl (wf (p := false) rfl rfl)<|bI rfl rfl (fun w_ ok_ => cI (.bool false) (p := false) rfl rfl rfl) ?_
     refine bI rfl rfl (fun w_ ok_ => aE (.bool false) rfl)<|dP rfl (wf (p := false) rfl rfl)<|dP rfl (wf (p := false) rfl rfl)<|dP rfl (wf (p := false) rfl rfl)<|bI rfl rfl (fun w_ ok_ => cI (.bool false) (p := false) rfl rfl rfl)<|bI rfl rfl (fun w_ ok_ => aE (.bool false) rfl)<|dP rfl (wf (p := false) rfl rfl)<|dP rfl (wf (p := false) rfl rfl)<|dP rfl (wf (p := false) rfl rfl)<|dP rfl (wf (p := false) rfl rfl) ?_
     refine dP rfl (wf (p := false) rfl rfl)<|dP rfl (wf (p := false) rfl rfl)<|dP rfl (wf (p := false) rfl rfl)<|dP rfl (wf (p := false) rfl rfl)<|dP rfl (wf (p := false) rfl rfl)<|bI rfl rfl (fun w_ ok_ => cI (.bool false) (p := false) rfl rfl rfl)<|bI rfl rfl (fun w_ ok_ => aC (.bool false) rfl)<|dZ ?_
     exact Jj13 (Le.refl _) st18 s0_j5 s4_j5 rfl s8_j5 rfl s12_j5 s13_j5 s14_j5 R3 R4 M22 H
   refine fa e94_55 (dF hc18) rfl<|aA e94_59<|vv rfl (aC (.bool false) rfl)<|aD ?_
   exact Jj10 (Le.refl _) st9 s0_j5 s4_j5 rfl s8_j5 s12_j5 s13_j5 s14_j5 R3 R4 M13 H
  refine vv rfl (aE (I i5) s6)<|vv rfl (aP .eql .i64 i5 2 (.bool (decide (i5 = 2))) 3 3 rfl rfl rfl)<|vv rfl (aE (.bool (decide (i5 = 2))) rfl) ?_
  rcases aN H with ⟨hc5,H⟩ | ⟨hc5,H⟩
  · refine aR (wf2 (dT hc5) rfl) rfl<|aR (wf2 (dT hc5) rfl) rfl<|vv rfl (dH (.bool true) (dT hc5) rfl rfl)<|vv rfl (aC (.bool true) rfl)<|aD ?_
    exact Jj5 (Le.refl _) st6 s0 s4 rfl rfl s12 s13 s14 (SlR.mono le1 R1) (SlR.mono le1 R2) M10 H
  refine aZ (wt2 (dF hc5) rfl) rfl (aE (I i5) s6)<|aZ (wt2 (dF hc5) rfl) rfl (aP .eql .i64 i5 3 (.bool (decide (i5 = 3))) 3 3 rfl rfl rfl)<|vv rfl (dI (.bool (decide (i5 = 3))) (dF hc5) rfl rfl)<|vv rfl (aC (.bool (decide (i5 = 3))) rfl)<|aD ?_
  exact Jj5 (Le.refl _) st6 s0 s4 rfl rfl s12 s13 s14 (SlR.mono le1 R1) (SlR.mono le1 R2) M10 H
theorem SLl94_1_z : SLl94_1 0 := by
  unfold SLl94_1; intros; rename_i H; exact absurd H (by simp [l94_1])
theorem SLl94_1_s (k : Nat) (ih : ZSLl94_0 k) : SLl94_1 (k + 1) := by
 intro p0 w0 w h0 h b1 σ b6 b7 b8 b9 i6 i7 i8 i9 i10 r st s4 s110 s111 M3 lb3 H
 rw [l94_1] at H
 refine aB e94_75<|aA e94_76<|vv rfl (aP .lss .i64 i10 (p0.length : Int) (.bool (decide (i10 < (p0.length : Int)))) 3 3 s111 s110 rfl)<|aD<|aB e94_77 ?_
 rcases aN H with ⟨hc1,H⟩ | ⟨hc1,H⟩
 · refine tr e94_78 (dT hc1) rfl<|aM e94_79<|aB e94_81<|aT e94_82<|aB e94_83<|aA e94_84<|vv rfl (aE (I i10) s111)<|vv rfl (aC (I i10) rfl)<|aD<|aB e94_85 ?_
   refine aA e94_86<|vv rfl (aE (I i10) rfl) ?_
   obtain ⟨hs1,H⟩ := cD H
   refine vv rfl (x_indexAddrA (i := (i10 : Int).toNat) u154 sz152 s4 rfl (Int.toNat_of_nonneg hs1.1).symm (tn_lt (n := 4) hs1.1 hs1.2))<|vv rfl (aF (b := b1) (o := 0 + (i10 : Int).toNat * 2) fl152_0 rfl)<|vv rfl (aL (.bool (([b6,b7,b8,b9] : List Bool).getD (i10 : Int).toNat false)) sc4 rfl ((aQ M3.get).trans (by have hq_ := (tn_lt (n := 4) hs1.1 hs1.2); generalize (i10 : Int).toNat = q_ at hq_ ⊢; match q_,hq_ with | 0,_ => rfl | 1,_ => rfl | 2,_ => rfl | 3,_ => rfl | n_ + 4,h_ => exact absurd h_ (by omega))))<|vv rfl (eA (([b6,b7,b8,b9] : List Bool).getD (i10 : Int).toNat false) 4 rfl)<|aD ?_
   rcases aN H with ⟨hc2,H⟩ | ⟨hc2,H⟩
   · refine fa e94_87 (bL hc2) rfl<|aM e94_91<|aW<|aA e94_92<|vv rfl (aP .add .i64 i10 1 (I (wr (i10 + 1))) 3 3 s111 rfl rfl)<|vv rfl (aE (I (wr (i10 + 1))) rfl)<|aD<|bF ?_
     exact ih.2 st s4 s110 rfl M3 lb3 H
   refine tr e94_87 (bK (cA hc2)) rfl<|aB e94_88<|aA e94_89<|vv rfl (bH [.bool b6,I i6,.bool b7,I i7,.bool b8,I i8,.bool b9,I i9] ag154 sz154 s4 rfl (aY M3.get rfl))<|aV (o := 0) (n := 8) [.bool b6,I i6,.bool b7,I i7,.bool b8,I i8,.bool b9,I i9] [.bool b6,I i6,.bool b7,I i7,.bool b8,I i8,.bool b9,I i9] (.agg #[.bool b6,I i6,.bool b7,I i7,.bool b8,I i8,.bool b9,I i9]) sz154 rfl rfl s4 rfl M3 rfl rfl rfl rfl rfl (fun w3 wr2 M5 => ?_)
   have sp3 := wr2.st st.has M3.none
   have st3 := st.call sp3 (fun x e => (.inl (e ▸ lb3)))
   refine vv rfl (aC (.bool false) rfl)<|aD ?_
   cases H
   exact aJ e94_90 (eK Try.results94 (eI [.bool b6,I i6,.bool b7,I i7,.bool b8,I i8,.bool b9,I i9] ag154 sz154 s4 rfl (aY M5.get rfl)) rfl ⟨h,rfl,st3⟩)
 refine fa e94_78 (dF hc1) rfl<|bM e94_80 rfl<|aB e94_93<|aA e94_94<|vv rfl (bH [.bool b6,I i6,.bool b7,I i7,.bool b8,I i8,.bool b9,I i9] ag154 sz154 s4 rfl (aY M3.get rfl))<|aV (o := 0) (n := 8) [.bool b6,I i6,.bool b7,I i7,.bool b8,I i8,.bool b9,I i9] [.bool b6,I i6,.bool b7,I i7,.bool b8,I i8,.bool b9,I i9] (.agg #[.bool b6,I i6,.bool b7,I i7,.bool b8,I i8,.bool b9,I i9]) sz154 rfl rfl s4 rfl M3 rfl rfl rfl rfl rfl (fun w2 wr1 M4 => ?_)
 have sp2 := wr1.st st.has M3.none
 have st2 := st.call sp2 (fun x e => (.inl (e ▸ lb3)))
 refine vv rfl (aC (.bool true) rfl)<|aD ?_
 cases H
 exact aJ e94_95 (eK Try.results94 (eI [.bool b6,I i6,.bool b7,I i7,.bool b8,I i8,.bool b9,I i9] ag154 sz154 s4 rfl (aY M4.get rfl)) rfl ⟨h,rfl,st2⟩)
theorem ZSLl94_0_all : ∀ k,ZSLl94_0 k
  | 0 => ⟨SLl94_0_z,SLl94_1_z⟩
  | k + 1 => ⟨SLl94_0_s k (ZSLl94_0_all k),SLl94_1_s k (ZSLl94_0_all k)⟩
theorem Fl94_0 (k : Nat) : SLl94_0 k := (ZSLl94_0_all k).1
theorem F94 (k : Nat) : S94 k := by
 intro p0 bA cY bC cZ p1 w0 h0 hh Rp0 Rp1 r H
 unfold m94 at H
 refine aO (fn := Try.f94) Try.func94 rfl (Nat.le_of_ble_eq_true rfl) ?_
 show Run X94 [.code c94_0] (fun t => List.getD [.slice bA p0.length bC,.slice cY p1.length cZ] t undef) w0 (.fn (Q94 w0 h0 r))
 have st0 := St.init hh noM
 refine aB e94_0<|aA e94_1<|cF (.agg #[.bool false,I 0,.bool false,I 0,.bool false,I 0,.bool false,I 0]) zr154 rfl rfl (fun b1 w1 al1 => ?_)
 replace al1 : Al _ (.cells (List.toArray [.bool false,I 0,.bool false,I 0,.bool false,I 0,.bool false,I 0]) 154 (0,0)) b1 w1 := al1
 have M1 := Mut.new st0 al1
 have lb1 := st0.alB al1
 have sp1 := al1.st st0.has
 have st1 := st0.call0 sp1
 refine vv rfl (aC (.bool false) rfl)<|aD<|aB e94_2<|aA e94_3<|vv rfl (aC (I 0) rfl)<|aD<|aB e94_4<|aB e94_5<|aA e94_6<|vv rfl (aE (.slice cY p1.length cZ) rfl) ?_
 refine vv rfl (bN u78 rfl)<|vv rfl (aE (I 0) rfl)<|aD<|aT e94_7<|cB e94_8 ?_
 exact Fl94_0 k (j1 := 0) st1 rfl rfl rfl rfl rfl rfl Rp0 M1 lb1 Rp1 rfl H
abbrev ZSLl84_0 (k : Nat) : Prop := SLl84_0 k
theorem SLl84_0_z : SLl84_0 0 := by
  unfold SLl84_0; intros; rename_i H; exact absurd H (by simp [l84_0])
theorem SLl84_0_s (k : Nat) (ih : ZSLl84_0 k) : SLl84_0 (k + 1) := by
 intro p0 l1 bA cY a1 bC cZ b1 c1 j3 p1 w0 w h0 h r2 σ xs1 r st s0 s8 s10 s33 s34 s35 R1 g2 O2 R2 hd1 H
 cases xs1 with
 | nil =>
  rw [l84_0] at H
  have hk1 := cV hd1
  refine aB e84_29<|aA e84_30<|vv rfl (aP .lss .i64 (j3 : Int) (p1.length : Int) (.bool (decide ((j3 : Int) < (p1.length : Int)))) 3 3 s35 s34 rfl)<|aD<|aB e84_31<|fa e84_32 hk1 rfl<|bM e84_34 rfl<|aB e84_60<|aA e84_61<|vv rfl (aE (.slice a1 l1.length c1) s10) ?_
  refine vv rfl (aC (.slice a1 l1.length c1) rfl)<|vv rfl (aC (I 0) rfl)<|aD ?_
  obtain ⟨h4,le2,st7,R3,kp2⟩ := O2.frz st (Nat.le_refl _)
  cases H
  exact aJ e84_62 (eK Try.results84 rfl rfl ⟨a1,c1,h4,rfl,st7,R3⟩)
 | cons x1 xs2 =>
  rw [l84_0] at H
  obtain ⟨hk2,hj1,hx1,hd2⟩ := cL hd1
  refine aB e84_29<|aA e84_30<|vv rfl (aP .lss .i64 (j3 : Int) (p1.length : Int) (.bool (decide ((j3 : Int) < (p1.length : Int)))) 3 3 s35 s34 rfl)<|aD<|aB e84_31<|tr e84_32 hk2 rfl<|aM e84_33<|aB e84_35<|aT e84_36<|aB e84_37 ?_
  refine aA e84_38<|vv rfl (aE (I (j3 : Int)) s35) ?_
  obtain ⟨b3,o1,vs1,ea1,rp1,cl1⟩ := SlR.at R2 hx1
  obtain rfl := GSpec.out rp1
  refine vv rfl (aX u78 sz137 s33 s35 ea1 (Int.natCast_nonneg _) (Int.ofNat_lt.2 hj1))<|vv rfl (bH [I x1.Kind,I x1.Mode,I x1.Size] ag137 sz137 rfl rfl (cl1 _ (Has.le (Le.refl _) st.has)))<|cF (.agg #[I 0,I 0,I 0]) zr137 rfl rfl (fun b4 w6 al3 => ?_)
  replace al3 : Al _ (.cells (List.toArray [I 0,I 0,I 0]) 137 (0,0)) b4 w6 := al3
  have M3 := Mut.new st al3
  have lb2 := st.alB al3
  have sp6 := al3.st st.has
  have O3 := O2.call0 sp6
  have st8 := st.call0 sp6
  refine vv rfl (aC (I (j3 : Int)) rfl)<|aV (o := 0) (n := 3) [I x1.Kind,I x1.Mode,I x1.Size] [I x1.Kind,I x1.Mode,I x1.Size] (.agg #[I x1.Kind,I x1.Mode,I x1.Size]) sz137 rfl rfl rfl rfl M3 rfl rfl rfl rfl rfl (fun w7 wr2 M4 => ?_)
  have sp7 := wr2.st st8.has M3.none
  have O4 := O3.call sp7 (fun x hx e => (absurd (e ▸ hx) (O3.ne_mut M3 (by decide))))
  have st9 := st8.call sp7 (fun x e => (.inl (e ▸ lb2)))
  obtain ⟨h5,le3,g3,st10,kp3⟩ := M4.fz st9 lb2
  have O5 := O4.fr le3 kp3 (O4.ne_mut M4 (by decide))
  refine aD<|aB e84_39<|aB e84_40<|aA e84_41<|vv rfl (aF (b := b4) (o := 0) fl137_1 rfl)<|vv rfl (aL (I x1.Mode) sc3 rfl ((aQ (st10.has _ _ g3)).trans rfl)) ?_
  obtain ⟨hs2,H⟩ := cD H
  refine vv rfl (x_indexAddrA (i := (x1.Mode : Int).toNat) u154 sz152 s8 rfl (Int.toNat_of_nonneg hs2.1).symm (tn_lt (n := 4) hs2.1 hs2.2))<|vv rfl (aF (b := b1) (o := 0 + (x1.Mode : Int).toNat * 2) fl152_1 rfl)<|vv rfl (aL (I (([r2.1.e0.block,r2.1.e1.block,r2.1.e2.block,r2.1.e3.block] : List Int).getD (x1.Mode : Int).toNat 0)) sc3 rfl ((aQ (st10.has _ _ (le3 _ _ g2))).trans (by have hq_ := (tn_lt (n := 4) hs2.1 hs2.2); generalize (x1.Mode : Int).toNat = q_ at hq_ ⊢; match q_,hq_ with | 0,_ => rfl | 1,_ => rfl | 2,_ => rfl | 3,_ => rfl | n_ + 4,h_ => exact absurd h_ (by omega))))<|vv rfl (aC (I (([r2.1.e0.block,r2.1.e1.block,r2.1.e2.block,r2.1.e3.block] : List Int).getD (x1.Mode : Int).toNat 0)) rfl)<|aD<|aT e84_42<|aB e84_43<|aA e84_44<|vv rfl (aF (b := b4) (o := 0) fl137_0 rfl)<|vv rfl (aL (I x1.Kind) sc3 rfl ((aQ (st10.has _ _ g3)).trans rfl)) ?_
  refine vv rfl (aP .eql .i64 x1.Kind 4 (.bool (decide (x1.Kind = 4))) 3 3 rfl rfl rfl)<|vv rfl (aC (.bool (decide (x1.Kind = 4))) rfl)<|aD ?_
  obtain ⟨j4,hj4,H⟩ := dE H
  have Jj4 : ∀ {y1 : (List Int)} {a2 : OA} {c2 : Nat} {σ1 : Env} {w11 : World} {h6 : Sto},Le h5 h6 → St w0 noM h0 h6 w11 → σ1 0 = .slice bA p0.length bC → σ1 8 = .pointer (some ⟨b1,0,none⟩) → σ1 10 = .slice a2 y1.length c2 → σ1 11 = I (j3 : Int) → σ1 33 = .slice cY p1.length cZ → σ1 34 = I (p1.length : Int) → σ1 35 = I (j3 : Int) → SlR h6 bA bC p0 → Own 3 w0.heap.size h6 w11 a2 c2 y1 → SlR h6 cY cZ p1 → j4 y1 = some r → Run X84 [.inBlock 2,.code c84_52,.inBlock 1,.code c84_59,.inLoop c84_29,.inBlock 0,.code c84_60] σ1 w11 (.fn (Q84 w0 h0 r)) := by
   intro y1 a2 c2 σ1 w11 h6 le4 st14 s0_j4 s8_j4 s10_j4 s11_j4 s33_j4 s34_j4 s35_j4 R4 O9 R5 H
   rw [hj4] at H
   refine aW<|aB e84_52<|aA e84_53<|vv rfl (aE (.slice a2 y1.length c2) s10_j4)<|vv rfl (aE (I (j3 : Int)) s11_j4) ?_
   obtain ⟨x7,hx7,H⟩ := aK H
   have hi6 := dB hx7
   obtain ⟨b10,hab4⟩ := Own.adr O9 hi6.2.2
   refine vv rfl (aX u43 sz3 rfl rfl hab4 hi6.1 hi6.2.1) ?_
   obtain ⟨vs7,rp7,hl4,cl7⟩ := Own.cell O9 hab4 hi6.2.2
   obtain rfl := rp7
   refine vv rfl (aL (I x7) sc3 rfl ((cl7 0 (by decide)).trans rfl))<|vv rfl (aP .gtr .i64 x7 2147483648 (.bool (decide (2147483648 < x7))) 3 3 rfl rfl rfl)<|aD ?_
   rcases aN H with ⟨hc5,H⟩ | ⟨hc5,H⟩
   · refine tr e84_54 (dT hc5) rfl<|aB e84_55<|aA e84_56<|vv rfl (aC (.slice none 0 0) rfl)<|vv rfl (aC (I 2) rfl)<|aD ?_
     cases H
     exact aJ e84_57 (eK Try.results84 rfl rfl ⟨none,0,h6,rfl,st14,(SlR.none _)⟩)
   refine fa e84_54 (dF hc5) rfl<|aM e84_58<|aW<|aA e84_59<|vv rfl (aP .add .i64 (j3 : Int) 1 (I ((j3 + 1 : Nat) : Int)) 3 3 s35_j4 rfl (dL hj1 R5.mx))<|vv rfl (aE (I ((j3 + 1 : Nat) : Int)) rfl)<|aD<|bF ?_
   exact ih (j3 := (j3 + 1)) st14 s0_j4 s8_j4 s10_j4 s33_j4 s34_j4 rfl R4 ((le3.trans le4) _ _ g2) O9 R5 hd2 H
  rcases aN H with ⟨hc3,H⟩ | ⟨hc3,H⟩
  · refine tr e84_45 (dT hc3) rfl<|aA e84_46<|vv rfl (aE (.slice a1 l1.length c1) s10)<|vv rfl (aE (I (j3 : Int)) rfl)<|vv rfl (aE (I (([r2.1.e0.block,r2.1.e1.block,r2.1.e2.block,r2.1.e3.block] : List Int).getD (x1.Mode : Int).toNat 0)) rfl) ?_
    obtain ⟨x2,hx2,H⟩ := aK H
    have hi1 := dB hx2
    obtain ⟨b5,hab1⟩ := Own.adr O5 hi1.2.2
    refine vv rfl (aX u43 sz3 rfl rfl hab1 hi1.1 hi1.2.1) ?_
    obtain ⟨vs2,rp2,hl1,cl2⟩ := Own.cell O5 hab1 hi1.2.2
    obtain rfl := rp2
    refine rr_storeOwn (off := 0) (n := 1) (us := [I (([r2.1.e0.block,r2.1.e1.block,r2.1.e2.block,r2.1.e3.block] : List Int).getD (x1.Mode : Int).toNat 0)]) (vs := [I x2]) (y := (([r2.1.e0.block,r2.1.e1.block,r2.1.e2.block,r2.1.e3.block] : List Int).getD (x1.Mode : Int).toNat 0)) (I (([r2.1.e0.block,r2.1.e1.block,r2.1.e2.block,r2.1.e3.block] : List Int).getD (x1.Mode : Int).toNat 0)) sz3 rfl rfl rfl rfl O5 hab1 hi1.2.2 rfl cl2 rfl rfl rfl (by decide) st10.has rfl (fun w8 O6 sp8 => ?_)
    have st11 := st10.call sp8 (fun x e => (.inl (O5.lbs x e)))
    have hlen1 := set_len l1 (((j3 : Int) : Int).toNat) (([r2.1.e0.block,r2.1.e1.block,r2.1.e2.block,r2.1.e3.block] : List Int).getD (x1.Mode : Int).toNat 0)
    refine aD ?_
    exact Jj4 (Le.refl _) st11 s0 s8 (Eq.trans s10 (sl_len hlen1)) rfl s33 s34 s35 (SlR.mono le3 R1) O6 (SlR.mono le3 R2) H
  refine fa e84_45 (dF hc3) rfl<|aB e84_47<|aA e84_48<|vv rfl (aE (I (([r2.1.e0.block,r2.1.e1.block,r2.1.e2.block,r2.1.e3.block] : List Int).getD (x1.Mode : Int).toNat 0)) rfl)<|vv rfl (aP .gtr .i64 (([r2.1.e0.block,r2.1.e1.block,r2.1.e2.block,r2.1.e3.block] : List Int).getD (x1.Mode : Int).toNat 0) 0 (.bool (decide (0 < (([r2.1.e0.block,r2.1.e1.block,r2.1.e2.block,r2.1.e3.block] : List Int).getD (x1.Mode : Int).toNat 0)))) 3 3 rfl rfl rfl)<|vv rfl (aC (.bool (decide (0 < (([r2.1.e0.block,r2.1.e1.block,r2.1.e2.block,r2.1.e3.block] : List Int).getD (x1.Mode : Int).toNat 0)))) rfl)<|aD ?_
  rcases aN H with ⟨hc4,H⟩ | ⟨hc4,H⟩
  · refine tr e84_49 (dT hc4) rfl<|aA e84_50<|vv rfl (aE (.slice a1 l1.length c1) s10)<|vv rfl (aE (I (j3 : Int)) rfl)<|vv rfl (aE (.slice bA p0.length bC) s0)<|vv rfl (aF (b := b4) (o := 0) fl137_1 rfl)<|vv rfl (aL (I x1.Mode) sc3 rfl ((aQ (st10.has _ _ g3)).trans rfl)) ?_
    obtain ⟨x3,hx3,H⟩ := aK H
    have hi2 := dB hx3
    obtain ⟨b6,o2,vs3,ea2,rp3,cl3⟩ := SlR.at (SlR.mono le3 R1) hi2.2.2
    obtain rfl := rp3
    refine vv rfl (aX u43 sz3 rfl rfl ea2 hi2.1 hi2.2.1)<|vv rfl (aL (I x3) sc3 rfl (((cl3 _ (Has.le (Le.refl _) st10.has)) 0 (by decide)).trans rfl))<|vv rfl (aE (I (([r2.1.e0.block,r2.1.e1.block,r2.1.e2.block,r2.1.e3.block] : List Int).getD (x1.Mode : Int).toNat 0)) rfl) ?_
    obtain ⟨hz1,H⟩ := cD H
    refine vv rfl (x_div .quo .i64 x3 (([r2.1.e0.block,r2.1.e1.block,r2.1.e2.block,r2.1.e3.block] : List Int).getD (x1.Mode : Int).toNat 0) (I (wr (x3.tdiv (([r2.1.e0.block,r2.1.e1.block,r2.1.e2.block,r2.1.e3.block] : List Int).getD (x1.Mode : Int).toNat 0)))) 3 3 rfl rfl hz1 rfl) ?_
    obtain ⟨x4,hx4,H⟩ := aK H
    have hi3 := dB hx4
    obtain ⟨b7,hab2⟩ := Own.adr O5 hi3.2.2
    refine vv rfl (aX u43 sz3 rfl rfl hab2 hi3.1 hi3.2.1) ?_
    obtain ⟨vs4,rp4,hl2,cl4⟩ := Own.cell O5 hab2 hi3.2.2
    obtain rfl := rp4
    refine rr_storeOwn (off := 0) (n := 1) (us := [I (wr (x3.tdiv (([r2.1.e0.block,r2.1.e1.block,r2.1.e2.block,r2.1.e3.block] : List Int).getD (x1.Mode : Int).toNat 0)))]) (vs := [I x4]) (y := (wr (x3.tdiv (([r2.1.e0.block,r2.1.e1.block,r2.1.e2.block,r2.1.e3.block] : List Int).getD (x1.Mode : Int).toNat 0)))) (I (wr (x3.tdiv (([r2.1.e0.block,r2.1.e1.block,r2.1.e2.block,r2.1.e3.block] : List Int).getD (x1.Mode : Int).toNat 0)))) sz3 rfl rfl rfl rfl O5 hab2 hi3.2.2 rfl cl4 rfl rfl rfl (by decide) st10.has rfl (fun w9 O7 sp9 => ?_)
    have st12 := st10.call sp9 (fun x e => (.inl (O5.lbs x e)))
    have hlen2 := set_len l1 (((j3 : Int) : Int).toNat) (wr (x3.tdiv (([r2.1.e0.block,r2.1.e1.block,r2.1.e2.block,r2.1.e3.block] : List Int).getD (x1.Mode : Int).toNat 0)))
    refine aD ?_
    exact Jj4 (Le.refl _) st12 s0 s8 (Eq.trans s10 (sl_len hlen2)) rfl s33 s34 s35 (SlR.mono le3 R1) O7 (SlR.mono le3 R2) H
  refine fa e84_49 (dF hc4) rfl<|aA e84_51<|vv rfl (aE (.slice a1 l1.length c1) s10)<|vv rfl (aE (I (j3 : Int)) rfl)<|vv rfl (aE (.slice bA p0.length bC) s0)<|vv rfl (aF (b := b4) (o := 0) fl137_1 rfl)<|vv rfl (aL (I x1.Mode) sc3 rfl ((aQ (st10.has _ _ g3)).trans rfl)) ?_
  obtain ⟨x5,hx5,H⟩ := aK H
  have hi4 := dB hx5
  obtain ⟨b8,o3,vs5,ea3,rp5,cl5⟩ := SlR.at (SlR.mono le3 R1) hi4.2.2
  obtain rfl := rp5
  refine vv rfl (aX u43 sz3 rfl rfl ea3 hi4.1 hi4.2.1)<|vv rfl (aL (I x5) sc3 rfl (((cl5 _ (Has.le (Le.refl _) st10.has)) 0 (by decide)).trans rfl)) ?_
  obtain ⟨x6,hx6,H⟩ := aK H
  have hi5 := dB hx6
  obtain ⟨b9,hab3⟩ := Own.adr O5 hi5.2.2
  refine vv rfl (aX u43 sz3 rfl rfl hab3 hi5.1 hi5.2.1) ?_
  obtain ⟨vs6,rp6,hl3,cl6⟩ := Own.cell O5 hab3 hi5.2.2
  obtain rfl := rp6
  refine rr_storeOwn (off := 0) (n := 1) (us := [I x5]) (vs := [I x6]) (y := x5) (I x5) sz3 rfl rfl rfl rfl O5 hab3 hi5.2.2 rfl cl6 rfl rfl rfl (by decide) st10.has rfl (fun w10 O8 sp10 => ?_)
  have st13 := st10.call sp10 (fun x e => (.inl (O5.lbs x e)))
  have hlen3 := set_len l1 (((j3 : Int) : Int).toNat) x5
  refine aD ?_
  exact Jj4 (Le.refl _) st13 s0 s8 (Eq.trans s10 (sl_len hlen3)) rfl s33 s34 s35 (SlR.mono le3 R1) O8 (SlR.mono le3 R2) H
theorem ZSLl84_0_all : ∀ k,ZSLl84_0 k
  | 0 => SLl84_0_z
  | k + 1 => SLl84_0_s k (ZSLl84_0_all k)
theorem Fl84_0 (k : Nat) : SLl84_0 k := (ZSLl84_0_all k)
theorem F84 (k : Nat) : S84 k := by
 intro p0 bA cY bC cZ p1 w0 h0 hh Rp0 Rp1 r H
 unfold m84 at H
 refine aO (fn := Try.f84) Try.func84 rfl (Nat.le_of_ble_eq_true rfl) ?_
 show Run X84 [.code c84_0] (fun t => List.getD [.slice bA p0.length bC,.slice cY p1.length cZ] t undef) w0 (.fn (Q84 w0 h0 r))
 have st0 := St.init hh noM
 refine aB e84_0<|aA e84_1<|vv rfl (aC (.slice none 0 0) rfl)<|vv rfl (aC (I 0) rfl)<|aD<|aB e84_2<|aB e84_3<|aA e84_4<|vv rfl (aE (.slice bA p0.length bC) rfl) ?_
 obtain ⟨r1,hr1,H⟩ := aK H
 refine aU [.slice bA p0.length bC] en93 rfl rfl rfl (F93 k st0.has Rp0 hr1) ?_
 rintro _ w1 ⟨h1,rfl,sp1⟩
 have st1 := st0.call0 sp1
 refine vv rfl (aE (.tuple #[I r1.1,I r1.2]) rfl)<|vv rfl (bJ (I r1.1) rfl rfl)<|vv rfl (bJ (I r1.2) rfl rfl)<|vv rfl (aC (I r1.1) rfl)<|vv rfl (aC (I r1.2) rfl)<|aD<|aB e84_5<|aA e84_6<|vv rfl (aE (I r1.2) rfl)<|vv rfl (aP .neq .i64 r1.2 0 (.bool (!decide (r1.2 = 0))) 35 35 rfl rfl rfl) ?_
 refine aD ?_
 rcases aN H with ⟨hc1,H⟩ | ⟨hc1,H⟩
 · refine fa e84_7 (bL (dT hc1)) rfl<|aM e84_11<|aB e84_12<|aA e84_13<|vv rfl (aE (.slice bA p0.length bC) rfl)<|vv rfl (aE (.slice cY p1.length cZ) rfl) ?_
   obtain ⟨r2,hr2,H⟩ := aK H
   refine aU [.slice bA p0.length bC,.slice cY p1.length cZ] en94 rfl rfl rfl (F94 k st1.has (SlR.mono sp1.le Rp0) (SlR.mono sp1.le Rp1) hr2) ?_
   rintro _ w2 ⟨h2,rfl,sp2⟩
   have st2 := st1.call0 sp2
   refine vv rfl (aE (.tuple #[.agg #[.bool r2.1.e0.met,I r2.1.e0.block,.bool r2.1.e1.met,I r2.1.e1.block,.bool r2.1.e2.met,I r2.1.e2.block,.bool r2.1.e3.met,I r2.1.e3.block],.bool r2.2]) rfl)<|vv rfl (bJ (.agg #[.bool r2.1.e0.met,I r2.1.e0.block,.bool r2.1.e1.met,I r2.1.e1.block,.bool r2.1.e2.met,I r2.1.e2.block,.bool r2.1.e3.met,I r2.1.e3.block]) rfl rfl)<|vv rfl (bJ (.bool r2.2) rfl rfl)<|cF (.agg #[.bool false,I 0,.bool false,I 0,.bool false,I 0,.bool false,I 0]) zr154 rfl rfl (fun b1 w3 al1 => ?_)
   replace al1 : Al _ (.cells (List.toArray [.bool false,I 0,.bool false,I 0,.bool false,I 0,.bool false,I 0]) 154 (0,0)) b1 w3 := al1
   have M1 := Mut.new st2 al1
   have lb1 := st2.alB al1
   have sp3 := al1.st st2.has
   have st3 := st2.call0 sp3
   refine aV (o := 0) (n := 8) [.bool r2.1.e0.met,I r2.1.e0.block,.bool r2.1.e1.met,I r2.1.e1.block,.bool r2.1.e2.met,I r2.1.e2.block,.bool r2.1.e3.met,I r2.1.e3.block] [.bool r2.1.e0.met,I r2.1.e0.block,.bool r2.1.e1.met,I r2.1.e1.block,.bool r2.1.e2.met,I r2.1.e2.block,.bool r2.1.e3.met,I r2.1.e3.block] (.agg #[.bool r2.1.e0.met,I r2.1.e0.block,.bool r2.1.e1.met,I r2.1.e1.block,.bool r2.1.e2.met,I r2.1.e2.block,.bool r2.1.e3.met,I r2.1.e3.block]) sz154 rfl rfl rfl rfl M1 rfl rfl rfl rfl rfl (fun w4 wr1 M2 => ?_)
   have sp4 := wr1.st st3.has M1.none
   have st4 := st3.call sp4 (fun x e => (.inl (e ▸ lb1)))
   obtain ⟨h3,le1,g1,st5,kp1⟩ := M2.fz st4 lb1
   refine vv rfl (aC (.bool r2.2) rfl)<|aD<|aB e84_14<|aB e84_15<|aA e84_16<|vv rfl (aE (.bool r2.2) rfl)<|vv rfl (eA r2.2 4 rfl)<|aD ?_
   rcases aN H with ⟨hc2,H⟩ | ⟨hc2,H⟩
   · refine fa e84_17 (bL hc2) rfl<|aM e84_21<|aB e84_22<|aA e84_23<|vv rfl (aE (.slice cY p1.length cZ) rfl)<|vv rfl (bN u78 rfl) ?_
     obtain ⟨hs1,H⟩ := cD H
     refine rr_makeSlice (α := Int) (B := w0.heap.size) 0 u43 ap3 rfl rfl rfl hs1.1 hs1.2 rfl st5.has st5.sp.size (fun b2 w5 O1 ⟨_,al2⟩ sp5 => ?_)
     have st6 := st5.call0 sp5
     refine vv rfl (aC (.slice (some ⟨b2,0,none⟩) ((List.replicate ((p1.length : Int) : Int).toNat (0 : Int)).length) (((p1.length : Int) : Int).toNat)) rfl)<|aD<|aB e84_24<|aB e84_25<|aA e84_26<|vv rfl (aE (.slice cY p1.length cZ) rfl)<|vv rfl (bN u78 rfl)<|vv rfl (aE (I 0) rfl)<|aD<|aT e84_27 ?_
     refine cB e84_28 ?_
     exact Fl84_0 k (j3 := 0) st6 rfl rfl rfl rfl rfl rfl (SlR.mono (sp1.le.trans (sp2.le.trans le1)) Rp0) g1 O1 (SlR.mono (sp1.le.trans (sp2.le.trans le1)) Rp1) rfl H
   refine tr e84_17 (bK (cA hc2)) rfl<|aB e84_18<|aA e84_19<|vv rfl (aC (.slice none 0 0) rfl)<|vv rfl (aC (I 4) rfl)<|aD ?_
   cases H
   exact aJ e84_20 (eK Try.results84 rfl rfl ⟨none,0,h3,rfl,st5,(SlR.none _)⟩)
 refine tr e84_7 (bK (dF hc1)) rfl<|aB e84_8<|aA e84_9<|vv rfl (aE (I r1.2) rfl)<|vv rfl (aC (.slice none 0 0) rfl)<|vv rfl (aC (I r1.2) rfl)<|aD ?_
 cases H
 exact aJ e84_10 (eK Try.results84 rfl rfl ⟨none,0,h1,rfl,st1,(SlR.none _)⟩)
theorem F57 (k : Nat) : S57 k := by
 intro p0 bA cY bC cZ p1 w0 h0 hh Rp0 Rp1 r H
 unfold m57 at H
 refine aO (fn := Try.f57) Try.func57 rfl (Nat.le_of_ble_eq_true rfl) ?_
 show Run X57 [.code c57_0] (fun t => List.getD [.slice bA p0.length bC,.slice cY p1.length cZ] t undef) w0 (.fn (Q57 w0 h0 r))
 have st0 := St.init hh noM
 refine aB e57_0<|aA e57_1<|vv rfl (aC (I 0) rfl)<|aD<|aB e57_2<|aA e57_3<|vv rfl (aE (.slice bA p0.length bC) rfl)<|vv rfl (aE (.slice cY p1.length cZ) rfl) ?_
 obtain ⟨r1,hr1,H⟩ := aK H
 refine aU [.slice bA p0.length bC,.slice cY p1.length cZ] en84 rfl rfl rfl (F84 k st0.has Rp0 Rp1 hr1) ?_
 rintro _ w1 ⟨a1,c1,h1,rfl,sp1,R1⟩
 have st1 := st0.call0 sp1
 refine vv rfl (aE (.tuple #[.slice a1 r1.1.length c1,I r1.2]) rfl)<|vv rfl (bJ (.slice a1 r1.1.length c1) rfl rfl)<|vv rfl (bJ (I r1.2) rfl rfl)<|vv rfl (aC (.slice a1 r1.1.length c1) rfl)<|vv rfl (aC (I r1.2) rfl)<|aD<|aB e57_4<|aA e57_5<|vv rfl (aE (I r1.2) rfl)<|vv rfl (aC (I r1.2) rfl) ?_
 refine aD ?_
 cases H
 exact aJ e57_6 (cG Try.results57 rfl ⟨h1,rfl,st1⟩)
theorem F33 (k : Nat) : S33 k := by
 intro p0 dM dN w0 h0 hh Rp0_Shape r H
 unfold m33 at H
 refine aO (fn := Try.f33) Try.func33 rfl (Nat.le_of_ble_eq_true rfl) ?_
 show Run X33 [.code c33_0] (fun t => List.getD [.agg #[.string p0.Name,.slice dM p0.Shape.length dN,.string p0.Form,I p0.Block]] t undef) w0 (.fn (Q33 w0 h0 r))
 have st0 := St.init hh noM
 refine aB e33_0<|aA e33_1<|eF (.agg #[.string p0.Name,.slice dM p0.Shape.length dN,.string p0.Form,I p0.Block]) rfl rfl rfl (fun b1 w1 al1 => ?_)
 replace al1 : Al _ (.cells (List.toArray [.string p0.Name,.slice dM p0.Shape.length dN,.string p0.Form,I p0.Block]) 45 (0,0)) b1 w1 := al1
 obtain ⟨h1,le1,g1,sp1⟩ := al1.fz st0.has
 have st1 := st0.call0 sp1
 refine vv rfl (aC (.slice none 0 0) rfl)<|vv rfl (aC (I 0) rfl)<|aD<|aB e33_2<|aA e33_3<|vv rfl (aF (b := b1) (o := 0) fl45_2 rfl)<|vv rfl (aL (.string p0.Form) sc9 rfl ((aQ (st1.has _ _ g1)).trans rfl))<|vv rfl (aF (b := b1) (o := 0) fl45_1 rfl)<|vv rfl (aL (.slice dM p0.Shape.length dN) sc43 rfl ((aQ (st1.has _ _ g1)).trans rfl))<|vv rfl (bN u43 rfl) ?_
 refine vv rfl (aF (b := b1) (o := 0) fl45_3 rfl)<|vv rfl (aL (I p0.Block) sc3 rfl ((aQ (st1.has _ _ g1)).trans rfl)) ?_
 obtain ⟨r1,hr1,H⟩ := aK H
 refine aU [.string p0.Form,I (p0.Shape.length : Int),I p0.Block] en56 rfl rfl rfl (F56 k st1.has hr1) ?_
 rintro _ w2 ⟨a1,c1,h2,rfl,sp2,R1⟩
 have st2 := st1.call0 sp2
 refine vv rfl (aE (.tuple #[.slice a1 r1.1.length c1,I r1.2]) rfl)<|vv rfl (bJ (.slice a1 r1.1.length c1) rfl rfl)<|vv rfl (bJ (I r1.2) rfl rfl)<|vv rfl (aC (.slice a1 r1.1.length c1) rfl)<|vv rfl (aC (I r1.2) rfl)<|aD<|aB e33_4<|aB e33_5<|aA e33_6<|vv rfl (aE (I r1.2) rfl) ?_
 refine vv rfl (aP .eql .i64 r1.2 0 (.bool (decide (r1.2 = 0))) 35 35 rfl rfl rfl)<|aD ?_
 obtain ⟨j1,hj1,H⟩ := dE H
 have Jj1 : ∀ {y1 : Int} {σ1 : Env} {w4 : World} {h4 : Sto},Le h2 h4 → St w0 noM h0 h4 w4 → σ1 4 = .slice a1 r1.1.length c1 → σ1 5 = I y1 → SlR h4 a1 c1 r1.1 → j1 y1 = some r → Run X33 [.code c33_10] σ1 w4 (.fn (Q33 w0 h0 r)) := by
  intro y1 σ1 w4 h4 le2 st4 s4_j1 s5_j1 R2 H
  rw [hj1] at H
  refine aB e33_10<|aB e33_11<|aA e33_12<|vv rfl (aE (I y1) s5_j1)<|vv rfl (aP .neq .i64 y1 0 (.bool (!decide (y1 = 0))) 35 35 rfl rfl rfl)<|aD ?_
  rcases aN H with ⟨hc2,H⟩ | ⟨hc2,H⟩
  · refine fa e33_13 (bL (dT hc2)) rfl<|aM e33_17<|aB e33_18<|aA e33_19<|vv rfl (aE (.slice a1 r1.1.length c1) s4_j1)<|vv rfl (aC (.slice a1 r1.1.length c1) rfl)<|vv rfl (aC (I 0) rfl)<|aD ?_
    cases H
    exact aJ e33_20 (eK Try.results33 rfl rfl ⟨a1,c1,h4,rfl,st4,R2⟩)
  refine tr e33_13 (bK (dF hc2)) rfl<|aB e33_14<|aA e33_15<|vv rfl (aE (I y1) s5_j1)<|vv rfl (aC (.slice none 0 0) rfl)<|vv rfl (aC (I y1) rfl)<|aD ?_
  cases H
  exact aJ e33_16 (eK Try.results33 rfl rfl ⟨none,0,h4,rfl,st4,(SlR.none _)⟩)
 rcases aN H with ⟨hc1,H⟩ | ⟨hc1,H⟩
 · refine tr e33_7 (dT hc1) rfl<|aA e33_8<|vv rfl (aF (b := b1) (o := 0) fl45_1 rfl)<|vv rfl (aL (.slice dM p0.Shape.length dN) sc43 rfl ((aQ (st2.has _ _ (sp2.le _ _ g1))).trans rfl))<|vv rfl (aE (.slice a1 r1.1.length c1) rfl) ?_
   obtain ⟨r2,hr2,H⟩ := aK H
   refine aU [.slice dM p0.Shape.length dN,.slice a1 r1.1.length c1] en57 rfl rfl rfl (F57 k st2.has (SlR.mono (le1.trans sp2.le) Rp0_Shape) R1 hr2) ?_
   rintro _ w3 ⟨h3,rfl,sp3⟩
   have st3 := st2.call0 sp3
   refine vv rfl (aC (I r2) rfl)<|aD ?_
   exact Jj1 sp3.le st3 rfl rfl (SlR.mono sp3.le R1) H
 refine fa e33_7 (dF hc1) rfl<|aM e33_9 ?_
 exact Jj1 (Le.refl _) st2 rfl rfl R1 H
abbrev ZSLl15_0 (k : Nat) : Prop := SLl15_0 k
theorem SLl15_0_z : SLl15_0 0 := by
  unfold SLl15_0; intros; rename_i H; exact absurd H (by simp [l15_0])
theorem SLl15_0_s (k : Nat) (ih : ZSLl15_0 k) : SLl15_0 (k + 1) := by
 intro p0 bA bC j1 w0 w h0 h σ xs1 r st s0 s9 s10 R1 hd1 H
 cases xs1 with
 | nil =>
  rw [l15_0] at H
  have hk1 := cV hd1
  refine aB e15_7<|aA e15_8<|vv rfl (aP .lss .i64 (j1 : Int) (p0.length : Int) (.bool (decide ((j1 : Int) < (p0.length : Int)))) 3 3 s10 s9 rfl)<|aD<|aB e15_9<|fa e15_10 hk1 rfl<|bM e15_12 rfl<|aB e15_45<|aA e15_46<|vv rfl (aE (.slice bA p0.length bC) s0) ?_
  refine vv rfl (bN u22 rfl)<|vv rfl (aC (I (p0.length : Int)) rfl)<|vv rfl (aC (I 0) rfl)<|aD ?_
  cases H
  exact aJ e15_47 (eK Try.results15 rfl rfl ⟨h,rfl,st⟩)
 | cons x1 xs2 =>
  rw [l15_0] at H
  obtain ⟨hk2,hj1,hx1,hd2⟩ := cL hd1
  refine aB e15_7<|aA e15_8<|vv rfl (aP .lss .i64 (j1 : Int) (p0.length : Int) (.bool (decide ((j1 : Int) < (p0.length : Int)))) 3 3 s10 s9 rfl)<|aD<|aB e15_9<|tr e15_10 hk2 rfl<|aM e15_11<|aB e15_13<|aT e15_14<|aB e15_15 ?_
  refine aA e15_16<|vv rfl (aE (I (j1 : Int)) s10)<|vv rfl (aC (I (j1 : Int)) rfl)<|aD<|aB e15_17<|aA e15_18<|vv rfl (aE (.slice bA p0.length bC) s0)<|vv rfl (aE (I (j1 : Int)) rfl)<|vv rfl (aE (I (j1 : Int)) rfl)<|vv rfl (aP .add .i64 (j1 : Int) 1 (I ((j1 + 1 : Nat) : Int)) 3 3 rfl rfl (dL hj1 R1.mx)) ?_
  obtain ⟨hs1,H⟩ := cD H
  obtain ⟨a1,c1,ha1,hc1,R2⟩ := SlR.slice2 (lo := (j1 : Int)) (hi := ((j1 + 1 : Nat) : Int)) R1 hs1.1 hs1.2.1 hs1.2.2
  refine vv rfl (eY (l := (j1 : Int)) (h := ((j1 + 1 : Nat) : Int)) (kl := .i64) (kh := .i64) p0 rfl u22 sz45 rfl rfl rfl hs1.1 hs1.2.1 hs1.2.2 R1.lc ha1 hc1)<|vv rfl (dK (vs := [.slice a1 (((p0.take (((j1 + 1 : Nat) : Int) : Int).toNat).drop ((j1 : Int) : Int).toNat).length) c1,.slice none 0 0]) [(0,.slice a1 (((p0.take (((j1 + 1 : Nat) : Int) : Int).toNat).drop ((j1 : Int) : Int).toNat).length) c1)] bd25 rfl rfl) ?_
  obtain ⟨r1,hr1,H⟩ := aK H
  refine aU [.agg #[.slice a1 (((p0.take (((j1 + 1 : Nat) : Int) : Int).toNat).drop ((j1 : Int) : Int).toNat).length) c1,.slice none 0 0]] en26 rfl rfl rfl (F26 k (p0 := (⟨(p0.take (((j1 + 1 : Nat) : Int) : Int).toNat).drop ((j1 : Int) : Int).toNat,[]⟩ : GProg)) st.has R2 (SlR.none _) hr1) ?_
  rintro _ w1 ⟨h1,rfl,sp1⟩
  have st1 := st.call0 sp1
  refine vv rfl (aC (I r1) rfl)<|aD<|aB e15_19<|aB e15_20<|aA e15_21<|vv rfl (aE (I r1) rfl)<|vv rfl (aP .eql .i64 r1 0 (.bool (decide (r1 = 0))) 35 35 rfl rfl rfl)<|aD ?_
  obtain ⟨j2,hj2,H⟩ := dE H
  have Jj2 : ∀ {y2 : Int} {σ2 : Env} {w4 : World} {h3 : Sto},Le h1 h3 → St w0 noM h0 h3 w4 → σ2 0 = .slice bA p0.length bC → σ2 4 = I (j1 : Int) → σ2 5 = I y2 → σ2 9 = I (p0.length : Int) → σ2 10 = I (j1 : Int) → SlR h3 bA bC p0 → j2 y2 = some r → Run X15 [.code c15_31,.inBlock 1,.code c15_44,.inLoop c15_7,.inBlock 0,.code c15_45] σ2 w4 (.fn (Q15 w0 h0 r)) := by
   intro y2 σ2 w4 h3 le2 st4 s0_j2 s4_j2 s5_j2 s9_j2 s10_j2 R4 H
   rw [hj2] at H
   refine aB e15_31<|aB e15_32<|aA e15_33<|vv rfl (aE (I y2) s5_j2)<|vv rfl (aP .eql .i64 y2 0 (.bool (decide (y2 = 0))) 35 35 rfl rfl rfl)<|aD ?_
   obtain ⟨j4,hj4,H⟩ := dE H
   have Jj4 : ∀ {y3 : Int} {σ3 : Env} {w6 : World} {h5 : Sto},Le h3 h5 → St w0 noM h0 h5 w6 → σ3 0 = .slice bA p0.length bC → σ3 4 = I (j1 : Int) → σ3 5 = I y3 → σ3 9 = I (p0.length : Int) → σ3 10 = I (j1 : Int) → SlR h5 bA bC p0 → j4 y3 = some r → Run X15 [.code c15_37,.inBlock 1,.code c15_44,.inLoop c15_7,.inBlock 0,.code c15_45] σ3 w6 (.fn (Q15 w0 h0 r)) := by
    intro y3 σ3 w6 h5 le3 st6 s0_j4 s4_j4 s5_j4 s9_j4 s10_j4 R7 H
    rw [hj4] at H
    refine aB e15_37<|aA e15_38<|vv rfl (aE (I y3) s5_j4)<|vv rfl (aP .neq .i64 y3 0 (.bool (!decide (y3 = 0))) 35 35 rfl rfl rfl)<|aD ?_
    rcases aN H with ⟨hc5,H⟩ | ⟨hc5,H⟩
    · refine fa e15_39 (bL (dT hc5)) rfl<|aM e15_43<|aW<|aA e15_44<|vv rfl (aP .add .i64 (j1 : Int) 1 (I ((j1 + 1 : Nat) : Int)) 3 3 s10_j4 rfl (dL hj1 R7.mx))<|vv rfl (aE (I ((j1 + 1 : Nat) : Int)) rfl)<|aD<|bF ?_
      exact ih (j1 := (j1 + 1)) st6 s0_j4 s9_j4 rfl R7 hd2 H
    refine tr e15_39 (bK (dF hc5)) rfl<|aB e15_40<|aA e15_41<|vv rfl (aE (I (j1 : Int)) s4_j4)<|vv rfl (aE (I y3) s5_j4)<|vv rfl (aC (I (j1 : Int)) rfl)<|vv rfl (aC (I y3) rfl)<|aD ?_
    cases H
    exact aJ e15_42 (eK Try.results15 rfl rfl ⟨h5,rfl,st6⟩)
   rcases aN H with ⟨hc4,H⟩ | ⟨hc4,H⟩
   · refine tr e15_34 (dT hc4) rfl<|aA e15_35<|vv rfl (aE (.slice bA p0.length bC) s0_j2)<|vv rfl (aE (I (j1 : Int)) s4_j2) ?_
     obtain ⟨b1,o1,vs1,ea1,rp1,cl1⟩ := SlR.at R4 hx1
     obtain ⟨a2,c2,rfl,R5⟩ := GDecl.out rp1
     refine vv rfl (aX u22 sz45 rfl rfl ea1 (Int.natCast_nonneg _) (Int.ofNat_lt.2 hj1))<|vv rfl (bH [.string x1.Name,.slice a2 x1.Shape.length c2,.string x1.Form,I x1.Block] ag45 sz45 rfl rfl (cl1 _ (Has.le (Le.refl _) st4.has))) ?_
     obtain ⟨r2,hr2,H⟩ := aK H
     refine aU [.agg #[.string x1.Name,.slice a2 x1.Shape.length c2,.string x1.Form,I x1.Block]] en33 rfl rfl rfl (F33 k (p0 := x1) st4.has R5 hr2) ?_
     rintro _ w5 ⟨a3,c3,h4,rfl,sp3,R6⟩
     have st5 := st4.call0 sp3
     refine vv rfl (aE (.tuple #[.slice a3 r2.1.length c3,I r2.2]) rfl)<|vv rfl (bJ (.slice a3 r2.1.length c3) rfl rfl)<|vv rfl (bJ (I r2.2) rfl rfl)<|vv rfl (aC (I r2.2) rfl)<|aD ?_
     exact Jj4 sp3.le st5 s0_j2 s4_j2 rfl s9_j2 s10_j2 (SlR.mono sp3.le R4) H
   refine fa e15_34 (dF hc4) rfl<|aM e15_36 ?_
   exact Jj4 (Le.refl _) st4 s0_j2 s4_j2 s5_j2 s9_j2 s10_j2 R4 H
  rcases aN H with ⟨hc2,H⟩ | ⟨hc2,H⟩
  · refine tr e15_22 (dT hc2) rfl<|aB e15_23 ?_
    obtain ⟨j3,hj3,H⟩ := dE H
    have Jj3 : ∀ {y1 : Bool} {σ1 : Env} {w3 : World} {h2 : Sto},Le h1 h2 → St w0 noM h0 h2 w3 → σ1 0 = .slice bA p0.length bC → σ1 4 = I (j1 : Int) → σ1 5 = I r1 → σ1 7 = .bool y1 → σ1 9 = I (p0.length : Int) → σ1 10 = I (j1 : Int) → SlR h2 bA bC p0 → j3 y1 = some r → Run X15 [.code c15_25,.code c15_31,.inBlock 1,.code c15_44,.inLoop c15_7,.inBlock 0,.code c15_45] σ1 w3 (.fn (Q15 w0 h0 r)) := by
     intro y1 σ1 w3 h2 le1 st3 s0_j3 s4_j3 s5_j3 s7_j3 s9_j3 s10_j3 R3 H
     rw [hj3] at H
     refine aB e15_25<|aA e15_26<|vv rfl (aE (.bool y1) s7_j3)<|aD ?_
     rcases aN H with ⟨hc3,H⟩ | ⟨hc3,H⟩
     · refine tr e15_27 hc3 rfl<|aA e15_28<|vv rfl (aC (I 7) rfl)<|aD ?_
       exact Jj2 le1 st3 s0_j3 s4_j3 rfl s9_j3 s10_j3 R3 H
     refine fa e15_27 (cA hc3) rfl<|aM e15_29 ?_
     exact Jj2 le1 st3 s0_j3 s4_j3 s5_j3 s9_j3 s10_j3 R3 H
    obtain ⟨fO,H⟩ := cD H
    obtain ⟨bV,hrd1_8_2,H⟩ := aK H
    refine dW [[(0,false),(1,false),(2,false),(3,false),(4,false),(5,false),(6,false),(7,false),(8,true),(9,false),(10,false),(11,false),(12,true),(13,true),(14,false)],[(0,false),(1,false),(2,false),(3,false),(4,false),(5,false),(6,false),(7,false),(12,true),(8,true),(9,false),(10,false),(11,false),(13,true),(14,false)]] [8,12,13] [0,1,2,3,4,5,6,7,8,9,10,11,12,13,14] [0,1,2,3,4,5,6,7,8,9,10,12,13,11,14] (fun w_ => Has h1 w_ ∧ True) e15_24 k15_24 m15_24 (fun w2 al1 => ?_)
    have sp2 := al1.st st1.has
    have st2 := st1.call0 sp2
    refine ⟨⟨Has.le (Le.refl _) st2.has,trivial⟩,?_,?_,trivial⟩
    · refine bI rfl rfl (fun w_ ok_ => aE (.slice bA p0.length bC) s0)<|bI rfl rfl (fun w_ ok_ => aE (I (j1 : Int)) rfl) ?_
      obtain ⟨bd1_2_1,od1_2_2,vsd1_2_3,ead1_2_4,rpd1_2_5,cld1_2_6⟩ := SlR.at (SlR.mono sp1.le R1) hx1
      obtain ⟨ad1_2_7,cd1_2_8,rfl,Rd1_2_9⟩ := GDecl.out rpd1_2_5
      refine bI rfl rfl (fun w_ ok_ => aX u22 sz45 rfl rfl ead1_2_4 (Int.natCast_nonneg _) (Int.ofNat_lt.2 hj1))<|bI rfl rfl (fun w_ ok_ => aF (b := bd1_2_1) (o := od1_2_2 + ((j1 : Int) : Int).toNat * 4) fl45_0 rfl)<|bI rfl rfl (fun w_ ok_ => aL (.string x1.Name) sc9 rfl (el_one (cld1_2_6 _ (Has.le (Le.refl _) ok_.1)) (by decide) rfl))<|bI rfl rfl (fun w_ ok_ => aE (.slice bA p0.length bC) s0)<|bI rfl rfl (fun w_ ok_ => aE (I (j1 : Int)) rfl) ?_
      obtain ⟨ad1_7_3,cd1_7_4,had1_7_5,hcd1_7_6,Rd1_7_2⟩ := SlR.slice2 (lo := 0) (hi := (j1 : Int)) (SlR.mono sp1.le R1) fO.1 fO.2.1 fO.2.2
      refine bI rfl rfl (fun w_ ok_ => eY (l := 0) (h := (j1 : Int)) (kl := .i64) (kh := .i64) p0 rfl u22 sz45 rfl rfl rfl fO.1 fO.2.1 fO.2.2 (SlR.mono sp1.le R1).lc had1_7_5 hcd1_7_6) ?_
      refine dr_c rfl (fJ [.string x1.Name,.slice ad1_7_3 (((p0.take ((j1 : Int) : Int).toNat).drop (0 : Int).toNat).length) cd1_7_4] en13 rfl rfl (F13 k st2.has Rd1_7_2 hrd1_8_2) ?_)
      rintro _ wd1_8_3 ⟨eV,eW,hd1_8_4,rfl,cM,Rd1_8_8⟩
      have fW := st2.call0 cM
      refine ⟨.inr ⟨Has.le cM.le fW.has,trivial⟩,?_⟩
      refine bI rfl rfl (fun w_ ok_ => aE (.tuple #[.agg #[.string bV.1.Name,.slice eV bV.1.Shape.length eW,.string bV.1.Form,I bV.1.Block],.bool bV.2]) rfl)<|bI rfl rfl (fun w_ ok_ => bJ (.agg #[.string bV.1.Name,.slice eV bV.1.Shape.length eW,.string bV.1.Form,I bV.1.Block]) rfl rfl)<|bI rfl rfl (fun w_ ok_ => bJ (.bool bV.2) rfl rfl)<|dr_c rfl (od_alloc (.agg #[.string ByteArray.empty,.slice none 0 0,.string ByteArray.empty,I 0]) zr45 rfl (fun bd1_12_1 wd1_12_2 fD => ?_))
      replace fD : Al _ (.cells (List.toArray [.string ByteArray.empty,.slice none 0 0,.string ByteArray.empty,I 0]) 45 (0,0)) bd1_12_1 wd1_12_2 := fD
      have Md1_12_4 := Mut.new fW fD
      have lbd1_12_5 := fW.alB fD
      have spd1_12_6 := fD.st fW.has
      have std1_12_7 := fW.call0 spd1_12_6
      refine ⟨.inr ⟨Has.le cM.le std1_12_7.has,trivial⟩,?_⟩
      refine dr_c rfl (od_store (o := 0) (n := 4) [.string bV.1.Name,.slice eV bV.1.Shape.length eW,.string bV.1.Form,I bV.1.Block] [.string bV.1.Name,.slice eV bV.1.Shape.length eW,.string bV.1.Form,I bV.1.Block] (.agg #[.string bV.1.Name,.slice eV bV.1.Shape.length eW,.string bV.1.Form,I bV.1.Block]) sz45 rfl rfl rfl Md1_12_4 rfl rfl rfl rfl rfl (fun wd1_13_1 wrd1_13_2 Md1_13_3 => ?_))
      have spd1_13_4 := wrd1_13_2.st std1_12_7.has Md1_12_4.none
      have std1_13_5 := std1_12_7.call spd1_13_4 (fun x e => (.inl (e ▸ lbd1_12_5)))
      obtain ⟨hd1_13_6,led1_13_7,gd1_13_8,std1_13_9,kpd1_13_10⟩ := Md1_13_3.fz std1_13_5 lbd1_12_5
      refine ⟨.inr ⟨Has.le (cM.le.trans led1_13_7) std1_13_9.has,trivial⟩,?_⟩
      refine bI rfl rfl (fun w_ ok_ => aC (.bool bV.2) rfl)<|dZ ?_
      exact Jj3 (cM.le.trans led1_13_7) std1_13_9 s0 rfl rfl rfl s9 s10 (SlR.mono (sp1.le.trans (cM.le.trans led1_13_7)) R1) H
    refine bI rfl rfl (fun w_ ok_ => aE (.slice bA p0.length bC) s0)<|bI rfl rfl (fun w_ ok_ => aE (I (j1 : Int)) rfl) ?_
    obtain ⟨bd1_2_1,od1_2_2,vsd1_2_3,ead1_2_4,rpd1_2_5,cld1_2_6⟩ := SlR.at (SlR.mono sp1.le R1) hx1
    obtain ⟨ad1_2_7,cd1_2_8,rfl,Rd1_2_9⟩ := GDecl.out rpd1_2_5
    refine bI rfl rfl (fun w_ ok_ => aX u22 sz45 rfl rfl ead1_2_4 (Int.natCast_nonneg _) (Int.ofNat_lt.2 hj1))<|bI rfl rfl (fun w_ ok_ => aF (b := bd1_2_1) (o := od1_2_2 + ((j1 : Int) : Int).toNat * 4) fl45_0 rfl)<|bI rfl rfl (fun w_ ok_ => aL (.string x1.Name) sc9 rfl (el_one (cld1_2_6 _ (Has.le (Le.refl _) ok_.1)) (by decide) rfl))<|bI rfl rfl (fun w_ ok_ => aE (.slice bA p0.length bC) s0)<|bI rfl rfl (fun w_ ok_ => aE (I (j1 : Int)) rfl) ?_
    obtain ⟨ad1_7_3,cd1_7_4,had1_7_5,hcd1_7_6,Rd1_7_2⟩ := SlR.slice2 (lo := 0) (hi := (j1 : Int)) (SlR.mono sp1.le R1) fO.1 fO.2.1 fO.2.2
    refine bI rfl rfl (fun w_ ok_ => eY (l := 0) (h := (j1 : Int)) (kl := .i64) (kh := .i64) p0 rfl u22 sz45 rfl rfl rfl fO.1 fO.2.1 fO.2.2 (SlR.mono sp1.le R1).lc had1_7_5 hcd1_7_6)<|dr_c rfl (od_alloc (.agg #[.string ByteArray.empty,.slice none 0 0,.string ByteArray.empty,I 0]) zr45 rfl (fun bd1_12_1 wd1_12_2 fD => ?_))
    replace fD : Al _ (.cells (List.toArray [.string ByteArray.empty,.slice none 0 0,.string ByteArray.empty,I 0]) 45 (0,0)) bd1_12_1 wd1_12_2 := fD
    have Md1_12_4 := Mut.new st2 fD
    have lbd1_12_5 := st2.alB fD
    have spd1_12_6 := fD.st st2.has
    have std1_12_7 := st2.call0 spd1_12_6
    refine ⟨.inr ⟨Has.le (Le.refl _) std1_12_7.has,trivial⟩,?_⟩
    refine dr_c rfl (fJ [.string x1.Name,.slice ad1_7_3 (((p0.take ((j1 : Int) : Int).toNat).drop (0 : Int).toNat).length) cd1_7_4] en13 rfl rfl (F13 k std1_12_7.has Rd1_7_2 hrd1_8_2) ?_)
    rintro _ wd1_8_3 ⟨eV,eW,hd1_8_4,rfl,cM,Rd1_8_8⟩
    have Md1_8_9 := Md1_12_4.call0 cM
    have eL := std1_12_7.call0 cM
    refine ⟨.inr ⟨Has.le cM.le eL.has,trivial⟩,?_⟩
    refine bI rfl rfl (fun w_ ok_ => aE (.tuple #[.agg #[.string bV.1.Name,.slice eV bV.1.Shape.length eW,.string bV.1.Form,I bV.1.Block],.bool bV.2]) rfl)<|bI rfl rfl (fun w_ ok_ => bJ (.agg #[.string bV.1.Name,.slice eV bV.1.Shape.length eW,.string bV.1.Form,I bV.1.Block]) rfl rfl)<|bI rfl rfl (fun w_ ok_ => bJ (.bool bV.2) rfl rfl)<|dr_c rfl (od_store (o := 0) (n := 4) [.string bV.1.Name,.slice eV bV.1.Shape.length eW,.string bV.1.Form,I bV.1.Block] [.string bV.1.Name,.slice eV bV.1.Shape.length eW,.string bV.1.Form,I bV.1.Block] (.agg #[.string bV.1.Name,.slice eV bV.1.Shape.length eW,.string bV.1.Form,I bV.1.Block]) sz45 rfl rfl rfl Md1_8_9 rfl rfl rfl rfl rfl (fun wd1_13_1 wrd1_13_2 Md1_13_3 => ?_))
    have spd1_13_4 := wrd1_13_2.st eL.has Md1_8_9.none
    have std1_13_5 := eL.call spd1_13_4 (fun x e => (.inl (e ▸ lbd1_12_5)))
    obtain ⟨hd1_13_6,led1_13_7,gd1_13_8,std1_13_9,kpd1_13_10⟩ := Md1_13_3.fz std1_13_5 lbd1_12_5
    refine ⟨.inr ⟨Has.le (cM.le.trans led1_13_7) std1_13_9.has,trivial⟩,?_⟩
    refine bI rfl rfl (fun w_ ok_ => aC (.bool bV.2) rfl)<|dZ ?_
    exact Jj3 (cM.le.trans led1_13_7) std1_13_9 s0 rfl rfl rfl s9 s10 (SlR.mono (sp1.le.trans (cM.le.trans led1_13_7)) R1) H
  refine fa e15_22 (dF hc2) rfl<|aM e15_30 ?_
  exact Jj2 (Le.refl _) st1 s0 rfl rfl s9 s10 (SlR.mono sp1.le R1) H
theorem ZSLl15_0_all : ∀ k,ZSLl15_0 k
  | 0 => SLl15_0_z
  | k + 1 => SLl15_0_s k (ZSLl15_0_all k)
theorem Fl15_0 (k : Nat) : SLl15_0 k := (ZSLl15_0_all k)
theorem F15 (k : Nat) : S15 k := by
 intro p0 bA bC w0 h0 hh Rp0 r H
 unfold m15 at H
 refine aO (fn := Try.f15) Try.func15 rfl (Nat.le_of_ble_eq_true rfl) ?_
 show Run X15 [.code c15_0] (fun t => List.getD [.slice bA p0.length bC] t undef) w0 (.fn (Q15 w0 h0 r))
 have st0 := St.init hh noM
 refine aB e15_0<|aA e15_1<|vv rfl (aC (I 0) rfl)<|vv rfl (aC (I 0) rfl)<|aD<|aB e15_2<|aB e15_3<|aA e15_4<|vv rfl (aE (.slice bA p0.length bC) rfl)<|vv rfl (bN u22 rfl) ?_
 refine vv rfl (aE (I 0) rfl)<|aD<|aT e15_5<|cB e15_6 ?_
 exact Fl15_0 k (j1 := 0) st0 rfl rfl rfl Rp0 rfl H
theorem F27 (k : Nat) : S27 k := by
 intro p0 bA p2_a bC p2_c p1 p2 w0 h0 hh Rp0 Rp2 r H
 unfold m27 at H
 refine aO (fn := Try.f27) Try.func27 rfl (Nat.le_of_ble_eq_true rfl) ?_
 show Run X27 [.code c27_0] (fun t => List.getD [.slice bA p0.length bC,.string p1,.slice p2_a p2.length p2_c] t undef) w0 (.fn (Q27 w0 h0 r))
 have st0 := St.init hh noM
 refine aB e27_0<|aA e27_1<|vv rfl (aC (.slice none 0 0) rfl)<|vv rfl (aC (I 0) rfl)<|aD<|aB e27_2<|aA e27_3<|vv rfl (aE (.string p1) rfl)<|vv rfl (aE (.slice bA p0.length bC) rfl) ?_
 obtain ⟨r1,hr1,H⟩ := aK H
 refine aU [.string p1,.slice bA p0.length bC] en13 rfl rfl rfl (F13 k st0.has Rp0 hr1) ?_
 rintro _ w1 ⟨a1,c1,h1,rfl,sp1,R1⟩
 have st1 := st0.call0 sp1
 refine vv rfl (aE (.tuple #[.agg #[.string r1.1.Name,.slice a1 r1.1.Shape.length c1,.string r1.1.Form,I r1.1.Block],.bool r1.2]) rfl)<|vv rfl (bJ (.agg #[.string r1.1.Name,.slice a1 r1.1.Shape.length c1,.string r1.1.Form,I r1.1.Block]) rfl rfl)<|vv rfl (bJ (.bool r1.2) rfl rfl)<|cF (.agg #[.string ByteArray.empty,.slice none 0 0,.string ByteArray.empty,I 0]) zr45 rfl rfl (fun b1 w2 al1 => ?_)
 replace al1 : Al _ (.cells (List.toArray [.string ByteArray.empty,.slice none 0 0,.string ByteArray.empty,I 0]) 45 (0,0)) b1 w2 := al1
 have M1 := Mut.new st1 al1
 have lb1 := st1.alB al1
 have sp2 := al1.st st1.has
 have st2 := st1.call0 sp2
 refine aV (o := 0) (n := 4) [.string r1.1.Name,.slice a1 r1.1.Shape.length c1,.string r1.1.Form,I r1.1.Block] [.string r1.1.Name,.slice a1 r1.1.Shape.length c1,.string r1.1.Form,I r1.1.Block] (.agg #[.string r1.1.Name,.slice a1 r1.1.Shape.length c1,.string r1.1.Form,I r1.1.Block]) sz45 rfl rfl rfl rfl M1 rfl rfl rfl rfl rfl (fun w3 wr1 M2 => ?_)
 have sp3 := wr1.st st2.has M1.none
 have st3 := st2.call sp3 (fun x e => (.inl (e ▸ lb1)))
 obtain ⟨h2,le1,g1,st4,kp1⟩ := M2.fz st3 lb1
 refine vv rfl (aC (.bool r1.2) rfl)<|aD<|aB e27_4<|aT e27_5<|aB e27_6<|aA e27_7<|vv rfl (aE (.bool r1.2) rfl)<|vv rfl (eA r1.2 4 rfl)<|vv rfl (aC (.bool (!r1.2)) rfl)<|aD ?_
 rcases aN H with ⟨hc1,H⟩ | ⟨hc1,H⟩
 · refine fa e27_8 (bL hc1) rfl<|aB e27_12<|aA e27_13<|vv rfl (aF (b := b1) (o := 0) fl45_1 rfl)<|vv rfl (aL (.slice a1 r1.1.Shape.length c1) sc43 rfl ((aQ (st4.has _ _ g1)).trans rfl))<|vv rfl (bN u43 rfl)<|vv rfl (aE (.slice p2_a p2.length p2_c) rfl)<|vv rfl (bN u28 rfl)<|vv rfl (aP .neq .i64 (r1.1.Shape.length : Int) (p2.length : Int) (.bool (!decide ((r1.1.Shape.length : Int) = (p2.length : Int)))) 3 3 rfl rfl rfl)<|vv rfl (aC (.bool (!decide ((r1.1.Shape.length : Int) = (p2.length : Int)))) rfl) ?_
   refine aD ?_
   rcases aN H with ⟨hc2,H⟩ | ⟨hc2,H⟩
   · refine fa e27_14 (bL (dT hc2)) rfl<|aM e27_18<|aW<|aB e27_19<|aA e27_20<|vv rfl (aF (b := b1) (o := 0) fl45_1 rfl)<|vv rfl (aL (.slice a1 r1.1.Shape.length c1) sc43 rfl ((aQ (st4.has _ _ g1)).trans rfl))<|vv rfl (aC (.slice a1 r1.1.Shape.length c1) rfl)<|vv rfl (aC (I 0) rfl)<|aD ?_
     cases H
     exact aJ e27_21 (eK Try.results27 rfl rfl ⟨a1,c1,h2,rfl,st4,(SlR.mono le1 R1)⟩)
   refine tr e27_14 (bK (dF hc2)) rfl<|aB e27_15<|aA e27_16<|vv rfl (aC (.slice none 0 0) rfl)<|vv rfl (aC (I 8) rfl)<|aD ?_
   cases H
   exact aJ e27_17 (eK Try.results27 rfl rfl ⟨none,0,h2,rfl,st4,(SlR.none _)⟩)
 refine tr e27_8 (bK (cA hc1)) rfl<|aB e27_9<|aA e27_10<|vv rfl (aC (.slice none 0 0) rfl)<|vv rfl (aC (I 7) rfl)<|aD ?_
 cases H
 exact aJ e27_11 (eK Try.results27 rfl rfl ⟨none,0,h2,rfl,st4,(SlR.none _)⟩)
abbrev ZSLl50_0 (k : Nat) : Prop := SLl50_0 k
theorem SLl50_0_z : SLl50_0 0 := by
  unfold SLl50_0; intros; rename_i H; exact absurd H (by simp [l50_0])
theorem SLl50_0_s (k : Nat) (ih : ZSLl50_0 k) : SLl50_0 (k + 1) := by
 intro p0 bA bC j1 p1 w0 w h0 h σ xs1 r st s0 s1 s7 s8 R1 hd1 H
 cases xs1 with
 | nil =>
  rw [l50_0] at H
  have hk1 := cV hd1
  refine aB e50_7<|aA e50_8<|vv rfl (aP .lss .i64 (j1 : Int) (p0.length : Int) (.bool (decide ((j1 : Int) < (p0.length : Int)))) 3 3 s8 s7 rfl)<|aD<|aB e50_9<|fa e50_10 hk1 rfl<|bM e50_12 rfl<|aB e50_25<|aA e50_26<|vv rfl (aC (I (-1)) rfl) ?_
  refine aD ?_
  cases H
  exact aJ e50_27 (cG Try.results50 rfl ⟨h,rfl,st⟩)
 | cons x1 xs2 =>
  rw [l50_0] at H
  obtain ⟨hk2,hj1,hx1,hd2⟩ := cL hd1
  refine aB e50_7<|aA e50_8<|vv rfl (aP .lss .i64 (j1 : Int) (p0.length : Int) (.bool (decide ((j1 : Int) < (p0.length : Int)))) 3 3 s8 s7 rfl)<|aD<|aB e50_9<|tr e50_10 hk2 rfl<|aM e50_11<|aB e50_13<|aT e50_14<|aB e50_15 ?_
  refine aA e50_16<|vv rfl (aE (I (j1 : Int)) s8)<|vv rfl (aC (I (j1 : Int)) rfl)<|aD<|aB e50_17<|aA e50_18<|vv rfl (aE (.string p1) s1)<|vv rfl (aE (.slice bA p0.length bC) s0)<|vv rfl (aE (I (j1 : Int)) rfl) ?_
  obtain ⟨b1,o1,vs1,ea1,rp1,cl1⟩ := SlR.at R1 hx1
  obtain rfl := rp1
  refine vv rfl (aX u28 sz9 rfl rfl ea1 (Int.natCast_nonneg _) (Int.ofNat_lt.2 hj1))<|vv rfl (aL (.string x1) sc9 rfl (((cl1 _ (Has.le (Le.refl _) st.has)) 0 (by decide)).trans rfl))<|vv rfl (x_strEq p1 x1 9 9 rfl rfl)<|aD ?_
  rcases aN H with ⟨hc1,H⟩ | ⟨hc1,H⟩
  · refine tr e50_19 (dT hc1) rfl<|aB e50_20<|aA e50_21<|vv rfl (aE (I (j1 : Int)) rfl)<|vv rfl (aC (I (j1 : Int)) rfl)<|aD ?_
    cases H
    exact aJ e50_22 (cG Try.results50 rfl ⟨h,rfl,st⟩)
  refine fa e50_19 (dF hc1) rfl<|aM e50_23<|aW<|aA e50_24<|vv rfl (aP .add .i64 (j1 : Int) 1 (I ((j1 + 1 : Nat) : Int)) 3 3 s8 rfl (dL hj1 R1.mx))<|vv rfl (aE (I ((j1 + 1 : Nat) : Int)) rfl)<|aD<|bF ?_
  exact ih (j1 := (j1 + 1)) st s0 s1 s7 rfl R1 hd2 H
theorem ZSLl50_0_all : ∀ k,ZSLl50_0 k
  | 0 => SLl50_0_z
  | k + 1 => SLl50_0_s k (ZSLl50_0_all k)
theorem Fl50_0 (k : Nat) : SLl50_0 k := (ZSLl50_0_all k)
theorem F50 (k : Nat) : S50 k := by
 intro p0 bA bC p1 w0 h0 hh Rp0 r H
 unfold m50 at H
 refine aO (fn := Try.f50) Try.func50 rfl (Nat.le_of_ble_eq_true rfl) ?_
 show Run X50 [.code c50_0] (fun t => List.getD [.slice bA p0.length bC,.string p1] t undef) w0 (.fn (Q50 w0 h0 r))
 have st0 := St.init hh noM
 refine aB e50_0<|aA e50_1<|vv rfl (aC (I 0) rfl)<|aD<|aB e50_2<|aB e50_3<|aA e50_4<|vv rfl (aE (.slice bA p0.length bC) rfl)<|vv rfl (bN u28 rfl)<|vv rfl (aE (I 0) rfl) ?_
 refine aD<|aT e50_5<|cB e50_6 ?_
 exact Fl50_0 k (j1 := 0) st0 rfl rfl rfl rfl Rp0 rfl H
theorem F28 (k : Nat) : S28 k := by
 intro p0 bA bC p1 w0 h0 hh Rp0 r H
 unfold m28 at H
 refine aO (fn := Try.f28) Try.func28 rfl (Nat.le_of_ble_eq_true rfl) ?_
 show Run X28 [.code c28_0] (fun t => List.getD [.slice bA p0.length bC,.string p1] t undef) w0 (.fn (Q28 w0 h0 r))
 have st0 := St.init hh noM
 refine aB e28_0<|aA e28_1<|vv rfl (aC (.bool false) rfl)<|aD<|aB e28_2<|aA e28_3<|vv rfl (aE (.slice bA p0.length bC) rfl)<|vv rfl (aE (.string p1) rfl) ?_
 obtain ⟨r1,hr1,H⟩ := aK H
 refine aU [.slice bA p0.length bC,.string p1] en50 rfl rfl rfl (F50 k st0.has Rp0 hr1) ?_
 rintro _ w1 ⟨h1,rfl,sp1⟩
 have st1 := st0.call0 sp1
 refine vv rfl (aP .geq .i64 r1 0 (.bool (decide (0 ≤ r1))) 3 3 rfl rfl rfl)<|vv rfl (aC (.bool (decide (0 ≤ r1))) rfl)<|aD ?_
 cases H
 exact aJ e28_4 (cG Try.results28 rfl ⟨h1,rfl,st1⟩)
theorem F52 : S52 := by
 intro p0 p1_b p1_0_c p2_b p1_0 p1_0_a p2_0 w0 h0 hh Rp1_0 gp1 gp2 r H
 unfold m52 at H
 refine aO (fn := Try.f52) Try.func52 rfl (Nat.le_of_ble_eq_true rfl) ?_
 show Run X52 [.code c52_0] (fun t => List.getD [.agg #[.string p0.Name,I p0.Size],.pointer (some ⟨p1_b,0,none⟩),.pointer (some ⟨p2_b,0,none⟩)] t undef) w0 (.fn (Q52 w0 h0 r))
 have st0 := St.init hh noM
 refine aB e52_0<|aA e52_1<|eF (.agg #[.string p0.Name,I p0.Size]) rfl rfl rfl (fun b1 w1 al1 => ?_)
 replace al1 : Al _ (.cells (List.toArray [.string p0.Name,I p0.Size]) 39 (0,0)) b1 w1 := al1
 obtain ⟨h1,le1,g1,sp1⟩ := al1.fz st0.has
 have st1 := st0.call0 sp1
 refine vv rfl (aC (.bool false) rfl)<|aD<|aB e52_2 ?_
 refine dW [[(0,false),(1,false),(2,false),(3,false),(4,false),(5,false),(6,false),(7,false)]] [] [0,1,2,3,4,5,6,7] [0,1,2,3,4,5,6,7] (fun w_ => Has h1 w_ ∧ True) e52_3 k52_3 m52_3 (fun w2 al2 => ?_)
 have sp2 := al2.st st1.has
 have st2 := st1.call0 sp2
 refine ⟨⟨Has.le (Le.refl _) st2.has,trivial⟩,?_,trivial⟩
 refine bI rfl rfl (fun w_ ok_ => aF (b := b1) (o := 0) fl39_0 rfl)<|bI rfl rfl (fun w_ ok_ => aL (.string p0.Name) sc9 rfl ((aQ (ok_.1 _ _ g1)).trans rfl))<|bI rfl rfl (fun w_ ok_ => aL (.slice p1_0_a p1_0.length p1_0_c) sc28 rfl ((aQ (ok_.1 _ _ (le1 _ _ gp1))).trans rfl))<|bI rfl rfl (fun w_ ok_ => aL (I p2_0) sc3 rfl ((aQ (ok_.1 _ _ (le1 _ _ gp2))).trans rfl)) ?_
 obtain ⟨eM,hxd1_4_2,H⟩ := aK H
 have hid1_4_3 := dB hxd1_4_2
 obtain ⟨bd1_4_4,od1_4_5,vsd1_4_6,ead1_4_7,rpd1_4_8,cld1_4_9⟩ := SlR.at (SlR.mono le1 Rp1_0) hid1_4_3.2.2
 obtain rfl := rpd1_4_8
 refine bI rfl rfl (fun w_ ok_ => aX u28 sz9 rfl rfl ead1_4_7 hid1_4_3.1 hid1_4_3.2.1)<|bI rfl rfl (fun w_ ok_ => aL (.string eM) sc9 rfl (((cld1_4_9 _ (Has.le (Le.refl _) ok_.1)) 0 (by decide)).trans rfl))<|bI rfl rfl (fun w_ ok_ => x_strEq p0.Name eM 9 9 rfl rfl)<|bI rfl rfl (fun w_ ok_ => aC (.bool (decide (p0.Name = eM))) rfl)<|dZ ?_
 cases H
 exact aJ e52_4 (cG Try.results52 rfl ⟨h1,rfl,st2⟩)
abbrev ZSLl51_0 (k : Nat) : Prop := SLl51_0 k
theorem SLl51_0_z : SLl51_0 0 := by
  unfold SLl51_0; intros; rename_i H; exact absurd H (by simp [l51_0])
theorem SLl51_0_s (k : Nat) (ih : ZSLl51_0 k) : SLl51_0 (k + 1) := by
 intro p0 bA p1_v0_0_a bC cU p1_v0_0_c p1_v1_b j1 cP p1_v1_0 w0 w h0 h σ xs1 r st s0 s1 s7 s8 R1 R2 g1 g2 hd1 H
 cases xs1 with
 | nil =>
  rw [l51_0] at H
  have hk1 := cV hd1
  refine aB e51_7<|aA e51_8<|vv rfl (aP .lss .i64 (j1 : Int) (p0.length : Int) (.bool (decide ((j1 : Int) < (p0.length : Int)))) 3 3 s8 s7 rfl)<|aD<|aB e51_9<|fa e51_10 hk1 rfl<|bM e51_12 rfl<|aB e51_25<|aA e51_26<|vv rfl (aC (I (-1)) rfl) ?_
  refine aD ?_
  cases H
  exact aJ e51_27 (cG Try.results51 rfl ⟨h,rfl,st⟩)
 | cons x1 xs2 =>
  rw [l51_0] at H
  obtain ⟨hk2,hj1,hx1,hd2⟩ := cL hd1
  refine aB e51_7<|aA e51_8<|vv rfl (aP .lss .i64 (j1 : Int) (p0.length : Int) (.bool (decide ((j1 : Int) < (p0.length : Int)))) 3 3 s8 s7 rfl)<|aD<|aB e51_9<|tr e51_10 hk2 rfl<|aM e51_11<|aB e51_13<|aT e51_14<|aB e51_15 ?_
  refine aA e51_16<|vv rfl (aE (I (j1 : Int)) s8)<|vv rfl (aC (I (j1 : Int)) rfl)<|aD<|aB e51_17<|aA e51_18<|vv rfl (aE (.func (.func 52) #[] #[.pointer (some ⟨cU,0,none⟩),.pointer (some ⟨p1_v1_b,0,none⟩)]) s1)<|vv rfl (aE (.slice bA p0.length bC) s0)<|vv rfl (aE (I (j1 : Int)) rfl) ?_
  obtain ⟨b1,o1,vs1,ea1,rp1,cl1⟩ := SlR.at R1 hx1
  obtain rfl := GDim.out rp1
  refine vv rfl (aX u34 sz39 rfl rfl ea1 (Int.natCast_nonneg _) (Int.ofNat_lt.2 hj1))<|vv rfl (bH [.string x1.Name,I x1.Size] ag39 sz39 rfl rfl (cl1 _ (Has.le (Le.refl _) st.has))) ?_
  obtain ⟨r1,hr1,H⟩ := aK H
  refine dR [] [.pointer (some ⟨cU,0,none⟩),.pointer (some ⟨p1_v1_b,0,none⟩)] [.agg #[.string x1.Name,I x1.Size]] [.agg #[.string x1.Name,I x1.Size],.pointer (some ⟨cU,0,none⟩),.pointer (some ⟨p1_v1_b,0,none⟩)] en52 rfl rfl rfl rfl rfl (F52 (p0 := x1) st.has R2 g1 g2 hr1) ?_
  rintro _ w1 ⟨h1,rfl,sp1⟩
  have st1 := st.call0 sp1
  refine aD ?_
  rcases aN H with ⟨hc1,H⟩ | ⟨hc1,H⟩
  · refine tr e51_19 hc1 rfl<|aB e51_20<|aA e51_21<|vv rfl (aE (I (j1 : Int)) rfl)<|vv rfl (aC (I (j1 : Int)) rfl)<|aD ?_
    cases H
    exact aJ e51_22 (cG Try.results51 rfl ⟨h1,rfl,st1⟩)
  refine fa e51_19 (cA hc1) rfl<|aM e51_23<|aW<|aA e51_24<|vv rfl (aP .add .i64 (j1 : Int) 1 (I ((j1 + 1 : Nat) : Int)) 3 3 s8 rfl (dL hj1 (SlR.mono sp1.le R1).mx))<|vv rfl (aE (I ((j1 + 1 : Nat) : Int)) rfl)<|aD<|bF ?_
  exact ih (j1 := (j1 + 1)) st1 s0 s1 s7 rfl (SlR.mono sp1.le R1) (SlR.mono sp1.le R2) (sp1.le _ _ g1) (sp1.le _ _ g2) hd2 H
theorem ZSLl51_0_all : ∀ k,ZSLl51_0 k
  | 0 => SLl51_0_z
  | k + 1 => SLl51_0_s k (ZSLl51_0_all k)
theorem Fl51_0 (k : Nat) : SLl51_0 k := (ZSLl51_0_all k)
theorem F51 (k : Nat) : S51 k := by
 intro p0 bA p1_v0_0_a bC cU p1_v0_0_c p1_v1_b cP p1_v1_0 w0 h0 hh Rp0 Rp1_v0_0 gp1_v0 gp1_v1 r H
 unfold m51 at H
 refine aO (fn := Try.f51) Try.func51 rfl (Nat.le_of_ble_eq_true rfl) ?_
 show Run X51 [.code c51_0] (fun t => List.getD [.slice bA p0.length bC,.func (.func 52) #[] #[.pointer (some ⟨cU,0,none⟩),.pointer (some ⟨p1_v1_b,0,none⟩)]] t undef) w0 (.fn (Q51 w0 h0 r))
 have st0 := St.init hh noM
 refine aB e51_0<|aA e51_1<|vv rfl (aC (I 0) rfl)<|aD<|aB e51_2<|aB e51_3<|aA e51_4<|vv rfl (aE (.slice bA p0.length bC) rfl)<|vv rfl (bN u34 rfl)<|vv rfl (aE (I 0) rfl) ?_
 refine aD<|aT e51_5<|cB e51_6 ?_
 exact Fl51_0 k (j1 := 0) st0 rfl rfl rfl rfl Rp0 Rp1_v0_0 gp1_v0 gp1_v1 rfl H
abbrev ZSLl29_0 (k : Nat) : Prop := SLl29_0 k
theorem SLl29_0_z : SLl29_0 0 := by
  unfold SLl29_0; intros; rename_i H; exact absurd H (by simp [l29_0])
theorem SLl29_0_s (k : Nat) (ih : ZSLl29_0 k) : SLl29_0 (k + 1) := by
 intro aS p0_1_B p2_c b1 cd1_6_7 c1 c2 j1 fE p2_a ad1_6_6 a1 a2 p2 w0 w h0 h dG σ l1 l2 xs1 r st s0 s5 s8 s22 s23 s24 R1 O3 rel2 hBp0_1 M3 R2 g2 R3 hd1 H
 cases xs1 with
 | nil =>
  rw [l29_0] at H
  have hk1 := cV hd1
  refine aB e29_9<|aA e29_10<|vv rfl (aP .lss .i64 (j1 : Int) (dG.1.length : Int) (.bool (decide ((j1 : Int) < (dG.1.length : Int)))) 3 3 s24 s23 rfl)<|aD<|aB e29_11<|fa e29_12 hk1 rfl<|bM e29_14 rfl<|aB e29_33<|aA e29_34<|vv rfl (aE (I dG.2) s8) ?_
  refine vv rfl (aC (I dG.2) rfl)<|aD ?_
  cases H
  exact aJ e29_35 (cG Try.results29 rfl ⟨a1,c1,a2,c2,h,rfl,st,R1,O3,rel2,M3⟩)
 | cons x1 xs2 =>
  rw [l29_0] at H
  obtain ⟨hk2,hj1,hx1,hd2⟩ := cL hd1
  refine aB e29_9<|aA e29_10<|vv rfl (aP .lss .i64 (j1 : Int) (dG.1.length : Int) (.bool (decide ((j1 : Int) < (dG.1.length : Int)))) 3 3 s24 s23 rfl)<|aD<|aB e29_11<|tr e29_12 hk2 rfl<|aM e29_13<|aB e29_15<|aT e29_16<|aB e29_17 ?_
  refine aA e29_18<|vv rfl (aE (I (j1 : Int)) s24) ?_
  obtain ⟨b2,o1,vs1,ea1,rp1,cl1⟩ := SlR.at R3 hx1
  obtain rfl := rp1
  refine vv rfl (aX u43 sz3 s22 s24 ea1 (Int.natCast_nonneg _) (Int.ofNat_lt.2 hj1))<|vv rfl (aL (I x1) sc3 rfl (((cl1 _ (Has.le (Le.refl _) st.has)) 0 (by decide)).trans rfl))<|cF (I 0) zr3 rfl rfl (fun b3 w3 al3 => ?_)
  replace al3 : Al _ (.cells (List.toArray [I 0]) 3 (0,0)) b3 w3 := al3
  have M4 := Mut.new st al3
  have lb1 := st.alB al3
  have sp3 := al3.st st.has
  have M5 := M3.call0 sp3
  have O4 := O3.call0 sp3
  have st3 := st.call0 sp3
  refine aV (o := 0) (n := 1) [I (j1 : Int)] [I (j1 : Int)] (I (j1 : Int)) sz3 rfl rfl rfl rfl M4 rfl rfl rfl rfl rfl (fun w4 wr1 M6 => ?_)
  have sp4 := wr1.st st3.has M4.none
  have M7 := M5.call sp4 (fun e => ((Mut.ne_ty M5 M4 (by decide)) e))
  have O5 := O4.call sp4 (fun x hx e => (absurd (e ▸ hx) (O4.ne_mut M4 (by decide))))
  have st4 := st3.call sp4 (fun x e => (.inl (e ▸ lb1)))
  obtain ⟨h2,le2,g3,st5,kp1⟩ := M6.fz st4 lb1
  have M8 := M7.fr kp1 (Mut.ne_ty M7 M6 (by decide))
  have O6 := O5.fr le2 kp1 (O5.ne_mut M6 (by decide))
  refine vv rfl (aC (I x1) rfl)<|aD<|aB e29_19<|aA e29_20<|vv rfl (aE (.pointer (some ⟨aS,0,none⟩)) s0)<|vv rfl (bG ⟨aS,0,none⟩ rfl)<|vv rfl (aF (b := aS) (o := 0) fl72_1 rfl)<|vv rfl (aL (.slice a2 l2.length c2) sc34 rfl ((aQ M8.get).trans rfl))<|vv rfl (eT (.func (.func 52) #[] #[.pointer (some ⟨b1,0,none⟩),.pointer (some ⟨b3,0,none⟩)]) (mf rfl (evs_c s5 (evs_c rfl rfl)))) ?_
  obtain ⟨h3,le3,R4,hh1,kp2⟩ := Own.lend O6 st5.has
  obtain ⟨r1,hr1,H⟩ := aK H
  refine aU [.slice a2 l2.length c2,.func (.func 52) #[] #[.pointer (some ⟨b1,0,none⟩),.pointer (some ⟨b3,0,none⟩)]] en51 rfl rfl rfl (F51 k hh1 R4 (SlR.mono (le2.trans le3) R2) ((le2.trans le3) _ _ g2) (le3 _ _ g3) hr1) ?_
  rintro _ w5 ⟨h4,rfl,sp5⟩
  have sp6 := St.lend sp5 le3
  have M9 := M8.call0 sp6
  have O7 := O6.call0 sp6
  have st6 := st5.call0 sp6
  refine vv rfl (aC (I r1) rfl)<|aD<|aB e29_21<|aA e29_22<|vv rfl (aE (I r1) rfl)<|vv rfl (aP .lss .i64 r1 0 (.bool (decide (r1 < 0))) 3 3 rfl rfl rfl)<|aD ?_
  obtain ⟨j2,hj2,H⟩ := dE H
  have Jj2 : ∀ {y1 : (List GDim)} {a3 : OA} {c3 : Nat} {σ1 : Env} {w7 : World} {h5 : Sto},Le h2 h5 → St w0 (fun x => x = aS ∨ (blk fE x)) h0 h5 w7 → σ1 0 = .pointer (some ⟨aS,0,none⟩) → σ1 5 = .pointer (some ⟨b1,0,none⟩) → σ1 8 = I dG.2 → σ1 22 = .slice ad1_6_6 dG.1.length cd1_6_7 → σ1 23 = I (dG.1.length : Int) → σ1 24 = I (j1 : Int) → SlR h5 ad1_6_6 cd1_6_7 dG.1 → SlR h5 a1 c1 l1 → Own 39 p0_1_B h5 w7 a3 c3 y1 → (∀ x,blk a3 x → blk fE x ∨ w0.heap.size ≤ x) → Mut h5 w7 aS (.cells (List.toArray [.slice a1 l1.length c1,.slice a3 y1.length c3]) 72 (0,0)) → j2 y1 = some r → Run X29 [.inBlock 1,.code c29_32,.inLoop c29_9,.inBlock 0,.code c29_33] σ1 w7 (.fn (Q29 w0 h0 aS fE p0_1_B r)) := by
   intro y1 a3 c3 σ1 w7 h5 le4 st8 s0_j2 s5_j2 s8_j2 s22_j2 s23_j2 s24_j2 R5 R6 O9 rel3 M11 H
   rw [hj2] at H
   refine aW<|aA e29_32<|vv rfl (aP .add .i64 (j1 : Int) 1 (I ((j1 + 1 : Nat) : Int)) 3 3 s24_j2 rfl (dL hj1 R5.mx))<|vv rfl (aE (I ((j1 + 1 : Nat) : Int)) rfl)<|aD<|bF ?_
   exact ih (j1 := (j1 + 1)) st8 s0_j2 s5_j2 s8_j2 s22_j2 s23_j2 rfl R6 O9 rel3 hBp0_1 M11 (SlR.mono (le2.trans le4) R2) ((le2.trans le4) _ _ g2) R5 hd2 H
  rcases aN H with ⟨hc1,H⟩ | ⟨hc1,H⟩
  · refine tr e29_23 (dT hc1) rfl ?_
    refine dW [[(0,false),(1,false),(2,false),(3,false),(4,false),(5,false),(6,false),(7,false),(8,false),(9,false),(10,false),(11,true),(12,true),(13,false),(14,false),(15,true)]] [11,12,15] [0,1,2,3,4,5,6,7,8,9,10,11,12,13,14,15] [0,1,2,3,4,5,6,7,8,9,10,11,12,13,14,15] (fun w_ => Has h2 w_ ∧ w_.heap[aS]? = some (.cells (List.toArray [.slice a1 l1.length c1,.slice a2 l2.length c2]) 72 (0,0)) ∧ True) e29_24 k29_24 m29_24 (fun w6 al4 => ?_)
    have sp7 := al4.st st6.has
    have M10 := M9.call0 sp7
    have O8 := O7.call0 sp7
    have st7 := st6.call0 sp7
    refine ⟨⟨Has.le (Le.refl _) st7.has,M10.get,trivial⟩,?_,trivial⟩
    refine bI rfl rfl (fun w_ ok_ => aE (.pointer (some ⟨aS,0,none⟩)) s0)<|bI rfl rfl (fun w_ ok_ => aE (.pointer (some ⟨aS,0,none⟩)) s0)<|bI rfl rfl (fun w_ ok_ => bG ⟨aS,0,none⟩ rfl)<|bI rfl rfl (fun w_ ok_ => aF (b := aS) (o := 0) fl72_1 rfl)<|bI rfl rfl (fun w_ ok_ => aL (.slice a2 l2.length c2) sc34 rfl ((aQ ok_.2.1).trans rfl))<|bI rfl rfl (fun w_ ok_ => aL (.slice p2_a p2.length p2_c) sc28 s5 ((aQ (ok_.1 _ _ (le2 _ _ g2))).trans rfl))<|bI rfl rfl (fun w_ ok_ => aL (I (j1 : Int)) sc3 rfl ((aQ (ok_.1 _ _ g3)).trans rfl)) ?_
    obtain ⟨fH,hxd2_7_2,H⟩ := aK H
    have hid2_7_3 := dB hxd2_7_2
    obtain ⟨bd2_7_4,od2_7_5,vsd2_7_6,ead2_7_7,rpd2_7_8,cld2_7_9⟩ := SlR.at (SlR.mono le2 R2) hid2_7_3.2.2
    obtain rfl := rpd2_7_8
    refine bI rfl rfl (fun w_ ok_ => aX u28 sz9 rfl rfl ead2_7_7 hid2_7_3.1 hid2_7_3.2.1)<|bI rfl rfl (fun w_ ok_ => aL (.string fH) sc9 rfl (((cld2_7_9 _ (Has.le (Le.refl _) ok_.1)) 0 (by decide)).trans rfl))<|bI rfl rfl (fun w_ ok_ => aE (I x1) rfl)<|bI rfl rfl (fun w_ ok_ => dK (vs := [.string fH,I x1]) [(0,.string fH),(1,I x1)] bd39 rfl rfl)<|dr_c rfl (dU [.string ByteArray.empty,I 0] [.string fH,I x1] [(0,.agg #[.string fH,I x1])] u34 sz39 zr39 rfl rfl rfl (by kernel_rfl) rfl (by kernel_rfl) (fun bd2_11_1 wd2_11_2 ald2_11_3 => ?_))
    have lid2_11_8 : Lits h2 [[.string fH,I x1]] ([(⟨fH,x1⟩ : GDim)] : List GDim) := (Lits.cons (GDim.into (h := h2) (x := (⟨fH,x1⟩ : GDim)) ) Lits.nil)
    obtain ⟨hd2_11_4,led2_11_5,gd2_11_6,spd2_11_7⟩ := ald2_11_3.fz st7.has
    have Md2_11_9 := M10.call0 spd2_11_7
    have Od2_11_10 := O8.call0 spd2_11_7
    have std2_11_11 := st7.call0 spd2_11_7
    have Rd2_11_12 : SlR _ _ _ ([(⟨fH,x1⟩ : GDim)] : List GDim) := Lits.sl (n := 1) (Lits.mono led2_11_5 lid2_11_8) rfl rfl (by decide) gd2_11_6
    refine ⟨.inr ⟨Has.le led2_11_5 std2_11_11.has,Md2_11_9.get,trivial⟩,?_⟩
    obtain ⟨hsd2_12_1,H⟩ := cD H
    refine dr_c rfl (od_append (α := GDim) (B := p0_1_B) (l := l2) (l2 := ([(⟨fH,x1⟩ : GDim)] : List GDim)) u34 u34 ap39 rfl rfl rfl std2_11_11.has (Nat.le_trans hBp0_1 std2_11_11.sp.size) Od2_11_10 Rd2_11_12 rfl rfl hsd2_12_1 (fun ad2_12_2 cd2_12_3 wd2_12_4 Od2_12_5 spd2_12_6 bld2_12_7 => ?_))
    have Md2_12_8 := Md2_11_9.call spd2_12_6 (fun e => ((Od2_11_10.ne_mut Md2_11_9 (by decide)) e))
    have std2_12_9 := std2_11_11.call spd2_12_6 (fun x e => ((rel2 x e).elim (fun e => .inr (.inr e)) .inl))
    have reld2_12_11 : ∀ x,blk ad2_12_2 x → blk fE x ∨ w0.heap.size ≤ x := fun x hx => (bld2_12_7 x hx).elim (rel2 x) (fun q => .inr (Nat.le_trans std2_11_11.sp.size q))
    refine ⟨.inr ⟨Has.le led2_11_5 std2_12_9.has,Md2_12_8.get,trivial⟩,?_⟩
    refine bI rfl rfl (fun w_ ok_ => bG ⟨aS,0,none⟩ rfl)<|bI rfl rfl (fun w_ ok_ => aF (b := aS) (o := 0) fl72_1 rfl)<|dr_c rfl (od_store (o := 1) (n := 1) [.slice ad2_12_2 ((l2 ++ ([(⟨fH,x1⟩ : GDim)] : List GDim)).length) cd2_12_3] [.slice a1 l1.length c1,.slice ad2_12_2 ((l2 ++ ([(⟨fH,x1⟩ : GDim)] : List GDim)).length) cd2_12_3] (.slice ad2_12_2 ((l2 ++ ([(⟨fH,x1⟩ : GDim)] : List GDim)).length) cd2_12_3) sz34 rfl rfl rfl Md2_12_8 rfl rfl rfl rfl rfl (fun wd2_15_1 wrd2_15_2 Md2_15_3 => ?_))
    have spd2_15_4 := wrd2_15_2.st std2_12_9.has Md2_12_8.none
    have Od2_15_5 := Od2_12_5.call spd2_15_4 (fun x hx e => (absurd (e ▸ hx) (Od2_12_5.ne_mut Md2_12_8 (by decide))))
    have std2_15_6 := std2_12_9.call spd2_15_4 (fun x e => (.inr (.inl e)))
    refine ⟨.inl rfl,?_⟩
    refine dZ ?_
    exact Jj2 led2_11_5 std2_15_6 s0 s5 s8 s22 s23 s24 (SlR.mono (le2.trans led2_11_5) R3) (SlR.mono (le2.trans led2_11_5) R1) Od2_15_5 reld2_12_11 Md2_15_3 H
  refine fa e29_23 (dF hc1) rfl<|aB e29_25<|aA e29_26<|vv rfl (aE (.pointer (some ⟨aS,0,none⟩)) s0)<|vv rfl (bG ⟨aS,0,none⟩ rfl)<|vv rfl (aF (b := aS) (o := 0) fl72_1 rfl)<|vv rfl (aL (.slice a2 l2.length c2) sc34 rfl ((aQ M9.get).trans rfl))<|vv rfl (aE (I r1) rfl) ?_
  obtain ⟨x2,hx2,H⟩ := aK H
  have hi1 := dB hx2
  obtain ⟨b4,hab1⟩ := Own.adr O7 hi1.2.2
  refine vv rfl (aX u34 sz39 rfl rfl hab1 hi1.1 hi1.2.1)<|vv rfl (aF (b := b4) (o := 0 + (r1 : Int).toNat * 2) fl39_1 rfl) ?_
  obtain ⟨vs2,rp2,hl1,cl2⟩ := Own.cell O7 hab1 hi1.2.2
  obtain rfl := GDim.out rp2
  refine vv rfl (aL (I x2.Size) sc3 rfl (el_one cl2 (by decide) rfl))<|vv rfl (aE (I x1) rfl)<|vv rfl (aP .neq .i64 x2.Size x1 (.bool (!decide (x2.Size = x1))) 3 3 rfl rfl rfl)<|aD ?_
  rcases aN H with ⟨hc2,H⟩ | ⟨hc2,H⟩
  · refine fa e29_27 (bL (dT hc2)) rfl<|aM e29_31 ?_
    exact Jj2 (Le.refl _) st6 s0 s5 s8 s22 s23 s24 (SlR.mono le2 R3) (SlR.mono le2 R1) O7 rel2 M9 H
  refine tr e29_27 (bK (dF hc2)) rfl<|aB e29_28<|aA e29_29<|vv rfl (aC (I 4) rfl)<|aD ?_
  cases H
  exact aJ e29_30 (cG Try.results29 rfl ⟨a1,c1,a2,c2,h2,rfl,st6,(SlR.mono le2 R1),O7,rel2,M9⟩)
theorem ZSLl29_0_all : ∀ k,ZSLl29_0 k
  | 0 => SLl29_0_z
  | k + 1 => SLl29_0_s k (ZSLl29_0_all k)
theorem Fl29_0 (k : Nat) : SLl29_0 k := (ZSLl29_0_all k)
theorem F29 (k : Nat) : S29 k := by
 intro aS bW p0_1_c p0_1_B p2_c cJ bX fE p2_a cW p1 p2 w0 h0 hh dY hBp0_1 Op0_1 Mp0 Rp2 r H
 unfold m29 at H
 refine aO (fn := Try.f29) Try.func29 rfl (Nat.le_of_ble_eq_true rfl) ?_
 show Run X29 [.code c29_0] (fun t => List.getD [.pointer (some ⟨aS,0,none⟩),.string p1,.slice p2_a p2.length p2_c] t undef) w0 (.fn (Q29 w0 h0 aS fE p0_1_B r))
 have st0 := St.init hh (fun x => x = aS ∨ (blk fE x))
 have rel1 : ∀ x,blk fE x → blk fE x ∨ w0.heap.size ≤ x := fun x hx => .inl hx
 refine aB e29_0<|aA e29_1<|eF (.slice p2_a p2.length p2_c) rfl rfl rfl (fun b1 w1 al1 => ?_)
 replace al1 : Al _ (.cells (List.toArray [.slice p2_a p2.length p2_c]) 28 (0,0)) b1 w1 := al1
 obtain ⟨h1,le1,g1,sp1⟩ := al1.fz st0.has
 have M1 := Mp0.call0 sp1
 have O1 := Op0_1.call0 sp1
 have st1 := st0.call0 sp1
 refine vv rfl (aC (I 0) rfl)<|aD<|aB e29_2 ?_
 refine dW [[(0,false),(1,false),(2,false),(3,false),(4,false),(5,false),(6,true),(7,false),(8,false),(9,false),(10,false),(11,false)]] [6] [0,1,2,3,4,5,6,7,8,9,10,11] [0,1,2,3,4,5,6,7,8,10,9,11] (fun w_ => Has h1 w_ ∧ w_.heap[aS]? = some (.cells (List.toArray [.slice bX cJ.length bW,.slice fE cW.length p0_1_c]) 72 (0,0)) ∧ True) e29_3 k29_3 m29_3 (fun w2 al2 => ?_)
 have sp2 := al2.st st1.has
 have M2 := M1.call0 sp2
 have O2 := O1.call0 sp2
 have st2 := st1.call0 sp2
 refine ⟨⟨Has.le (Le.refl _) st2.has,M2.get,trivial⟩,?_,trivial⟩
 refine bI rfl rfl (fun w_ ok_ => aE (.pointer (some ⟨aS,0,none⟩)) rfl)<|bI rfl rfl (fun w_ ok_ => bG ⟨aS,0,none⟩ rfl)<|bI rfl rfl (fun w_ ok_ => aF (b := aS) (o := 0) fl72_0 rfl)<|bI rfl rfl (fun w_ ok_ => aL (.slice bX cJ.length bW) sc70 rfl ((aQ ok_.2.1).trans rfl))<|bI rfl rfl (fun w_ ok_ => aE (.string p1) rfl)<|bI rfl rfl (fun w_ ok_ => aL (.slice p2_a p2.length p2_c) sc28 rfl ((aQ (ok_.1 _ _ g1)).trans rfl)) ?_
 obtain ⟨dG,hrd1_6_2,H⟩ := aK H
 refine dr_c rfl (fJ [.slice bX cJ.length bW,.string p1,.slice p2_a p2.length p2_c] en27 rfl rfl (F27 k st2.has (SlR.mono le1 dY) (SlR.mono le1 Rp2) hrd1_6_2) ?_)
 rintro _ wd1_6_3 ⟨ad1_6_6,cd1_6_7,hd1_6_4,rfl,spd1_6_5,Rd1_6_8⟩
 have Md1_6_9 := M2.call0 spd1_6_5
 have Od1_6_10 := O2.call0 spd1_6_5
 have std1_6_11 := st2.call0 spd1_6_5
 refine ⟨.inr ⟨Has.le spd1_6_5.le std1_6_11.has,Md1_6_9.get,trivial⟩,?_⟩
 refine bI rfl rfl (fun w_ ok_ => aE (.tuple #[.slice ad1_6_6 dG.1.length cd1_6_7,I dG.2]) rfl)<|bI rfl rfl (fun w_ ok_ => bJ (.slice ad1_6_6 dG.1.length cd1_6_7) rfl rfl)<|bI rfl rfl (fun w_ ok_ => bJ (I dG.2) rfl rfl)<|bI rfl rfl (fun w_ ok_ => aC (.slice ad1_6_6 dG.1.length cd1_6_7) rfl)<|bI rfl rfl (fun w_ ok_ => aC (I dG.2) rfl)<|dZ<|aB e29_4<|aB e29_5<|aA e29_6<|vv rfl (aE (.slice ad1_6_6 dG.1.length cd1_6_7) rfl) ?_
 refine vv rfl (bN u43 rfl)<|vv rfl (aE (I 0) rfl)<|aD<|aT e29_7<|cB e29_8 ?_
 exact Fl29_0 k (j1 := 0) std1_6_11 rfl rfl rfl rfl rfl rfl (SlR.mono (le1.trans spd1_6_5.le) dY) Od1_6_10 rel1 hBp0_1 Md1_6_9 (SlR.mono (le1.trans spd1_6_5.le) Rp2) (spd1_6_5.le _ _ g1) Rd1_6_8 rfl H
theorem F53 (k : Nat) : S53 k := by
 intro p0 aG bD p1_3_a p1_4_a aH bE p1_b p1_3_c p1_4_c p1_0 p1_1 p1_2 p1_3 p1_4 w0 h0 hh cN Rp0_L Rp1_3 Rp1_4 gp1 r H
 unfold m53 at H
 refine aO (fn := Try.f53) Try.func53 rfl (Nat.le_of_ble_eq_true rfl) ?_
 show Run X53 [.code c53_0] (fun t => List.getD [.agg #[I p0.Op,I p0.N,.string p0.Name,.slice aG p0.Index.length aH,.slice bD p0.L.length bE],.pointer (some ⟨p1_b,0,none⟩)] t undef) w0 (.fn (Q53 w0 h0 r))
 have st0 := St.init hh noM
 refine aB e53_0<|aA e53_1<|eF (.agg #[I p0.Op,I p0.N,.string p0.Name,.slice aG p0.Index.length aH,.slice bD p0.L.length bE]) rfl rfl rfl (fun b1 w1 al1 => ?_)
 replace al1 : Al _ (.cells (List.toArray [I p0.Op,I p0.N,.string p0.Name,.slice aG p0.Index.length aH,.slice bD p0.L.length bE]) 31 (0,0)) b1 w1 := al1
 obtain ⟨h1,le1,g1,sp1⟩ := al1.fz st0.has
 have st1 := st0.call0 sp1
 refine vv rfl (aC (.bool false) rfl)<|aD<|aB e53_2<|aA e53_3<|vv rfl (aF (b := b1) (o := 0) fl31_3 rfl)<|vv rfl (aL (.slice aG p0.Index.length aH) sc28 rfl ((aQ (st1.has _ _ g1)).trans rfl))<|vv rfl (aF (b := p1_b) (o := 0) fl31_2 rfl)<|vv rfl (aL (.string p1_2) sc9 rfl ((aQ (st1.has _ _ (le1 _ _ gp1))).trans rfl)) ?_
 obtain ⟨r1,hr1,H⟩ := aK H
 refine aU [.slice aG p0.Index.length aH,.string p1_2] en28 rfl rfl rfl (F28 k st1.has (SlR.mono le1 cN) hr1) ?_
 rintro _ w2 ⟨h2,rfl,sp2⟩
 have st2 := st1.call0 sp2
 refine vv rfl (aC (.bool r1) rfl)<|aD ?_
 cases H
 exact aJ e53_4 (cG Try.results53 rfl ⟨h2,rfl,st2⟩)
abbrev ZSLl81_0 (k : Nat) : Prop := SLl81_0 k
theorem SLl81_0_z : SLl81_0 0 := by
  unfold SLl81_0; intros; rename_i H; exact absurd H (by simp [l81_0])
theorem SLl81_0_s (k : Nat) (ih : ZSLl81_0 k) : SLl81_0 (k + 1) := by
 intro p0 eE bA eZ fA bC cU fB fC j1 cP eP eQ eD w0 w h0 h σ xs1 r st s0 s1 s7 s8 R1 R2 R3 g1 hd1 H
 cases xs1 with
 | nil =>
  rw [l81_0] at H
  have hk1 := cV hd1
  refine aB e81_7<|aA e81_8<|vv rfl (aP .lss .i64 (j1 : Int) (p0.length : Int) (.bool (decide ((j1 : Int) < (p0.length : Int)))) 3 3 s8 s7 rfl)<|aD<|aB e81_9<|fa e81_10 hk1 rfl<|bM e81_12 rfl<|aB e81_25<|aA e81_26<|vv rfl (aC (I (-1)) rfl) ?_
  refine aD ?_
  cases H
  exact aJ e81_27 (cG Try.results81 rfl ⟨h,rfl,st⟩)
 | cons x1 xs2 =>
  rw [l81_0] at H
  obtain ⟨hk2,hj1,hx1,hd2⟩ := cL hd1
  refine aB e81_7<|aA e81_8<|vv rfl (aP .lss .i64 (j1 : Int) (p0.length : Int) (.bool (decide ((j1 : Int) < (p0.length : Int)))) 3 3 s8 s7 rfl)<|aD<|aB e81_9<|tr e81_10 hk2 rfl<|aM e81_11<|aB e81_13<|aT e81_14<|aB e81_15 ?_
  refine aA e81_16<|vv rfl (aE (I (j1 : Int)) s8)<|vv rfl (aC (I (j1 : Int)) rfl)<|aD<|aB e81_17<|aA e81_18<|vv rfl (aE (.func (.func 53) #[] #[.pointer (some ⟨cU,0,none⟩)]) s1)<|vv rfl (aE (.slice bA p0.length bC) s0)<|vv rfl (aE (I (j1 : Int)) rfl) ?_
  obtain ⟨b1,o1,vs1,ea1,rp1,cl1⟩ := SlR.at R1 hx1
  obtain ⟨a1,c1,a2,c2,rfl,R4,R5⟩ := GNode.out rp1
  refine vv rfl (aX u29 cX rfl rfl ea1 (Int.natCast_nonneg _) (Int.ofNat_lt.2 hj1))<|vv rfl (bH [I x1.Op,I x1.N,.string x1.Name,.slice a1 x1.Index.length c1,.slice a2 x1.L.length c2] ag31 cX rfl rfl (cl1 _ (Has.le (Le.refl _) st.has))) ?_
  obtain ⟨r1,hr1,H⟩ := aK H
  refine dR [] [.pointer (some ⟨cU,0,none⟩)] [.agg #[I x1.Op,I x1.N,.string x1.Name,.slice a1 x1.Index.length c1,.slice a2 x1.L.length c2]] [.agg #[I x1.Op,I x1.N,.string x1.Name,.slice a1 x1.Index.length c1,.slice a2 x1.L.length c2],.pointer (some ⟨cU,0,none⟩)] en53 rfl rfl rfl rfl rfl (F53 k (p0 := x1) st.has R4 R5 R2 R3 g1 hr1) ?_
  rintro _ w1 ⟨h1,rfl,sp1⟩
  have st1 := st.call0 sp1
  refine aD ?_
  rcases aN H with ⟨hc1,H⟩ | ⟨hc1,H⟩
  · refine tr e81_19 hc1 rfl<|aB e81_20<|aA e81_21<|vv rfl (aE (I (j1 : Int)) rfl)<|vv rfl (aC (I (j1 : Int)) rfl)<|aD ?_
    cases H
    exact aJ e81_22 (cG Try.results81 rfl ⟨h1,rfl,st1⟩)
  refine fa e81_19 (cA hc1) rfl<|aM e81_23<|aW<|aA e81_24<|vv rfl (aP .add .i64 (j1 : Int) 1 (I ((j1 + 1 : Nat) : Int)) 3 3 s8 rfl (dL hj1 (SlR.mono sp1.le R1).mx))<|vv rfl (aE (I ((j1 + 1 : Nat) : Int)) rfl)<|aD<|bF ?_
  exact ih (j1 := (j1 + 1)) st1 s0 s1 s7 rfl (SlR.mono sp1.le R1) (SlR.mono sp1.le R2) (SlR.mono sp1.le R3) (sp1.le _ _ g1) hd2 H
theorem ZSLl81_0_all : ∀ k,ZSLl81_0 k
  | 0 => SLl81_0_z
  | k + 1 => SLl81_0_s k (ZSLl81_0_all k)
theorem Fl81_0 (k : Nat) : SLl81_0 k := (ZSLl81_0_all k)
theorem F81 (k : Nat) : S81 k := by
 intro p0 eE bA eZ fA bC cU fB fC cP eP eQ eD w0 h0 hh Rp0 Rp1_v0_3 Rp1_v0_4 gp1_v0 r H
 unfold m81 at H
 refine aO (fn := Try.f81) Try.func81 rfl (Nat.le_of_ble_eq_true rfl) ?_
 show Run X81 [.code c81_0] (fun t => List.getD [.slice bA p0.length bC,.func (.func 53) #[] #[.pointer (some ⟨cU,0,none⟩)]] t undef) w0 (.fn (Q81 w0 h0 r))
 have st0 := St.init hh noM
 refine aB e81_0<|aA e81_1<|vv rfl (aC (I 0) rfl)<|aD<|aB e81_2<|aB e81_3<|aA e81_4<|vv rfl (aE (.slice bA p0.length bC) rfl)<|vv rfl (bN u29 rfl)<|vv rfl (aE (I 0) rfl) ?_
 refine aD<|aT e81_5<|cB e81_6 ?_
 exact Fl81_0 k (j1 := 0) st0 rfl rfl rfl rfl Rp0 Rp1_v0_3 Rp1_v0_4 gp1_v0 rfl H
theorem F54 (k : Nat) : S54 k := by
 intro p0 eE bA eZ fA bC cU fB fC cP eP eQ eD w0 h0 hh Rp0 Rp1_v0_3 Rp1_v0_4 gp1_v0 r H
 unfold m54 at H
 refine aO (fn := Try.f54) Try.func54 rfl (Nat.le_of_ble_eq_true rfl) ?_
 show Run X54 [.code c54_0] (fun t => List.getD [.slice bA p0.length bC,.func (.func 53) #[] #[.pointer (some ⟨cU,0,none⟩)]] t undef) w0 (.fn (Q54 w0 h0 r))
 have st0 := St.init hh noM
 refine aB e54_0<|aA e54_1<|vv rfl (aC (.bool false) rfl)<|aD<|aB e54_2<|aA e54_3<|vv rfl (aE (.slice bA p0.length bC) rfl)<|vv rfl (aE (.func (.func 53) #[] #[.pointer (some ⟨cU,0,none⟩)]) rfl) ?_
 obtain ⟨r1,hr1,H⟩ := aK H
 refine aU [.slice bA p0.length bC,.func (.func 53) #[] #[.pointer (some ⟨cU,0,none⟩)]] en81 rfl rfl rfl (F81 k st0.has Rp0 Rp1_v0_3 Rp1_v0_4 gp1_v0 hr1) ?_
 rintro _ w1 ⟨h1,rfl,sp1⟩
 have st1 := st0.call0 sp1
 refine vv rfl (aP .geq .i64 r1 0 (.bool (decide (0 ≤ r1))) 3 3 rfl rfl rfl)<|vv rfl (aC (.bool (decide (0 ≤ r1))) rfl)<|aD ?_
 cases H
 exact aJ e54_4 (cG Try.results54 rfl ⟨h1,rfl,st1⟩)
abbrev ZS55 (k : Nat) : Prop := S55 k ∧ S30 k ∧ S54_1 k ∧ S81_1 k ∧ SLl81_1_0 k
theorem S55_z : S55 0 := by
  unfold S55; intros; rename_i H; exact absurd H (by simp [m55])
theorem S55_s (k : Nat) (ih : ZS55 k) : S55 (k + 1) := by
 intro p0 aG bD aH bE w0 h0 hh cN Rp0_L r H
 rw [m55] at H
 refine aO (fn := Try.f55) Try.func55 rfl (Nat.le_of_ble_eq_true rfl) ?_
 show Run X55 [.code c55_0] (fun t => List.getD [.agg #[I p0.Op,I p0.N,.string p0.Name,.slice aG p0.Index.length aH,.slice bD p0.L.length bE]] t undef) w0 (.fn (Q55 w0 h0 r))
 have st0 := St.init hh noM
 refine aB e55_0<|aA e55_1<|eF (.agg #[I p0.Op,I p0.N,.string p0.Name,.slice aG p0.Index.length aH,.slice bD p0.L.length bE]) rfl rfl rfl (fun b1 w1 al1 => ?_)
 replace al1 : Al _ (.cells (List.toArray [I p0.Op,I p0.N,.string p0.Name,.slice aG p0.Index.length aH,.slice bD p0.L.length bE]) 31 (0,0)) b1 w1 := al1
 obtain ⟨h1,le1,g1,sp1⟩ := al1.fz st0.has
 have st1 := st0.call0 sp1
 refine vv rfl (aC (.bool false) rfl)<|aD<|aB e55_2<|aA e55_3<|vv rfl (bH [I p0.Op,I p0.N,.string p0.Name,.slice aG p0.Index.length aH,.slice bD p0.L.length bE] ag31 cX rfl rfl (aY (st1.has _ _ g1) rfl)) ?_
 obtain ⟨r1,hr1,H⟩ := aK H
 refine aU [.agg #[I p0.Op,I p0.N,.string p0.Name,.slice aG p0.Index.length aH,.slice bD p0.L.length bE]] en30 rfl rfl rfl (ih.2.1 (p0 := p0) st1.has (SlR.mono le1 cN) (SlR.mono le1 Rp0_L) hr1) ?_
 rintro _ w2 ⟨h2,rfl,sp2⟩
 have st2 := st1.call0 sp2
 refine vv rfl (eA r1 4 rfl)<|vv rfl (aC (.bool (!r1)) rfl)<|aD ?_
 cases H
 exact aJ e55_4 (cG Try.results55 rfl ⟨h2,rfl,st2⟩)
theorem S30_z : S30 0 := by
  unfold S30; intros; rename_i H; exact absurd H (by simp [m30])
theorem S30_s (k : Nat) (ih : ZS55 k) : S30 (k + 1) := by
 intro p0 aG bD aH bE w0 h0 hh cN Rp0_L r H
 rw [m30] at H
 refine aO (fn := Try.f30) Try.func30 rfl (Nat.le_of_ble_eq_true rfl) ?_
 show Run X30 [.code c30_0] (fun t => List.getD [.agg #[I p0.Op,I p0.N,.string p0.Name,.slice aG p0.Index.length aH,.slice bD p0.L.length bE]] t undef) w0 (.fn (Q30 w0 h0 r))
 have st0 := St.init hh noM
 refine aB e30_0<|aA e30_1<|eF (.agg #[I p0.Op,I p0.N,.string p0.Name,.slice aG p0.Index.length aH,.slice bD p0.L.length bE]) rfl rfl rfl (fun b1 w1 al1 => ?_)
 replace al1 : Al _ (.cells (List.toArray [I p0.Op,I p0.N,.string p0.Name,.slice aG p0.Index.length aH,.slice bD p0.L.length bE]) 31 (0,0)) b1 w1 := al1
 obtain ⟨h1,le1,g1,sp1⟩ := al1.fz st0.has
 have st1 := st0.call0 sp1
 refine vv rfl (aC (.bool false) rfl)<|aD<|aB e30_2<|aA e30_3<|vv rfl (eT (.func (.func 53) #[] #[.pointer (some ⟨b1,0,none⟩)]) (mf rfl rfl))<|vv rfl (aC (.func (.func 53) #[] #[.pointer (some ⟨b1,0,none⟩)]) rfl)<|aD<|aB e30_4<|aB e30_5<|aA e30_6 ?_
 obtain ⟨j1,hj1,H⟩ := dE H
 have Jj1 : ∀  {σ1 : Env} {w4 : World} {h4 : Sto},Le h1 h4 → St w0 noM h0 h4 w4 → σ1 1 = .pointer (some ⟨b1,0,none⟩) → j1 () = some r → Run X30 [.code c30_12] σ1 w4 (.fn (Q30 w0 h0 r)) := by
  intro σ1 w4 h4 le2 st4 s1_j1 H
  rw [hj1] at H
  refine aB e30_12<|aA e30_13<|vv rfl (aF (b := b1) (o := 0) fl31_4 s1_j1)<|vv rfl (aL (.slice bD p0.L.length bE) sc29 rfl ((aQ (st4.has _ _ (le2 _ _ g1))).trans rfl)) ?_
  obtain ⟨r3,hr3,H⟩ := aK H
  refine aU [.slice bD p0.L.length bE,.func (.func 55) #[] #[]] en54 rfl rfl rfl (ih.2.2.1 st4.has (SlR.mono (le1.trans le2) Rp0_L) hr3) ?_
  rintro _ w5 ⟨h5,rfl,sp4⟩
  have st5 := st4.call0 sp4
  refine vv rfl (eA r3 4 rfl)<|vv rfl (aC (.bool (!r3)) rfl)<|aD ?_
  cases H
  exact aJ e30_14 (cG Try.results30 rfl ⟨h5,rfl,st5⟩)
 refine vv rfl (aF (b := b1) (o := 0) fl31_0 rfl)<|vv rfl (aL (I p0.Op) sc3 rfl ((aQ (st1.has _ _ g1)).trans rfl))<|vv rfl (aP .eql .i64 p0.Op 7 (.bool (decide (p0.Op = 7))) 3 3 rfl rfl rfl)<|vv rfl (aE (.bool (decide (p0.Op = 7))) rfl) ?_
 rcases aN H with ⟨hc1,H⟩ | ⟨hc1,H⟩
 · refine aZ (wt2 (dT hc1) rfl) rfl (bH [I p0.Op,I p0.N,.string p0.Name,.slice aG p0.Index.length aH,.slice bD p0.L.length bE] ag31 cX rfl rfl (aY (st1.has _ _ g1) rfl)) ?_
   obtain ⟨r1,hr1,H⟩ := aK H
   refine aU [.agg #[I p0.Op,I p0.N,.string p0.Name,.slice aG p0.Index.length aH,.slice bD p0.L.length bE]] en12 (wt2 (dT hc1) rfl) rfl rfl (F12 k (p0 := p0) st1.has (SlR.mono le1 cN) (SlR.mono le1 Rp0_L) hr1) ?_
   rintro _ w2 ⟨a1,c1,h2,rfl,sp2,R1⟩
   have st2 := st1.call0 sp2
   refine aZ (wt2 (dT hc1) rfl) rfl (aE (.func (.func 53) #[] #[.pointer (some ⟨b1,0,none⟩)]) rfl) ?_
   obtain ⟨r2,hr2,H⟩ := aK H
   refine aU [.slice a1 r1.length c1,.func (.func 53) #[] #[.pointer (some ⟨b1,0,none⟩)]] en54 (wt2 (dT hc1) rfl) rfl rfl (F54 k st2.has R1 (SlR.mono (le1.trans sp2.le) cN) (SlR.mono (le1.trans sp2.le) Rp0_L) (sp2.le _ _ g1) hr2) ?_
   rintro _ w3 ⟨h3,rfl,sp3⟩
   have st3 := st2.call0 sp3
   refine aZ (wt2 (dT hc1) rfl) rfl (eA r2 4 rfl)<|vv rfl (dH (.bool (!r2)) (dT hc1) rfl rfl)<|aD ?_
   rcases aN H with ⟨hc2,H⟩ | ⟨hc2,H⟩
   · refine fa e30_7 (bL hc2) rfl<|aM e30_11 ?_
     exact Jj1 (sp2.le.trans sp3.le) st3 rfl H
   refine tr e30_7 (bK (cA hc2)) rfl<|aB e30_8<|aA e30_9<|vv rfl (aC (.bool false) rfl)<|aD ?_
   cases H
   exact aJ e30_10 (cG Try.results30 rfl ⟨h3,rfl,st3⟩)
 refine aR (wf2 (dF hc1) rfl) rfl<|aR (wf2 (dF hc1) rfl) rfl<|aR (wf2 (dF hc1) rfl) rfl<|aR (wf2 (dF hc1) rfl) rfl<|aR (wf2 (dF hc1) rfl) rfl<|vv rfl (dI (.bool false) (dF hc1) rfl rfl)<|aD<|dJ e30_7 (p := false) rfl rfl<|aM e30_11 ?_
 exact Jj1 (Le.refl _) st1 rfl H
theorem S54_1_z : S54_1 0 := by
  unfold S54_1; intros; rename_i H; exact absurd H (by simp [m54_1])
theorem S54_1_s (k : Nat) (ih : ZS55 k) : S54_1 (k + 1) := by
 intro p0 bA bC w0 h0 hh Rp0 r H
 rw [m54_1] at H
 refine aO (fn := Try.f54) Try.func54 rfl (Nat.le_of_ble_eq_true rfl) ?_
 show Run X54 [.code c54_0] (fun t => List.getD [.slice bA p0.length bC,.func (.func 55) #[] #[]] t undef) w0 (.fn (Q54_1 w0 h0 r))
 have st0 := St.init hh noM
 refine aB e54_0<|aA e54_1<|vv rfl (aC (.bool false) rfl)<|aD<|aB e54_2<|aA e54_3<|vv rfl (aE (.slice bA p0.length bC) rfl)<|vv rfl (aE (.func (.func 55) #[] #[]) rfl) ?_
 obtain ⟨r1,hr1,H⟩ := aK H
 refine aU [.slice bA p0.length bC,.func (.func 55) #[] #[]] en81 rfl rfl rfl (ih.2.2.2.1 st0.has Rp0 hr1) ?_
 rintro _ w1 ⟨h1,rfl,sp1⟩
 have st1 := st0.call0 sp1
 refine vv rfl (aP .geq .i64 r1 0 (.bool (decide (0 ≤ r1))) 3 3 rfl rfl rfl)<|vv rfl (aC (.bool (decide (0 ≤ r1))) rfl)<|aD ?_
 cases H
 exact aJ e54_4 (cG Try.results54 rfl ⟨h1,rfl,st1⟩)
theorem S81_1_z : S81_1 0 := by
  unfold S81_1; intros; rename_i H; exact absurd H (by simp [m81_1])
theorem S81_1_s (k : Nat) (ih : ZS55 k) : S81_1 (k + 1) := by
 intro p0 bA bC w0 h0 hh Rp0 r H
 rw [m81_1] at H
 refine aO (fn := Try.f81) Try.func81 rfl (Nat.le_of_ble_eq_true rfl) ?_
 show Run X81 [.code c81_0] (fun t => List.getD [.slice bA p0.length bC,.func (.func 55) #[] #[]] t undef) w0 (.fn (Q81_1 w0 h0 r))
 have st0 := St.init hh noM
 refine aB e81_0<|aA e81_1<|vv rfl (aC (I 0) rfl)<|aD<|aB e81_2<|aB e81_3<|aA e81_4<|vv rfl (aE (.slice bA p0.length bC) rfl)<|vv rfl (bN u29 rfl)<|vv rfl (aE (I 0) rfl) ?_
 refine aD<|aT e81_5<|cB e81_6 ?_
 exact ih.2.2.2.2 (j1 := 0) st0 rfl rfl rfl rfl Rp0 rfl H
theorem SLl81_1_0_z : SLl81_1_0 0 := by
  unfold SLl81_1_0; intros; rename_i H; exact absurd H (by simp [l81_1_0])
theorem SLl81_1_0_s (k : Nat) (ih : ZS55 k) : SLl81_1_0 (k + 1) := by
 intro p0 bA bC j1 w0 w h0 h σ xs1 r st s0 s1 s7 s8 R1 hd1 H
 cases xs1 with
 | nil =>
  rw [l81_1_0] at H
  have hk1 := cV hd1
  refine aB e81_7<|aA e81_8<|vv rfl (aP .lss .i64 (j1 : Int) (p0.length : Int) (.bool (decide ((j1 : Int) < (p0.length : Int)))) 3 3 s8 s7 rfl)<|aD<|aB e81_9<|fa e81_10 hk1 rfl<|bM e81_12 rfl<|aB e81_25<|aA e81_26<|vv rfl (aC (I (-1)) rfl) ?_
  refine aD ?_
  cases H
  exact aJ e81_27 (cG Try.results81 rfl ⟨h,rfl,st⟩)
 | cons x1 xs2 =>
  rw [l81_1_0] at H
  obtain ⟨hk2,hj1,hx1,hd2⟩ := cL hd1
  refine aB e81_7<|aA e81_8<|vv rfl (aP .lss .i64 (j1 : Int) (p0.length : Int) (.bool (decide ((j1 : Int) < (p0.length : Int)))) 3 3 s8 s7 rfl)<|aD<|aB e81_9<|tr e81_10 hk2 rfl<|aM e81_11<|aB e81_13<|aT e81_14<|aB e81_15 ?_
  refine aA e81_16<|vv rfl (aE (I (j1 : Int)) s8)<|vv rfl (aC (I (j1 : Int)) rfl)<|aD<|aB e81_17<|aA e81_18<|vv rfl (aE (.func (.func 55) #[] #[]) s1)<|vv rfl (aE (.slice bA p0.length bC) s0)<|vv rfl (aE (I (j1 : Int)) rfl) ?_
  obtain ⟨b1,o1,vs1,ea1,rp1,cl1⟩ := SlR.at R1 hx1
  obtain ⟨a1,c1,a2,c2,rfl,R2,R3⟩ := GNode.out rp1
  refine vv rfl (aX u29 cX rfl rfl ea1 (Int.natCast_nonneg _) (Int.ofNat_lt.2 hj1))<|vv rfl (bH [I x1.Op,I x1.N,.string x1.Name,.slice a1 x1.Index.length c1,.slice a2 x1.L.length c2] ag31 cX rfl rfl (cl1 _ (Has.le (Le.refl _) st.has))) ?_
  obtain ⟨r1,hr1,H⟩ := aK H
  refine dR [] [] [.agg #[I x1.Op,I x1.N,.string x1.Name,.slice a1 x1.Index.length c1,.slice a2 x1.L.length c2]] [.agg #[I x1.Op,I x1.N,.string x1.Name,.slice a1 x1.Index.length c1,.slice a2 x1.L.length c2]] en55 rfl rfl rfl rfl rfl (ih.1 (p0 := x1) st.has R2 R3 hr1) ?_
  rintro _ w1 ⟨h1,rfl,sp1⟩
  have st1 := st.call0 sp1
  refine aD ?_
  rcases aN H with ⟨hc1,H⟩ | ⟨hc1,H⟩
  · refine tr e81_19 hc1 rfl<|aB e81_20<|aA e81_21<|vv rfl (aE (I (j1 : Int)) rfl)<|vv rfl (aC (I (j1 : Int)) rfl)<|aD ?_
    cases H
    exact aJ e81_22 (cG Try.results81 rfl ⟨h1,rfl,st1⟩)
  refine fa e81_19 (cA hc1) rfl<|aM e81_23<|aW<|aA e81_24<|vv rfl (aP .add .i64 (j1 : Int) 1 (I ((j1 + 1 : Nat) : Int)) 3 3 s8 rfl (dL hj1 (SlR.mono sp1.le R1).mx))<|vv rfl (aE (I ((j1 + 1 : Nat) : Int)) rfl)<|aD<|bF ?_
  exact ih.2.2.2.2 (j1 := (j1 + 1)) st1 s0 s1 s7 rfl (SlR.mono sp1.le R1) hd2 H
theorem ZS55_all : ∀ k,ZS55 k
  | 0 => ⟨S55_z,S30_z,S54_1_z,S81_1_z,SLl81_1_0_z⟩
  | k + 1 => ⟨S55_s k (ZS55_all k),S30_s k (ZS55_all k),S54_1_s k (ZS55_all k),S81_1_s k (ZS55_all k),SLl81_1_0_s k (ZS55_all k)⟩
theorem F30 (k : Nat) : S30 k := (ZS55_all k).2.1
abbrev ZSLl10_0 (k : Nat) : Prop := SLl10_0 k ∧ SLl10_1 k
theorem SLl10_0_z : SLl10_0 0 := by
  unfold SLl10_0; intros; rename_i H; exact absurd H (by simp [l10_0])
theorem SLl10_0_s (k : Nat) (ih : ZSLl10_0 k) : SLl10_0 (k + 1) := by
 intro p0 aG bO cR cY aH bP cS cZ b1 b3 j3 p1 w0 w h0 h σ xs1 r st s2 s8 s49 s50 s51 R2 R3 R4 g3 R5 M3 lb2 hd1 H
 cases xs1 with
 | nil =>
  rw [l10_0] at H
  have hk1 := cV hd1
  refine aB e10_29<|aA e10_30<|vv rfl (aP .lss .i64 (j3 : Int) (p0.Index.length : Int) (.bool (decide ((j3 : Int) < (p0.Index.length : Int)))) 3 3 s51 s50 rfl)<|aD<|aB e10_31<|fa e10_32 hk1 rfl<|bM e10_34 rfl<|aB e10_47<|aA e10_48<|vv rfl (aE (.pointer (some ⟨b3,0,none⟩)) s8) ?_
  refine vv rfl (aF (b := b1) (o := 0) fl33_0 s2)<|vv rfl (aL (.string p0.Name) sc9 rfl ((aQ (st.has _ _ g3)).trans rfl))<|vv rfl (aF (b := b1) (o := 0) fl33_1 s2)<|vv rfl (aL (.slice aG p0.Index.length aH) sc28 rfl ((aQ (st.has _ _ g3)).trans rfl)) ?_
  obtain ⟨r3,hr3,H⟩ := aK H
  refine aU [.pointer (some ⟨b3,0,none⟩),.string p0.Name,.slice aG p0.Index.length aH] en29 rfl rfl rfl (F29 k st.has R5 st.sp.size (Own.nil _ _ _ _) M3 R2 hr3) ?_
  rintro _ w7 ⟨a1,c1,a2,c2,h5,rfl,sp7,R6,R7,rl1,M4⟩
  have st7 := st.call sp7 (fun x e => (e.elim (fun e => (.inl (e ▸ lb2))) (fun e => (.inl ((Own.nil (α := GDim) 39 w0.heap.size h w).lbs x e)))))
  refine vv rfl (aC (I r3.1) rfl)<|aD<|aB e10_49<|aB e10_50<|aA e10_51<|vv rfl (aF (b := b1) (o := 0) fl33_2 s2)<|vv rfl (bH [I p0.E.Op,I p0.E.N,.string p0.E.Name,.slice bO p0.E.Index.length bP,.slice cR p0.E.L.length cS] ag31 cX rfl rfl (aY (st7.has _ _ (sp7.le _ _ g3)) rfl)) ?_
  obtain ⟨r4,hr4,H⟩ := aK H
  refine aU [.agg #[I p0.E.Op,I p0.E.N,.string p0.E.Name,.slice bO p0.E.Index.length bP,.slice cR p0.E.L.length cS]] en12 rfl rfl rfl (F12 k (p0 := p0.E) st7.has (SlR.mono sp7.le R3) (SlR.mono sp7.le R4) hr4) ?_
  rintro _ w8 ⟨a3,c3,h6,rfl,sp8,R8⟩
  have M5 := M4.call0 sp8
  have O1 := R7.call0 sp8
  have st8 := st7.call0 sp8
  refine vv rfl (bN u29 rfl)<|vv rfl (aE (I 0) rfl)<|aD<|aT e10_52<|cB e10_53 ?_
  exact ih.2 (j4 := 0) st8 s2 s8 rfl rfl rfl rfl (SlR.mono (sp7.le.trans sp8.le) R2) (SlR.mono (sp7.le.trans sp8.le) R3) (SlR.mono (sp7.le.trans sp8.le) R4) ((sp7.le.trans sp8.le) _ _ g3) (SlR.mono sp8.le R6) O1 M5 lb2 R8 rfl H
 | cons x1 xs2 =>
  rw [l10_0] at H
  obtain ⟨hk2,hj1,hx1,hd2⟩ := cL hd1
  refine aB e10_29<|aA e10_30<|vv rfl (aP .lss .i64 (j3 : Int) (p0.Index.length : Int) (.bool (decide ((j3 : Int) < (p0.Index.length : Int)))) 3 3 s51 s50 rfl)<|aD<|aB e10_31<|tr e10_32 hk2 rfl<|aM e10_33<|aB e10_35<|aT e10_36<|aB e10_37 ?_
  refine aA e10_38<|vv rfl (aE (I (j3 : Int)) s51) ?_
  obtain ⟨b6,o2,vs2,ea2,rp2,cl2⟩ := SlR.at R2 hx1
  obtain rfl := rp2
  refine vv rfl (aX u28 sz9 s49 s51 ea2 (Int.natCast_nonneg _) (Int.ofNat_lt.2 hj1))<|vv rfl (aL (.string x1) sc9 rfl (((cl2 _ (Has.le (Le.refl _) st.has)) 0 (by decide)).trans rfl))<|vv rfl (aC (I (j3 : Int)) rfl)<|vv rfl (aC (.string x1) rfl)<|aD<|aB e10_39<|aA e10_40<|vv rfl (aF (b := b1) (o := 0) fl33_1 s2)<|vv rfl (aL (.slice aG p0.Index.length aH) sc28 rfl ((aQ (st.has _ _ g3)).trans rfl))<|vv rfl (aE (I (j3 : Int)) rfl) ?_
  obtain ⟨hs1,H⟩ := cD H
  obtain ⟨a12,c12,ha1,hc7,R21⟩ := SlR.slice2 (lo := 0) (hi := (j3 : Int)) R2 hs1.1 hs1.2.1 hs1.2.2
  refine vv rfl (eY (l := 0) (h := (j3 : Int)) (kl := .i64) (kh := .i64) p0.Index rfl u28 sz9 rfl rfl rfl hs1.1 hs1.2.1 hs1.2.2 R2.lc ha1 hc7)<|vv rfl (aE (.string x1) rfl) ?_
  obtain ⟨r7,hr7,H⟩ := aK H
  refine aU [.slice a12 (((p0.Index.take ((j3 : Int) : Int).toNat).drop (0 : Int).toNat).length) c12,.string x1] en28 rfl rfl rfl (F28 k st.has R21 hr7) ?_
  rintro _ w14 ⟨h12,rfl,sp13⟩
  have M16 := M3.call0 sp13
  have st16 := st.call0 sp13
  refine aD ?_
  rcases aN H with ⟨hc8,H⟩ | ⟨hc8,H⟩
  · refine tr e10_41 hc8 rfl<|aB e10_42<|aA e10_43<|vv rfl (aC (.slice none 0 0) rfl)<|vv rfl (aC (I 7) rfl)<|aD ?_
    cases H
    exact aJ e10_44 (eK Try.results10 rfl rfl ⟨none,0,h12,rfl,st16,(SlR.none _)⟩)
  refine fa e10_41 (cA hc8) rfl<|aM e10_45<|aW<|aA e10_46<|vv rfl (aP .add .i64 (j3 : Int) 1 (I ((j3 + 1 : Nat) : Int)) 3 3 s51 rfl (dL hj1 (SlR.mono sp13.le R2).mx))<|vv rfl (aE (I ((j3 + 1 : Nat) : Int)) rfl)<|aD<|bF ?_
  exact ih.1 (j3 := (j3 + 1)) st16 s2 s8 s49 s50 rfl (SlR.mono sp13.le R2) (SlR.mono sp13.le R3) (SlR.mono sp13.le R4) (sp13.le _ _ g3) (SlR.mono sp13.le R5) M16 lb2 hd2 H
theorem SLl10_1_z : SLl10_1 0 := by
  unfold SLl10_1; intros; rename_i H; exact absurd H (by simp [l10_1])
theorem SLl10_1_s (k : Nat) (ih : ZSLl10_0 k) : SLl10_1 (k + 1) := by
 intro p0 aG bO cR a3 a4 a5 aH bP cS b1 b3 c3 c4 c5 j4 w0 w h0 h σ r4 l1 l2 i1 xs3 r st s2 s8 s13 s71 s72 s73 R9 R10 R11 g4 R12 O2 M6 lb3 R13 hd3 H
 cases xs3 with
 | nil =>
  rw [l10_1] at H
  have hk3 := cV hd3
  refine aB e10_54<|aA e10_55<|vv rfl (aP .lss .i64 (j4 : Int) (r4.length : Int) (.bool (decide ((j4 : Int) < (r4.length : Int)))) 3 3 s73 s72 rfl)<|aD<|aB e10_56<|fa e10_57 hk3 rfl<|bM e10_59 rfl<|aB e10_70<|aT e10_71<|aB e10_72 ?_
  refine aA e10_73<|vv rfl (aE (I i1) s13)<|vv rfl (aP .neq .i64 i1 0 (.bool (!decide (i1 = 0))) 35 35 rfl rfl rfl)<|vv rfl (aC (.bool (!decide (i1 = 0))) rfl)<|aD ?_
  rcases aN H with ⟨hc4,H⟩ | ⟨hc4,H⟩
  · refine fa e10_74 (bL (dT hc4)) rfl<|aB e10_78<|aA e10_79<|vv rfl (aF (b := b1) (o := 0) fl33_2 s2)<|vv rfl (bH [I p0.E.Op,I p0.E.N,.string p0.E.Name,.slice bO p0.E.Index.length bP,.slice cR p0.E.L.length cS] ag31 cX rfl rfl (aY (st.has _ _ g4) rfl)) ?_
    obtain ⟨r5,hr5,H⟩ := aK H
    refine aU [.agg #[I p0.E.Op,I p0.E.N,.string p0.E.Name,.slice bO p0.E.Index.length bP,.slice cR p0.E.L.length cS]] en30 rfl rfl rfl (F30 k (p0 := p0.E) st.has R10 R11 hr5) ?_
    rintro _ w9 ⟨h7,rfl,sp9⟩
    have M7 := M6.call0 sp9
    have O3 := O2.call0 sp9
    have st9 := st.call0 sp9
    refine vv rfl (eA r5 4 rfl)<|vv rfl (aC (.bool (!r5)) rfl)<|aD ?_
    rcases aN H with ⟨hc5,H⟩ | ⟨hc5,H⟩
    · refine fa e10_80 (bL hc5) rfl<|aM e10_84<|aW<|aB e10_85<|aA e10_86<|vv rfl (aE (.pointer (some ⟨b3,0,none⟩)) s8)<|vv rfl (bG ⟨b3,0,none⟩ rfl)<|vv rfl (aF (b := b3) (o := 0) fl72_1 rfl)<|vv rfl (aL (.slice a5 l2.length c5) sc34 rfl ((aQ M7.get).trans rfl))<|vv rfl (aC (.slice a5 l2.length c5) rfl) ?_
      refine vv rfl (aC (I 0) rfl)<|aD ?_
      obtain ⟨h8,le3,st10,R14,kp1⟩ := O3.frz st9 (Nat.le_refl _)
      have M8 := M7.frB kp1 (O3.ne_mut M7 (by decide))
      cases H
      exact aJ e10_87 (eK Try.results10 rfl rfl ⟨a5,c5,h8,rfl,st10,R14⟩)
    refine tr e10_80 (bK (cA hc5)) rfl<|aB e10_81<|aA e10_82<|vv rfl (aC (.slice none 0 0) rfl)<|vv rfl (aC (I 5) rfl)<|aD ?_
    cases H
    exact aJ e10_83 (eK Try.results10 rfl rfl ⟨none,0,h7,rfl,st9,(SlR.none _)⟩)
  refine tr e10_74 (bK (dF hc4)) rfl<|aB e10_75<|aA e10_76<|vv rfl (aE (I i1) s13)<|vv rfl (aC (.slice none 0 0) rfl)<|vv rfl (aC (I i1) rfl)<|aD ?_
  cases H
  exact aJ e10_77 (eK Try.results10 rfl rfl ⟨none,0,h,rfl,st,(SlR.none _)⟩)
 | cons x2 xs4 =>
  rw [l10_1] at H
  obtain ⟨hk4,hj2,hx2,hd4⟩ := cL hd3
  refine aB e10_54<|aA e10_55<|vv rfl (aP .lss .i64 (j4 : Int) (r4.length : Int) (.bool (decide ((j4 : Int) < (r4.length : Int)))) 3 3 s73 s72 rfl)<|aD<|aB e10_56<|tr e10_57 hk4 rfl<|aM e10_58<|aB e10_60<|aT e10_61<|aB e10_62 ?_
  refine aA e10_63 ?_
  obtain ⟨b4,o1,vs1,ea1,rp1,cl1⟩ := SlR.at R13 hx2
  obtain ⟨a6,c6,a7,c7,rfl,R15,R16⟩ := GNode.out rp1
  refine vv rfl (aX u29 cX s71 s73 ea1 (Int.natCast_nonneg _) (Int.ofNat_lt.2 hj2))<|vv rfl (bH [I x2.Op,I x2.N,.string x2.Name,.slice a6 x2.Index.length c6,.slice a7 x2.L.length c7] ag31 cX rfl rfl (cl1 _ (Has.le (Le.refl _) st.has)))<|cF (.agg #[I 0,I 0,.string ByteArray.empty,.slice none 0 0,.slice none 0 0]) zr31 rfl rfl (fun b5 w10 al5 => ?_)
  replace al5 : Al _ (.cells (List.toArray [I 0,I 0,.string ByteArray.empty,.slice none 0 0,.slice none 0 0]) 31 (0,0)) b5 w10 := al5
  have M9 := Mut.new st al5
  have lb4 := st.alB al5
  have sp10 := al5.st st.has
  have M10 := M6.call0 sp10
  have O4 := O2.call0 sp10
  have st11 := st.call0 sp10
  refine aV (o := 0) (n := 5) [I x2.Op,I x2.N,.string x2.Name,.slice a6 x2.Index.length c6,.slice a7 x2.L.length c7] [I x2.Op,I x2.N,.string x2.Name,.slice a6 x2.Index.length c6,.slice a7 x2.L.length c7] (.agg #[I x2.Op,I x2.N,.string x2.Name,.slice a6 x2.Index.length c6,.slice a7 x2.L.length c7]) cX rfl rfl rfl rfl M9 rfl rfl rfl rfl rfl (fun w11 wr1 M11 => ?_)
  have sp11 := wr1.st st11.has M9.none
  have M12 := M10.call sp11 (fun e => ((Mut.ne_ty M10 M9 (by decide)) e))
  have O5 := O4.call sp11 (fun x hx e => (absurd (e ▸ hx) (O4.ne_mut M9 (by decide))))
  have st12 := st11.call sp11 (fun x e => (.inl (e ▸ lb4)))
  obtain ⟨h9,le4,g5,st13,kp2⟩ := M11.fz st12 lb4
  have M13 := M12.fr kp2 (Mut.ne_ty M12 M11 (by decide))
  have O6 := O5.fr le4 kp2 (O5.ne_mut M11 (by decide))
  refine aD<|aB e10_64<|aA e10_65<|vv rfl (aE (I i1) s13)<|vv rfl (aP .eql .i64 i1 0 (.bool (decide (i1 = 0))) 35 35 rfl rfl rfl)<|aD ?_
  obtain ⟨j6,hj6,H⟩ := dE H
  have Jj6 : ∀ {y1 : Int} {y2 : (List GDecl)} {y3 : (List GDim)} {a10 a11 : OA} {c10 c11 : Nat} {σ1 : Env} {w13 : World} {h11 : Sto},Le h9 h11 → St w0 noM h0 h11 w13 → σ1 2 = .pointer (some ⟨b1,0,none⟩) → σ1 8 = .pointer (some ⟨b3,0,none⟩) → σ1 13 = I y1 → σ1 71 = .slice a3 r4.length c3 → σ1 72 = I (r4.length : Int) → σ1 73 = I (j4 : Int) → SlR h11 a3 c3 r4 → SlR h11 a10 c10 y2 → Own 39 w0.heap.size h11 w13 a11 c11 y3 → Mut h11 w13 b3 (.cells (List.toArray [.slice a10 y2.length c10,.slice a11 y3.length c11]) 72 (0,0)) → j6 y1 y2 y3 = some r → Run X10 [.inBlock 3,.code c10_69,.inLoop c10_54,.inBlock 2,.code c10_70] σ1 w13 (.fn (Q10 w0 h0 r)) := by
   intro y1 y2 y3 a10 a11 c10 c11 σ1 w13 h11 le5 st15 s2_j6 s8_j6 s13_j6 s71_j6 s72_j6 s73_j6 R19 R20 O7 M15 H
   rw [hj6] at H
   refine aW<|aA e10_69<|vv rfl (aP .add .i64 (j4 : Int) 1 (I ((j4 + 1 : Nat) : Int)) 3 3 s73_j6 rfl (dL hj2 R19.mx))<|vv rfl (aE (I ((j4 + 1 : Nat) : Int)) rfl)<|aD<|bF ?_
   exact ih.2 (j4 := (j4 + 1)) st15 s2_j6 s8_j6 s13_j6 s71_j6 s72_j6 rfl (SlR.mono (le4.trans le5) R9) (SlR.mono (le4.trans le5) R10) (SlR.mono (le4.trans le5) R11) ((le4.trans le5) _ _ g4) R20 O7 M15 lb3 R19 hd4 H
  rcases aN H with ⟨hc6,H⟩ | ⟨hc6,H⟩
  · refine tr e10_66 (dT hc6) rfl<|aA e10_67<|vv rfl (aE (.pointer (some ⟨b3,0,none⟩)) s8)<|vv rfl (aF (b := b5) (o := 0) fl31_2 rfl)<|vv rfl (aL (.string x2.Name) sc9 rfl ((aQ (st13.has _ _ g5)).trans rfl))<|vv rfl (aF (b := b5) (o := 0) fl31_3 rfl)<|vv rfl (aL (.slice a6 x2.Index.length c6) sc28 rfl ((aQ (st13.has _ _ g5)).trans rfl)) ?_
    obtain ⟨r6,hr6,H⟩ := aK H
    refine aU [.pointer (some ⟨b3,0,none⟩),.string x2.Name,.slice a6 x2.Index.length c6] en29 rfl rfl rfl (F29 k st13.has (SlR.mono le4 R12) st13.sp.size O6 M13 (SlR.mono le4 R15) hr6) ?_
    rintro _ w12 ⟨a8,c8,a9,c9,h10,rfl,sp12,R17,R18,rl2,M14⟩
    have st14 := st13.call sp12 (fun x e => (e.elim (fun e => (.inl (e ▸ lb3))) (fun e => (.inl (O6.lbs x e)))))
    refine vv rfl (aC (I r6.1) rfl)<|aD ?_
    exact Jj6 sp12.le st14 s2 s8 rfl s71 s72 s73 (SlR.mono (le4.trans sp12.le) R13) R17 R18 M14 H
  refine fa e10_66 (dF hc6) rfl<|aM e10_68 ?_
  exact Jj6 (Le.refl _) st13 s2 s8 s13 s71 s72 s73 (SlR.mono le4 R13) (SlR.mono le4 R12) O6 M13 H
theorem ZSLl10_0_all : ∀ k,ZSLl10_0 k
  | 0 => ⟨SLl10_0_z,SLl10_1_z⟩
  | k + 1 => ⟨SLl10_0_s k (ZSLl10_0_all k),SLl10_1_s k (ZSLl10_0_all k)⟩
theorem Fl10_0 (k : Nat) : SLl10_0 k := (ZSLl10_0_all k).1
theorem F10 (k : Nat) : S10 k := by
 intro p0 aG bO cR cY aH bP cS cZ p1 w0 h0 hh cN Rp0_E_Index Rp0_E_L Rp1 r H
 unfold m10 at H
 refine aO (fn := Try.f10) Try.func10 rfl (Nat.le_of_ble_eq_true rfl) ?_
 show Run X10 [.code c10_0] (fun t => List.getD [.agg #[.string p0.Name,.slice aG p0.Index.length aH,I p0.E.Op,I p0.E.N,.string p0.E.Name,.slice bO p0.E.Index.length bP,.slice cR p0.E.L.length cS],.slice cY p1.length cZ] t undef) w0 (.fn (Q10 w0 h0 r))
 have st0 := St.init hh noM
 refine aB e10_0<|aA e10_1<|eF (.agg #[.string p0.Name,.slice aG p0.Index.length aH,I p0.E.Op,I p0.E.N,.string p0.E.Name,.slice bO p0.E.Index.length bP,.slice cR p0.E.L.length cS]) rfl rfl rfl (fun b1 w1 al1 => ?_)
 replace al1 : Al _ (.cells (List.toArray [.string p0.Name,.slice aG p0.Index.length aH,I p0.E.Op,I p0.E.N,.string p0.E.Name,.slice bO p0.E.Index.length bP,.slice cR p0.E.L.length cS]) 33 (0,0)) b1 w1 := al1
 obtain ⟨h1,le1,g1,sp1⟩ := al1.fz st0.has
 have st1 := st0.call0 sp1
 refine vv rfl (aC (.slice none 0 0) rfl)<|vv rfl (aC (I 0) rfl)<|aD<|aB e10_2<|aB e10_3<|aA e10_4<|vv rfl (aE (.slice cY p1.length cZ) rfl) ?_
 obtain ⟨r1,hr1,H⟩ := aK H
 refine aU [.slice cY p1.length cZ] en15 rfl rfl rfl (F15 k st1.has (SlR.mono le1 Rp1) hr1) ?_
 rintro _ w2 ⟨h2,rfl,sp2⟩
 have st2 := st1.call0 sp2
 refine vv rfl (aE (.tuple #[I r1.1,I r1.2]) rfl)<|vv rfl (bJ (I r1.1) rfl rfl)<|vv rfl (bJ (I r1.2) rfl rfl)<|vv rfl (aC (I r1.1) rfl)<|vv rfl (aC (I r1.2) rfl)<|aD<|aB e10_5<|aA e10_6<|vv rfl (aE (I r1.2) rfl)<|vv rfl (aP .neq .i64 r1.2 0 (.bool (!decide (r1.2 = 0))) 35 35 rfl rfl rfl) ?_
 refine vv rfl (aE (.bool (!decide (r1.2 = 0))) rfl) ?_
 rcases aN H with ⟨hc1,H⟩ | ⟨hc1,H⟩
 · refine aZ (wt2 (bL (dT hc1)) rfl) rfl (bH [.string p0.Name,.slice aG p0.Index.length aH,I p0.E.Op,I p0.E.N,.string p0.E.Name,.slice bO p0.E.Index.length bP,.slice cR p0.E.L.length cS] ag33 sz33 rfl rfl (aY (st2.has _ _ (sp2.le _ _ g1)) rfl))<|cH [.string ByteArray.empty,.slice none 0 0,I 0,I 0,.string ByteArray.empty,.slice none 0 0,.slice none 0 0] [.string p0.Name,.slice aG p0.Index.length aH,I p0.E.Op,I p0.E.N,.string p0.E.Name,.slice bO p0.E.Index.length bP,.slice cR p0.E.L.length cS] [(0,.agg #[.string p0.Name,.slice aG p0.Index.length aH,I p0.E.Op,I p0.E.N,.string p0.E.Name,.slice bO p0.E.Index.length bP,.slice cR p0.E.L.length cS])] u23 sz33 zr33 (wt2 (bL (dT hc1)) rfl) rfl rfl rfl (by kernel_rfl) rfl (by kernel_rfl) (fun b2 w3 al2 => ?_)
   have li1 : Lits h2 [[.string p0.Name,.slice aG p0.Index.length aH,I p0.E.Op,I p0.E.N,.string p0.E.Name,.slice bO p0.E.Index.length bP,.slice cR p0.E.L.length cS]] ([p0] : List GStmt) := (Lits.cons (GStmt.into (h := h2) (x := p0) (SlR.mono (le1.trans sp2.le) cN) (SlR.mono (le1.trans sp2.le) Rp0_E_Index) (SlR.mono (le1.trans sp2.le) Rp0_E_L)) Lits.nil)
   obtain ⟨h3,le2,g2,sp3⟩ := al2.fz st2.has
   have st3 := st2.call0 sp3
   have R1 : SlR _ _ _ ([p0] : List GStmt) := Lits.sl (n := 1) (Lits.mono le2 li1) rfl rfl (by decide) g2
   refine aZ (wt2 (bL (dT hc1)) rfl) rfl (dK (vs := [.slice none 0 0,.slice (some ⟨b2,0,none⟩) 1 1]) [(1,.slice (some ⟨b2,0,none⟩) 1 1)] bd25 rfl rfl) ?_
   obtain ⟨r2,hr2,H⟩ := aK H
   refine aU [.agg #[.slice none 0 0,.slice (some ⟨b2,0,none⟩) 1 1]] en26 (wt2 (bL (dT hc1)) rfl) rfl rfl (F26 k (p0 := (⟨[],([p0] : List GStmt)⟩ : GProg)) st3.has (SlR.none _) R1 hr2) ?_
   rintro _ w4 ⟨h4,rfl,sp4⟩
   have st4 := st3.call0 sp4
   refine aZ (wt2 (bL (dT hc1)) rfl) rfl (aP .neq .i64 r2 0 (.bool (!decide (r2 = 0))) 35 35 rfl rfl rfl)<|vv rfl (dI (.bool (!decide (r2 = 0))) (bL (dT hc1)) rfl rfl)<|aD ?_
   rcases aN H with ⟨hc2,H⟩ | ⟨hc2,H⟩
   · refine fa e10_7 (bL (dT hc2)) rfl<|aM e10_11<|aB e10_12<|aA e10_13<|vv rfl (aE (.slice cY p1.length cZ) rfl)<|vv rfl (dK (vs := [.slice cY p1.length cZ,.slice none 0 0]) [(0,.slice cY p1.length cZ)] bd72 rfl rfl)<|eF (.agg #[.slice cY p1.length cZ,.slice none 0 0]) rfl rfl rfl (fun b3 w5 al3 => ?_)
     replace al3 : Al _ (.cells (List.toArray [.slice cY p1.length cZ,.slice none 0 0]) 72 (0,0)) b3 w5 := al3
     have M1 := Mut.new st4 al3
     have lb1 := st4.alB al3
     have sp5 := al3.st st4.has
     have st5 := st4.call0 sp5
     refine vv rfl (aC (.pointer (some ⟨b3,0,none⟩)) rfl)<|aD<|aB e10_14<|aB e10_15 ?_
     refine dW [[(0,false),(1,false),(2,false),(3,false),(4,false),(5,false),(6,false),(7,false),(8,true),(9,false),(10,false),(11,false),(12,false),(13,false)]] [8] [0,1,2,3,4,5,6,7,8,9,10,11,12,13] [0,1,2,3,4,5,6,7,8,9,10,12,11,13] (fun w_ => Has h4 w_ ∧ w_.heap[b3]? = some (.cells (List.toArray [.slice cY p1.length cZ,.slice none 0 0]) 72 (0,0)) ∧ True) e10_16 k10_16 m10_16 (fun w6 al4 => ?_)
     have sp6 := al4.st st5.has
     have M2 := M1.call0 sp6
     have st6 := st5.call0 sp6
     refine ⟨⟨Has.le (Le.refl _) st6.has,M2.get,trivial⟩,?_,trivial⟩
     refine bI rfl rfl (fun w_ ok_ => aE (.pointer (some ⟨b3,0,none⟩)) rfl)<|bI rfl rfl (fun w_ ok_ => bG ⟨b3,0,none⟩ rfl)<|bI rfl rfl (fun w_ ok_ => aF (b := b3) (o := 0) fl72_0 rfl)<|bI rfl rfl (fun w_ ok_ => aL (.slice cY p1.length cZ) sc70 rfl ((aQ ok_.2.1).trans rfl))<|bI rfl rfl (fun w_ ok_ => aF (b := b1) (o := 0) fl33_0 rfl)<|bI rfl rfl (fun w_ ok_ => aL (.string p0.Name) sc9 rfl ((aQ (ok_.1 _ _ ((sp2.le.trans (le2.trans sp4.le)) _ _ g1))).trans rfl))<|bI rfl rfl (fun w_ ok_ => aF (b := b1) (o := 0) fl33_1 rfl)<|bI rfl rfl (fun w_ ok_ => aL (.slice aG p0.Index.length aH) sc28 rfl ((aQ (ok_.1 _ _ ((sp2.le.trans (le2.trans sp4.le)) _ _ g1))).trans rfl)) ?_
     obtain ⟨bV,hrd1_8_2,H⟩ := aK H
     refine dr_c rfl (fJ [.slice cY p1.length cZ,.string p0.Name,.slice aG p0.Index.length aH] en27 rfl rfl (F27 k st6.has (SlR.mono (le1.trans (sp2.le.trans (le2.trans sp4.le))) Rp1) (SlR.mono (le1.trans (sp2.le.trans (le2.trans sp4.le))) cN) hrd1_8_2) ?_)
     rintro _ wd1_8_3 ⟨eV,eW,hd1_8_4,rfl,cM,Rd1_8_8⟩
     have Md1_8_9 := M2.call0 cM
     have eL := st6.call0 cM
     refine ⟨.inr ⟨Has.le cM.le eL.has,Md1_8_9.get,trivial⟩,?_⟩
     refine bI rfl rfl (fun w_ ok_ => aE (.tuple #[.slice eV bV.1.length eW,I bV.2]) rfl)<|bI rfl rfl (fun w_ ok_ => bJ (.slice eV bV.1.length eW) rfl rfl)<|bI rfl rfl (fun w_ ok_ => bJ (I bV.2) rfl rfl)<|bI rfl rfl (fun w_ ok_ => aC (.slice eV bV.1.length eW) rfl)<|bI rfl rfl (fun w_ ok_ => aC (I bV.2) rfl)<|dZ<|aB e10_17<|aA e10_18<|vv rfl (aE (I bV.2) rfl)<|vv rfl (aP .neq .i64 bV.2 0 (.bool (!decide (bV.2 = 0))) 35 35 rfl rfl rfl) ?_
     refine aD ?_
     rcases aN H with ⟨hc3,H⟩ | ⟨hc3,H⟩
     · refine fa e10_19 (bL (dT hc3)) rfl<|aM e10_23<|aB e10_24<|aB e10_25<|aA e10_26<|vv rfl (aF (b := b1) (o := 0) fl33_1 rfl)<|vv rfl (aL (.slice aG p0.Index.length aH) sc28 rfl ((aQ (eL.has _ _ ((sp2.le.trans (le2.trans (sp4.le.trans cM.le))) _ _ g1))).trans rfl))<|vv rfl (bN u28 rfl)<|vv rfl (aE (I 0) rfl)<|aD ?_
       refine aT e10_27<|cB e10_28 ?_
       exact Fl10_0 k (j3 := 0) eL rfl rfl rfl rfl rfl (SlR.mono (le1.trans (sp2.le.trans (le2.trans (sp4.le.trans cM.le)))) cN) (SlR.mono (le1.trans (sp2.le.trans (le2.trans (sp4.le.trans cM.le)))) Rp0_E_Index) (SlR.mono (le1.trans (sp2.le.trans (le2.trans (sp4.le.trans cM.le)))) Rp0_E_L) ((sp2.le.trans (le2.trans (sp4.le.trans cM.le))) _ _ g1) (SlR.mono (le1.trans (sp2.le.trans (le2.trans (sp4.le.trans cM.le)))) Rp1) Md1_8_9 lb1 rfl H
     refine tr e10_19 (bK (dF hc3)) rfl<|aB e10_20<|aA e10_21<|vv rfl (aE (I bV.2) rfl)<|vv rfl (aC (.slice none 0 0) rfl)<|vv rfl (aC (I bV.2) rfl)<|aD ?_
     cases H
     exact aJ e10_22 (eK Try.results10 rfl rfl ⟨none,0,hd1_8_4,rfl,eL,(SlR.none _)⟩)
   refine tr e10_7 (bK (dF hc2)) rfl<|aB e10_8<|aA e10_9<|vv rfl (aC (.slice none 0 0) rfl)<|vv rfl (aC (I 1) rfl)<|aD ?_
   cases H
   exact aJ e10_10 (eK Try.results10 rfl rfl ⟨none,0,h4,rfl,st4,(SlR.none _)⟩)
 refine aR (wf2 (bK (dF hc1)) rfl) rfl<|aR (wf2 (bK (dF hc1)) rfl) rfl<|aR (wf2 (bK (dF hc1)) rfl) rfl<|aR (wf2 (bK (dF hc1)) rfl) rfl<|aR (wf2 (bK (dF hc1)) rfl) rfl<|vv rfl (dH (.bool true) (bK (dF hc1)) rfl rfl)<|aD<|cQ e10_7 (p := true) rfl rfl<|aB e10_8<|aA e10_9 ?_
 refine vv rfl (aC (.slice none 0 0) rfl)<|vv rfl (aC (I 1) rfl)<|aD ?_
 cases H
 exact aJ e10_10 (eK Try.results10 rfl rfl ⟨none,0,h2,rfl,st2,(SlR.none _)⟩)
abbrev ZSLl11_0 (k : Nat) : Prop := SLl11_0 k
theorem SLl11_0_z : SLl11_0 0 := by
  unfold SLl11_0; intros; rename_i H; exact absurd H (by simp [l11_0])
theorem SLl11_0_s (k : Nat) (ih : ZSLl11_0 k) : SLl11_0 (k + 1) := by
 intro p0 bA bC j1 p1 w0 w h0 h σ xs1 r st s1 s8 s9 s10 R1 hd1 H
 cases xs1 with
 | nil =>
  rw [l11_0] at H
  have hk1 := cV hd1
  refine aB e11_7<|aA e11_8<|vv rfl (aP .lss .i64 (j1 : Int) (p0.length : Int) (.bool (decide ((j1 : Int) < (p0.length : Int)))) 3 3 s10 s9 rfl)<|aD<|aB e11_9<|fa e11_10 hk1 rfl<|bM e11_12 rfl<|aB e11_25<|aA e11_26<|vv rfl (aC (I 0) rfl) ?_
  refine vv rfl (aC (.bool false) rfl)<|aD ?_
  cases H
  exact aJ e11_27 (eK Try.results11 rfl rfl ⟨h,rfl,st⟩)
 | cons x1 xs2 =>
  rw [l11_0] at H
  obtain ⟨hk2,hj1,hx1,hd2⟩ := cL hd1
  refine aB e11_7<|aA e11_8<|vv rfl (aP .lss .i64 (j1 : Int) (p0.length : Int) (.bool (decide ((j1 : Int) < (p0.length : Int)))) 3 3 s10 s9 rfl)<|aD<|aB e11_9<|tr e11_10 hk2 rfl<|aM e11_11<|aB e11_13<|aT e11_14<|aB e11_15 ?_
  refine aA e11_16 ?_
  obtain ⟨b1,o1,vs1,ea1,rp1,cl1⟩ := SlR.at R1 hx1
  obtain rfl := GDim.out rp1
  refine vv rfl (aX u34 sz39 s8 s10 ea1 (Int.natCast_nonneg _) (Int.ofNat_lt.2 hj1))<|vv rfl (bH [.string x1.Name,I x1.Size] ag39 sz39 rfl rfl (cl1 _ (Has.le (Le.refl _) st.has)))<|cF (.agg #[.string ByteArray.empty,I 0]) zr39 rfl rfl (fun b2 w1 al1 => ?_)
  replace al1 : Al _ (.cells (List.toArray [.string ByteArray.empty,I 0]) 39 (0,0)) b2 w1 := al1
  have M1 := Mut.new st al1
  have lb1 := st.alB al1
  have sp1 := al1.st st.has
  have st1 := st.call0 sp1
  refine aV (o := 0) (n := 2) [.string x1.Name,I x1.Size] [.string x1.Name,I x1.Size] (.agg #[.string x1.Name,I x1.Size]) sz39 rfl rfl rfl rfl M1 rfl rfl rfl rfl rfl (fun w2 wr1 M2 => ?_)
  have sp2 := wr1.st st1.has M1.none
  have st2 := st1.call sp2 (fun x e => (.inl (e ▸ lb1)))
  obtain ⟨h1,le1,g1,st3,kp1⟩ := M2.fz st2 lb1
  refine aD<|aB e11_17<|aA e11_18<|vv rfl (aF (b := b2) (o := 0) fl39_0 rfl)<|vv rfl (aL (.string x1.Name) sc9 rfl ((aQ (st3.has _ _ g1)).trans rfl))<|vv rfl (aE (.string p1) s1)<|vv rfl (x_strEq x1.Name p1 9 9 rfl rfl)<|aD ?_
  rcases aN H with ⟨hc1,H⟩ | ⟨hc1,H⟩
  · refine tr e11_19 (dT hc1) rfl<|aB e11_20<|aA e11_21<|vv rfl (aF (b := b2) (o := 0) fl39_1 rfl)<|vv rfl (aL (I x1.Size) sc3 rfl ((aQ (st3.has _ _ g1)).trans rfl))<|vv rfl (aC (I x1.Size) rfl)<|vv rfl (aC (.bool true) rfl)<|aD ?_
    cases H
    exact aJ e11_22 (eK Try.results11 rfl rfl ⟨h1,rfl,st3⟩)
  refine fa e11_19 (dF hc1) rfl<|aM e11_23<|aW<|aA e11_24<|vv rfl (aP .add .i64 (j1 : Int) 1 (I ((j1 + 1 : Nat) : Int)) 3 3 s10 rfl (dL hj1 (SlR.mono le1 R1).mx))<|vv rfl (aE (I ((j1 + 1 : Nat) : Int)) rfl)<|aD<|bF ?_
  exact ih (j1 := (j1 + 1)) st3 s1 s8 s9 rfl (SlR.mono le1 R1) hd2 H
theorem ZSLl11_0_all : ∀ k,ZSLl11_0 k
  | 0 => SLl11_0_z
  | k + 1 => SLl11_0_s k (ZSLl11_0_all k)
theorem Fl11_0 (k : Nat) : SLl11_0 k := (ZSLl11_0_all k)
theorem F11 (k : Nat) : S11 k := by
 intro p0 bA bC p1 w0 h0 hh Rp0 r H
 unfold m11 at H
 refine aO (fn := Try.f11) Try.func11 rfl (Nat.le_of_ble_eq_true rfl) ?_
 show Run X11 [.code c11_0] (fun t => List.getD [.slice bA p0.length bC,.string p1] t undef) w0 (.fn (Q11 w0 h0 r))
 have st0 := St.init hh noM
 refine aB e11_0<|aA e11_1<|vv rfl (aC (I 0) rfl)<|vv rfl (aC (.bool false) rfl)<|aD<|aB e11_2<|aB e11_3<|aA e11_4<|vv rfl (aE (.slice bA p0.length bC) rfl)<|vv rfl (bN u34 rfl) ?_
 refine vv rfl (aE (I 0) rfl)<|aD<|aT e11_5<|cB e11_6 ?_
 exact Fl11_0 k (j1 := 0) st0 rfl rfl rfl rfl Rp0 rfl H
abbrev ZSLl14_0 (k : Nat) : Prop := SLl14_0 k
theorem SLl14_0_z : SLl14_0 0 := by
  unfold SLl14_0; intros; rename_i H; exact absurd H (by simp [l14_0])
theorem SLl14_0_s (k : Nat) (ih : ZSLl14_0 k) : SLl14_0 (k + 1) := by
 intro p0 bY bS bZ bT b1 j3 w0 w h0 h σ i1 xs1 r st s1 s5 s27 s28 s29 R1 R2 g2 hd1 H
 cases xs1 with
 | nil =>
  rw [l14_0] at H
  have hk1 := cV hd1
  refine aB e14_27<|aA e14_28<|vv rfl (aP .lss .i64 (j3 : Int) (p0.S.length : Int) (.bool (decide ((j3 : Int) < (p0.S.length : Int)))) 3 3 s29 s28 rfl)<|aD<|aB e14_29<|fa e14_30 hk1 rfl<|bM e14_32 rfl<|aB e14_49<|aA e14_50<|vv rfl (aE (I i1) s5) ?_
  refine vv rfl (aC (I i1) rfl)<|vv rfl (aC (I 0) rfl)<|aD ?_
  cases H
  exact aJ e14_51 (eK Try.results14 rfl rfl ⟨h,rfl,st⟩)
 | cons x1 xs2 =>
  rw [l14_0] at H
  obtain ⟨hk2,hj1,hx1,hd2⟩ := cL hd1
  refine aB e14_27<|aA e14_28<|vv rfl (aP .lss .i64 (j3 : Int) (p0.S.length : Int) (.bool (decide ((j3 : Int) < (p0.S.length : Int)))) 3 3 s29 s28 rfl)<|aD<|aB e14_29<|tr e14_30 hk2 rfl<|aM e14_31<|aB e14_33<|aT e14_34<|aB e14_35 ?_
  refine aA e14_36 ?_
  obtain ⟨b2,o1,vs1,ea1,rp1,cl1⟩ := SlR.at R2 hx1
  obtain ⟨a1,c1,a2,c2,a3,c3,rfl,R3,R4,R5⟩ := GStmt.out rp1
  refine vv rfl (aX u23 sz33 s27 s29 ea1 (Int.natCast_nonneg _) (Int.ofNat_lt.2 hj1))<|vv rfl (bH [.string x1.Name,.slice a1 x1.Index.length c1,I x1.E.Op,I x1.E.N,.string x1.E.Name,.slice a2 x1.E.Index.length c2,.slice a3 x1.E.L.length c3] ag33 sz33 rfl rfl (cl1 _ (Has.le (Le.refl _) st.has)))<|cF (.agg #[.string ByteArray.empty,.slice none 0 0,I 0,I 0,.string ByteArray.empty,.slice none 0 0,.slice none 0 0]) zr33 rfl rfl (fun b3 w4 al2 => ?_)
  replace al2 : Al _ (.cells (List.toArray [.string ByteArray.empty,.slice none 0 0,I 0,I 0,.string ByteArray.empty,.slice none 0 0,.slice none 0 0]) 33 (0,0)) b3 w4 := al2
  have M1 := Mut.new st al2
  have lb1 := st.alB al2
  have sp4 := al2.st st.has
  have st4 := st.call0 sp4
  refine aV (o := 0) (n := 7) [.string x1.Name,.slice a1 x1.Index.length c1,I x1.E.Op,I x1.E.N,.string x1.E.Name,.slice a2 x1.E.Index.length c2,.slice a3 x1.E.L.length c3] [.string x1.Name,.slice a1 x1.Index.length c1,I x1.E.Op,I x1.E.N,.string x1.E.Name,.slice a2 x1.E.Index.length c2,.slice a3 x1.E.L.length c3] (.agg #[.string x1.Name,.slice a1 x1.Index.length c1,I x1.E.Op,I x1.E.N,.string x1.E.Name,.slice a2 x1.E.Index.length c2,.slice a3 x1.E.L.length c3]) sz33 rfl rfl rfl rfl M1 rfl rfl rfl rfl rfl (fun w5 wr1 M2 => ?_)
  have sp5 := wr1.st st4.has M1.none
  have st5 := st4.call sp5 (fun x e => (.inl (e ▸ lb1)))
  obtain ⟨h4,le2,g3,st6,kp1⟩ := M2.fz st5 lb1
  refine aD<|aB e14_37<|aB e14_38<|aA e14_39<|vv rfl (bH [.string x1.Name,.slice a1 x1.Index.length c1,I x1.E.Op,I x1.E.N,.string x1.E.Name,.slice a2 x1.E.Index.length c2,.slice a3 x1.E.L.length c3] ag33 sz33 rfl rfl (aY (st6.has _ _ g3) rfl))<|vv rfl (aF (b := b1) (o := 0) fl25_0 s1)<|vv rfl (aL (.slice bY p0.D.length bZ) sc22 rfl ((aQ (st6.has _ _ (le2 _ _ g2))).trans rfl)) ?_
  obtain ⟨r3,hr3,H⟩ := aK H
  refine aU [.agg #[.string x1.Name,.slice a1 x1.Index.length c1,I x1.E.Op,I x1.E.N,.string x1.E.Name,.slice a2 x1.E.Index.length c2,.slice a3 x1.E.L.length c3],.slice bY p0.D.length bZ] en10 rfl rfl rfl (F10 k (p0 := x1) st6.has (SlR.mono le2 R3) (SlR.mono le2 R4) (SlR.mono le2 R5) (SlR.mono le2 R1) hr3) ?_
  rintro _ w6 ⟨a4,c4,h5,rfl,sp6,R6⟩
  have st7 := st6.call0 sp6
  refine vv rfl (aE (.tuple #[.slice a4 r3.1.length c4,I r3.2]) rfl)<|vv rfl (bJ (.slice a4 r3.1.length c4) rfl rfl)<|vv rfl (bJ (I r3.2) rfl rfl)<|vv rfl (aC (.slice a4 r3.1.length c4) rfl)<|vv rfl (aC (I r3.2) rfl)<|aD<|aB e14_40<|aA e14_41<|vv rfl (aE (I r3.2) rfl)<|vv rfl (aP .neq .i64 r3.2 0 (.bool (!decide (r3.2 = 0))) 35 35 rfl rfl rfl) ?_
  refine aD ?_
  rcases aN H with ⟨hc3,H⟩ | ⟨hc3,H⟩
  · refine fa e14_42 (bL (dT hc3)) rfl<|aM e14_46<|aA e14_47<|vv rfl (aE (I i1) s5)<|vv rfl (aP .add .i64 i1 1 (I (wr (i1 + 1))) 3 3 rfl rfl rfl)<|vv rfl (aC (I (wr (i1 + 1))) rfl)<|aD<|aW<|aA e14_48<|vv rfl (aP .add .i64 (j3 : Int) 1 (I ((j3 + 1 : Nat) : Int)) 3 3 s29 rfl (dL hj1 (SlR.mono (le2.trans sp6.le) R2).mx)) ?_
    refine vv rfl (aE (I ((j3 + 1 : Nat) : Int)) rfl)<|aD<|bF ?_
    exact ih (j3 := (j3 + 1)) st7 s1 rfl s27 s28 rfl (SlR.mono (le2.trans sp6.le) R1) (SlR.mono (le2.trans sp6.le) R2) ((le2.trans sp6.le) _ _ g2) hd2 H
  refine tr e14_42 (bK (dF hc3)) rfl<|aB e14_43<|aA e14_44<|vv rfl (aE (I i1) s5)<|vv rfl (aE (I r3.2) rfl)<|vv rfl (aC (I i1) rfl)<|vv rfl (aC (I r3.2) rfl)<|aD ?_
  cases H
  exact aJ e14_45 (eK Try.results14 rfl rfl ⟨h5,rfl,st7⟩)
theorem ZSLl14_0_all : ∀ k,ZSLl14_0 k
  | 0 => SLl14_0_z
  | k + 1 => SLl14_0_s k (ZSLl14_0_all k)
theorem Fl14_0 (k : Nat) : SLl14_0 k := (ZSLl14_0_all k)
theorem F14 (k : Nat) : S14 k := by
 intro p0 bY bS bZ bT w0 h0 hh Rp0_D Rp0_S r H
 unfold m14 at H
 refine aO (fn := Try.f14) Try.func14 rfl (Nat.le_of_ble_eq_true rfl) ?_
 show Run X14 [.code c14_0] (fun t => List.getD [.agg #[.slice bY p0.D.length bZ,.slice bS p0.S.length bT]] t undef) w0 (.fn (Q14 w0 h0 r))
 have st0 := St.init hh noM
 refine aB e14_0<|aA e14_1<|eF (.agg #[.slice bY p0.D.length bZ,.slice bS p0.S.length bT]) rfl rfl rfl (fun b1 w1 al1 => ?_)
 replace al1 : Al _ (.cells (List.toArray [.slice bY p0.D.length bZ,.slice bS p0.S.length bT]) 25 (0,0)) b1 w1 := al1
 obtain ⟨h1,le1,g1,sp1⟩ := al1.fz st0.has
 have st1 := st0.call0 sp1
 refine vv rfl (aC (I 0) rfl)<|vv rfl (aC (I 0) rfl)<|aD<|aB e14_2<|aB e14_3<|aA e14_4<|vv rfl (bH [.slice bY p0.D.length bZ,.slice bS p0.S.length bT] ag25 sz25 rfl rfl (aY (st1.has _ _ g1) rfl)) ?_
 obtain ⟨r1,hr1,H⟩ := aK H
 refine aU [.agg #[.slice bY p0.D.length bZ,.slice bS p0.S.length bT]] en26 rfl rfl rfl (F26 k (p0 := p0) st1.has (SlR.mono le1 Rp0_D) (SlR.mono le1 Rp0_S) hr1) ?_
 rintro _ w2 ⟨h2,rfl,sp2⟩
 have st2 := st1.call0 sp2
 refine vv rfl (aC (I r1) rfl)<|aD<|aB e14_5<|aA e14_6<|vv rfl (aE (I r1) rfl)<|vv rfl (aP .neq .i64 r1 0 (.bool (!decide (r1 = 0))) 35 35 rfl rfl rfl)<|aD ?_
 rcases aN H with ⟨hc1,H⟩ | ⟨hc1,H⟩
 · refine fa e14_7 (bL (dT hc1)) rfl<|aM e14_11<|aB e14_12<|aA e14_13<|vv rfl (aF (b := b1) (o := 0) fl25_0 rfl)<|vv rfl (aL (.slice bY p0.D.length bZ) sc22 rfl ((aQ (st2.has _ _ (sp2.le _ _ g1))).trans rfl)) ?_
   obtain ⟨r2,hr2,H⟩ := aK H
   refine aU [.slice bY p0.D.length bZ] en15 rfl rfl rfl (F15 k st2.has (SlR.mono (le1.trans sp2.le) Rp0_D) hr2) ?_
   rintro _ w3 ⟨h3,rfl,sp3⟩
   have st3 := st2.call0 sp3
   refine vv rfl (aE (.tuple #[I r2.1,I r2.2]) rfl)<|vv rfl (bJ (I r2.1) rfl rfl)<|vv rfl (bJ (I r2.2) rfl rfl)<|vv rfl (aC (I r2.1) rfl)<|vv rfl (aC (I r2.2) rfl)<|aD<|aB e14_14<|aB e14_15<|aA e14_16<|vv rfl (aE (I r2.2) rfl) ?_
   refine vv rfl (aP .neq .i64 r2.2 0 (.bool (!decide (r2.2 = 0))) 35 35 rfl rfl rfl)<|aD ?_
   rcases aN H with ⟨hc2,H⟩ | ⟨hc2,H⟩
   · refine fa e14_17 (bL (dT hc2)) rfl<|aM e14_21<|aB e14_22<|aB e14_23<|aA e14_24<|vv rfl (aF (b := b1) (o := 0) fl25_1 rfl)<|vv rfl (aL (.slice bS p0.S.length bT) sc23 rfl ((aQ (st3.has _ _ ((sp2.le.trans sp3.le) _ _ g1))).trans rfl))<|vv rfl (bN u23 rfl)<|vv rfl (aE (I 0) rfl)<|aD ?_
     refine aT e14_25<|cB e14_26 ?_
     exact Fl14_0 k (j3 := 0) st3 rfl rfl rfl rfl rfl (SlR.mono (le1.trans (sp2.le.trans sp3.le)) Rp0_D) (SlR.mono (le1.trans (sp2.le.trans sp3.le)) Rp0_S) ((sp2.le.trans sp3.le) _ _ g1) rfl H
   refine tr e14_17 (bK (dF hc2)) rfl<|aB e14_18<|aA e14_19<|vv rfl (aE (I r2.1) rfl)<|vv rfl (aE (I r2.2) rfl)<|vv rfl (aC (I r2.1) rfl)<|vv rfl (aC (I r2.2) rfl)<|aD ?_
   cases H
   exact aJ e14_20 (eK Try.results14 rfl rfl ⟨h3,rfl,st3⟩)
 refine tr e14_7 (bK (dF hc1)) rfl<|aB e14_8<|aA e14_9<|vv rfl (aE (I r1) rfl)<|vv rfl (aC (I 0) rfl)<|vv rfl (aC (I r1) rfl)<|aD ?_
 cases H
 exact aJ e14_10 (eK Try.results14 rfl rfl ⟨h2,rfl,st2⟩)
theorem F60 : S60 := by
  intro p0 bA bC w0 h0 hh Rp0 r H
  obtain ⟨hs,H⟩ := cD H
  cases H
  refine aO (fn := Try.f60) Try.func60 rfl (Nat.le_of_ble_eq_true rfl) ?_
  show Run X60 [.code c60_0] (fun t => List.getD [.slice bA p0.length bC] t undef) w0 (.fn (Q60 w0 h0 p0))
  have st0 := St.init hh noM
  refine aB e60_0 ?_
  refine aA e60_1 ?_
  refine aZ rfl rfl (aC (.slice none 0 0) rfl) ?_
  refine aD ?_
  refine aB e60_2 ?_
  refine aB e60_3 ?_
  refine aA e60_4 ?_
  refine aZ rfl rfl (aE (.slice bA p0.length bC) rfl) ?_
  refine aZ rfl rfl (x_slNil u28 rfl rfl) ?_
  refine aD ?_
  cases bA with
  | none =>
    have hz := Rp0.nil rfl
    have hl : p0 = [] := List.length_eq_zero_iff.1 (by have := Rp0.lc; omega)
    subst hl
    refine cQ e60_5 rfl rfl ?_
    refine aB e60_6 ?_
    refine aA e60_7 ?_
    refine aZ rfl rfl (aC (.slice none 0 0) rfl) ?_
    refine aD ?_
    exact aJ e60_8 (cG Try.results60 rfl ⟨none,0,h0,rfl,st0,Own.nil _ _ _ _⟩)
  | some A =>
    refine dJ e60_5 rfl rfl ?_
    refine aM e60_9 ?_
    refine aB e60_10 ?_
    refine aA e60_11 ?_
    refine rr_buildSlice0 u28 sz9 rfl rfl (fun b w1 al => ?_)
    have M := Mut.new st0 al
    have st1 := St.call0 st0 (al.st st0.has)
    have O : Own 9 w0.heap.size _ _ _ _ ([] : List ByteArray) := Lits.own (n := 0) (Lits.nil (h := h0)) rfl rfl (by decide) M (st0.alB al)
    refine aZ rfl rfl (aE (.slice (some A) p0.length bC) rfl) ?_
    refine eG (α := ByteArray) (B := w0.heap.size) (l := ([] : List ByteArray)) (l2 := p0) u28 u28 ap9 rfl rfl rfl rfl st1.has st1.sp.size O Rp0 rfl rfl (by simpa using hs) (fun a c w2 O2 sp bl => ?_)
    refine aZ rfl rfl (aC (.slice a p0.length c) rfl) ?_
    have st2 := St.call st1 sp (fun x e => .inl (Own.lbs O x e))
    refine aD ?_
    exact aJ e60_12 (cG Try.results60 rfl ⟨a,c,h0,rfl,st2,O2⟩)
end Go.Proofs.Ytjdfoipnmbnkeaa
