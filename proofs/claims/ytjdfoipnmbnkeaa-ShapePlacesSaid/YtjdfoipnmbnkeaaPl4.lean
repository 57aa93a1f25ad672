/- ShapePlaces holds: for every input the law returns true, and the input reads as it did. Part 5 of 6. No conditions. -/
import Derived.Test.YtjdfoipnmbnkeaaPl3
set_option maxRecDepth 100000
set_option maxHeartbeats 8000000
namespace Go.Proofs.Ytjdfoipnmbnkeaa
open Go
abbrev ZS35 (k : Nat) : Prop := S35 k ∧ SLl35_0 k ∧ SLl35_1 k
theorem S35_z : S35 0 := by
  unfold S35; intros; rename_i H; exact absurd H (by simp [m35])
theorem S35_s (k : Nat) (ih : ZS35 k) : S35 (k + 1) := by
 intro p0 aG bD cY p2_a aH bE cZ p2_c p2_B p1 p2 w0 h0 hh cN Rp0_L Rp1 hBp2 Op2 r H
 rw [m35] at H
 refine aO (fn := Try.f35) Try.func35 rfl (Nat.le_of_ble_eq_true rfl) ?_
 show Run X35 [.code c35_0] (fun t => List.getD [.agg #[I p0.Op,I p0.N,.string p0.Name,.slice aG p0.Index.length aH,.slice bD p0.L.length bE],.slice cY p1.length cZ,.slice p2_a p2.length p2_c] t undef) w0 (.fn (Q35 w0 h0 p2_a p2_B r))
 have st0 := St.init hh (fun x => blk p2_a x)
 have rel1 : ∀ x,blk p2_a x → blk p2_a x ∨ w0.heap.size ≤ x := fun x hx => .inl hx
 refine aB e35_0<|aA e35_1<|eF (.agg #[I p0.Op,I p0.N,.string p0.Name,.slice aG p0.Index.length aH,.slice bD p0.L.length bE]) rfl rfl rfl (fun b1 w1 al1 => ?_)
 replace al1 : Al _ (.cells (List.toArray [I p0.Op,I p0.N,.string p0.Name,.slice aG p0.Index.length aH,.slice bD p0.L.length bE]) 31 (0,0)) b1 w1 := al1
 obtain ⟨h1,le1,g1,sp1⟩ := al1.fz st0.has
 have O1 := Op2.call0 sp1
 have st1 := st0.call0 sp1
 refine vv rfl (aC (.slice none 0 0) rfl)<|aD<|aB e35_2<|aB e35_3<|aA e35_4<|vv rfl (aF (b := b1) (o := 0) fl31_0 rfl)<|vv rfl (aL (I p0.Op) sc3 rfl ((aQ (st1.has _ _ g1)).trans rfl))<|vv rfl (aP .eql .i64 p0.Op 2 (.bool (decide (p0.Op = 2))) 3 3 rfl rfl rfl)<|aD ?_
 rcases aN H with ⟨hc1,H⟩ | ⟨hc1,H⟩
 · refine tr e35_5 (dT hc1) rfl<|aB e35_6<|aB e35_7<|aA e35_8<|vv rfl (aF (b := b1) (o := 0) fl31_3 rfl)<|vv rfl (aL (.slice aG p0.Index.length aH) sc28 rfl ((aQ (st1.has _ _ g1)).trans rfl))<|vv rfl (bN u28 rfl)<|vv rfl (aE (I 0) rfl)<|aD<|aT e35_9 ?_
   refine cB e35_10 ?_
   exact ih.2.1 (j2 := 0) st1 rfl rfl rfl rfl rfl (SlR.mono le1 Rp1) O1 rel1 hBp2 (SlR.mono le1 cN) rfl H
 refine fa e35_5 (dF hc1) rfl<|aM e35_30<|aB e35_31<|aB e35_32<|aA e35_33<|vv rfl (aF (b := b1) (o := 0) fl31_0 rfl)<|vv rfl (aL (I p0.Op) sc3 rfl ((aQ (st1.has _ _ g1)).trans rfl))<|vv rfl (aP .eql .i64 p0.Op 7 (.bool (decide (p0.Op = 7))) 3 3 rfl rfl rfl)<|aD ?_
 obtain ⟨j4,hj4,H⟩ := dE H
 have Jj4 : ∀ {y4 y5 : (List ByteArray)} {a6 a7 : OA} {c6 c7 : Nat} {σ3 : Env} {w9 : World} {h8 : Sto},Le h1 h8 → St w0 (fun x => blk p2_a x) h0 h8 w9 → σ3 1 = .slice a6 y4.length c6 → σ3 2 = .slice a7 y5.length c7 → σ3 3 = .pointer (some ⟨b1,0,none⟩) → SlR h8 a6 c6 y4 → Own 9 p2_B h8 w9 a7 c7 y5 → (∀ x,blk a7 x → blk p2_a x ∨ w0.heap.size ≤ x) → j4 y4 y5 = some r → Run X35 [.code c35_37] σ3 w9 (.fn (Q35 w0 h0 p2_a p2_B r)) := by
  intro y4 y5 a6 a7 c6 c7 σ3 w9 h8 le6 st9 s1_j4 s2_j4 s3_j4 R8 O12 rel6 H
  rw [hj4] at H
  refine aB e35_37<|aB e35_38<|aA e35_39<|vv rfl (aF (b := b1) (o := 0) fl31_4 s3_j4)<|vv rfl (aL (.slice bD p0.L.length bE) sc29 rfl ((aQ (st9.has _ _ (le6 _ _ g1))).trans rfl))<|vv rfl (bN u29 rfl)<|vv rfl (aE (I 0) rfl)<|aD<|aT e35_40<|cB e35_41 ?_
  exact ih.2.2 (j6 := 0) st9 s1_j4 s2_j4 rfl rfl rfl R8 O12 rel6 hBp2 (SlR.mono (le1.trans le6) Rp0_L) rfl H
 rcases aN H with ⟨hc4,H⟩ | ⟨hc4,H⟩
 · refine tr e35_34 (dT hc4) rfl ?_
   obtain ⟨j5,hj5,H⟩ := dE H
   have Jj5 : ∀ {y2 y3 : (List ByteArray)} {a4 a5 : OA} {c4 c5 : Nat} {σ2 : Env} {w8 : World} {h7 : Sto},Le h1 h7 → St w0 (fun x => blk p2_a x) h0 h7 w8 → σ2 1 = .slice a4 y2.length c4 → σ2 2 = .slice a5 y3.length c5 → σ2 3 = .pointer (some ⟨b1,0,none⟩) → Own 9 w0.heap.size h7 w8 a4 c4 y2 → Own 9 p2_B h7 w8 a5 c5 y3 → (∀ x,blk a5 x → blk p2_a x ∨ w0.heap.size ≤ x) → (∀ x,blk a4 x → ¬ blk a5 x) → j5 y2 y3 = some r → Run X35 [.code c35_37] σ2 w8 (.fn (Q35 w0 h0 p2_a p2_B r)) := by
    intro y2 y3 a4 a5 c4 c5 σ2 w8 h7 le5 st8 s1_j5 s2_j5 s3_j5 O9 O10 rel5 ne1 H
    rw [hj5] at H
    obtain ⟨h9,le7,st10,R7,kp2⟩ := O9.frz st8 (Nat.le_refl _)
    have O11 := O10.frB le7 kp2 (fun x hx h2 => ne1 x h2 hx)
    exact Jj4 (le5.trans le7) st10 s1_j5 s2_j5 s3_j5 R7 O11 rel5 H
   obtain ⟨rd1_1_1,hrd1_1_2,H⟩ := aK H
   obtain ⟨hsd1_5_1,H⟩ := cD H
   refine dW [[(0,false),(2,false),(3,false),(1,true),(4,true),(5,true),(6,true)],[(0,false),(2,false),(3,false),(4,true),(1,true),(5,true),(6,true)]] [1,4,5,6] [0,1,2,3,4,5,6] [0,1,2,3,4,5,6] (fun w_ => Has h1 w_ ∧ True) e35_35 k35_35 m35_35 (fun w7 al3 => ?_)
   have sp7 := al3.st st1.has
   have O8 := O1.call0 sp7
   have st7 := st1.call0 sp7
   refine ⟨⟨Has.le (Le.refl _) st7.has,trivial⟩,?_,?_,trivial⟩
   · refine bI rfl rfl (fun w_ ok_ => aE (.slice cY p1.length cZ) rfl)<|bI rfl rfl (fun w_ ok_ => aF (b := b1) (o := 0) fl31_2 rfl)<|bI rfl rfl (fun w_ ok_ => aL (.string p0.Name) sc9 rfl ((aQ (ok_.1 _ _ g1)).trans rfl)) ?_
     refine dr_c rfl (fJ [.slice cY p1.length cZ] en60 rfl rfl (F60 st7.has (SlR.mono le1 Rp1) hrd1_1_2) ?_)
     rintro _ wd1_1_3 ⟨ad1_1_6,cd1_1_7,hd1_1_4,rfl,fF,Rd1_1_8⟩
     have Od1_1_9 := O8.call0 fF
     have std1_1_10 := st7.call0 fF
     have ned1_1_12 := Own.ne_new O8 Rd1_1_8
     have Od1_1_13 := Rd1_1_8.low st7.sp.size
     refine ⟨.inr ⟨Has.le fF.le std1_1_10.has,trivial⟩,?_⟩
     refine dr_c rfl (dU [.string ByteArray.empty] [.string p0.Name] [(0,.string p0.Name)] u28 sz9 zr9 rfl rfl rfl (by kernel_rfl) rfl (by kernel_rfl) (fun fT wd1_4_2 ald1_4_3 => ?_))
     have lid1_4_8 : Lits hd1_1_4 [[.string p0.Name]] ([p0.Name] : List ByteArray) := (Lits.cons rfl Lits.nil)
     obtain ⟨hd1_4_4,dA,gd1_4_6,dO⟩ := ald1_4_3.fz std1_1_10.has
     have Od1_4_9 := Od1_1_9.call0 dO
     have Od1_4_10 := Od1_1_13.call0 dO
     have std1_4_11 := std1_1_10.call0 dO
     have Rd1_4_12 : SlR _ _ _ ([p0.Name] : List ByteArray) := Lits.sl (n := 1) (Lits.mono dA lid1_4_8) rfl rfl (by decide) gd1_4_6
     refine ⟨.inr ⟨Has.le (fF.le.trans dA) std1_4_11.has,trivial⟩,?_⟩
     refine dr_c rfl (od_append (α := ByteArray) (B := w0.heap.size) (l := rd1_1_1) (l2 := ([p0.Name] : List ByteArray)) u28 u28 ap9 rfl rfl rfl std1_4_11.has std1_4_11.sp.size Od1_4_10 Rd1_4_12 rfl rfl hsd1_5_1 (fun ad1_5_2 cd1_5_3 wd1_5_4 Od1_5_5 spd1_5_6 bld1_5_7 => ?_))
     have Od1_5_8 := Od1_4_9.call spd1_5_6 (fun x hx e => ((fun x hx h2 => ned1_1_12 x h2 hx) x hx e))
     have std1_5_9 := std1_4_11.call spd1_5_6 (fun x e => (.inl (Od1_4_10.lbs x e)))
     have ned1_5_11 : ∀ x,blk ad1_5_2 x → ¬ blk p2_a x := fun x hx => (bld1_5_7 x hx).elim (ned1_1_12 x) (fun q hb => absurd (Own.lts Od1_4_9 x hb) (by omega))
     refine ⟨.inr ⟨Has.le (fF.le.trans dA) std1_5_9.has,trivial⟩,?_⟩
     refine dr_c rfl (od_v rfl (aC (.slice ad1_5_2 ((rd1_1_1 ++ ([p0.Name] : List ByteArray)).length) cd1_5_3) rfl) ?_)
     refine ⟨.inl rfl,?_⟩
     refine dZ ?_
     exact Jj5 (fF.le.trans dA) std1_5_9 rfl rfl rfl Od1_5_5 Od1_5_8 rel1 ned1_5_11 H
   refine bI rfl rfl (fun w_ ok_ => aE (.slice cY p1.length cZ) rfl)<|bI rfl rfl (fun w_ ok_ => aF (b := b1) (o := 0) fl31_2 rfl)<|bI rfl rfl (fun w_ ok_ => aL (.string p0.Name) sc9 rfl ((aQ (ok_.1 _ _ g1)).trans rfl))<|dr_c rfl (dU [.string ByteArray.empty] [.string p0.Name] [(0,.string p0.Name)] u28 sz9 zr9 rfl rfl rfl (by kernel_rfl) rfl (by kernel_rfl) (fun fT wd1_4_2 ald1_4_3 => ?_))
   have lid1_4_8 : Lits h1 [[.string p0.Name]] ([p0.Name] : List ByteArray) := (Lits.cons rfl Lits.nil)
   obtain ⟨hd1_4_4,dA,gd1_4_6,dO⟩ := ald1_4_3.fz st7.has
   have Od1_4_9 := O8.call0 dO
   have std1_4_10 := st7.call0 dO
   have Rd1_4_11 : SlR _ _ _ ([p0.Name] : List ByteArray) := Lits.sl (n := 1) (Lits.mono dA lid1_4_8) rfl rfl (by decide) gd1_4_6
   refine ⟨.inr ⟨Has.le dA std1_4_10.has,trivial⟩,?_⟩
   refine dr_c rfl (fJ [.slice cY p1.length cZ] en60 rfl rfl (F60 std1_4_10.has (SlR.mono (le1.trans dA) Rp1) hrd1_1_2) ?_)
   rintro _ wd1_1_3 ⟨ad1_1_6,cd1_1_7,hd1_1_4,rfl,fF,Rd1_1_8⟩
   have Od1_1_9 := Od1_4_9.call0 fF
   have std1_1_10 := std1_4_10.call0 fF
   have ned1_1_12 := Own.ne_new Od1_4_9 Rd1_1_8
   have Od1_1_13 := Rd1_1_8.low std1_4_10.sp.size
   refine ⟨.inr ⟨Has.le (dA.trans fF.le) std1_1_10.has,trivial⟩,?_⟩
   refine dr_c rfl (od_append (α := ByteArray) (B := w0.heap.size) (l := rd1_1_1) (l2 := ([p0.Name] : List ByteArray)) u28 u28 ap9 rfl rfl rfl std1_1_10.has std1_1_10.sp.size Od1_1_13 (SlR.mono fF.le Rd1_4_11) rfl rfl hsd1_5_1 (fun ad1_5_2 cd1_5_3 wd1_5_4 Od1_5_5 spd1_5_6 bld1_5_7 => ?_))
   have Od1_5_8 := Od1_1_9.call spd1_5_6 (fun x hx e => ((fun x hx h2 => ned1_1_12 x h2 hx) x hx e))
   have std1_5_9 := std1_1_10.call spd1_5_6 (fun x e => (.inl (Od1_1_13.lbs x e)))
   have ned1_5_11 : ∀ x,blk ad1_5_2 x → ¬ blk p2_a x := fun x hx => (bld1_5_7 x hx).elim (ned1_1_12 x) (fun q hb => absurd (Own.lts Od1_1_9 x hb) (by omega))
   refine ⟨.inr ⟨Has.le (dA.trans fF.le) std1_5_9.has,trivial⟩,?_⟩
   refine dr_c rfl (od_v rfl (aC (.slice ad1_5_2 ((rd1_1_1 ++ ([p0.Name] : List ByteArray)).length) cd1_5_3) rfl) ?_)
   refine ⟨.inl rfl,?_⟩
   refine dZ ?_
   exact Jj5 (dA.trans fF.le) std1_5_9 rfl rfl rfl Od1_5_5 Od1_5_8 rel1 ned1_5_11 H
 refine fa e35_34 (dF hc4) rfl<|aM e35_36 ?_
 exact Jj4 (Le.refl _) st1 rfl rfl rfl (SlR.mono le1 Rp1) O1 rel1 H
theorem SLl35_0_z : SLl35_0 0 := by
  unfold SLl35_0; intros; rename_i H; exact absurd H (by simp [l35_0])
theorem SLl35_0_s (k : Nat) (ih : ZS35 k) : SLl35_0 (k + 1) := by
 intro p0 aG cY p2_a a1 aH cZ p2_B c1 j2 p1 l1 w0 w h0 h σ xs1 r st s1 s2 s15 s16 s17 R1 O2 rel2 hBp2 R2 hd1 H
 cases xs1 with
 | nil =>
  rw [l35_0] at H
  have hk1 := cV hd1
  refine aB e35_11<|aA e35_12<|vv rfl (aP .lss .i64 (j2 : Int) (p0.Index.length : Int) (.bool (decide ((j2 : Int) < (p0.Index.length : Int)))) 3 3 s17 s16 rfl)<|aD<|aB e35_13<|fa e35_14 hk1 rfl<|bM e35_16 rfl<|aB e35_27<|aA e35_28<|vv rfl (aE (.slice a1 l1.length c1) s2) ?_
  refine vv rfl (aC (.slice a1 l1.length c1) rfl)<|aD ?_
  cases H
  exact aJ e35_29 (cG Try.results35 rfl ⟨a1,c1,h,rfl,st,O2,rel2⟩)
 | cons x1 xs2 =>
  rw [l35_0] at H
  obtain ⟨hk2,hj1,hx1,hd2⟩ := cL hd1
  refine aB e35_11<|aA e35_12<|vv rfl (aP .lss .i64 (j2 : Int) (p0.Index.length : Int) (.bool (decide ((j2 : Int) < (p0.Index.length : Int)))) 3 3 s17 s16 rfl)<|aD<|aB e35_13<|tr e35_14 hk2 rfl<|aM e35_15<|aB e35_17<|aT e35_18<|aB e35_19 ?_
  refine aA e35_20 ?_
  obtain ⟨b2,o1,vs1,ea1,rp1,cl1⟩ := SlR.at R2 hx1
  obtain rfl := rp1
  refine vv rfl (aX u28 sz9 s15 s17 ea1 (Int.natCast_nonneg _) (Int.ofNat_lt.2 hj1))<|vv rfl (aL (.string x1) sc9 rfl (((cl1 _ (Has.le (Le.refl _) st.has)) 0 (by decide)).trans rfl))<|vv rfl (aC (.string x1) rfl)<|aD<|aB e35_21<|aA e35_22 ?_
  obtain ⟨j3,hj3,H⟩ := dE H
  have Jj3 : ∀ {y1 : (List ByteArray)} {a3 : OA} {c3 : Nat} {σ1 : Env} {w6 : World} {h6 : Sto},Le h h6 → St w0 (fun x => blk p2_a x) h0 h6 w6 → σ1 1 = .slice cY p1.length cZ → σ1 2 = .slice a3 y1.length c3 → σ1 15 = .slice aG p0.Index.length aH → σ1 16 = I (p0.Index.length : Int) → σ1 17 = I (j2 : Int) → SlR h6 cY cZ p1 → Own 9 p2_B h6 w6 a3 c3 y1 → (∀ x,blk a3 x → blk p2_a x ∨ w0.heap.size ≤ x) → SlR h6 aG aH p0.Index → j3 y1 = some r → Run X35 [.inBlock 1,.code c35_26,.inLoop c35_11,.inBlock 0,.code c35_27,.code c35_31] σ1 w6 (.fn (Q35 w0 h0 p2_a p2_B r)) := by
   intro y1 a3 c3 σ1 w6 h6 le4 st6 s1_j3 s2_j3 s15_j3 s16_j3 s17_j3 R5 O7 rel4 R6 H
   rw [hj3] at H
   refine aW<|aA e35_26<|vv rfl (aP .add .i64 (j2 : Int) 1 (I ((j2 + 1 : Nat) : Int)) 3 3 s17_j3 rfl (dL hj1 R6.mx))<|vv rfl (aE (I ((j2 + 1 : Nat) : Int)) rfl)<|aD<|bF ?_
   exact ih.2.1 (j2 := (j2 + 1)) st6 s1_j3 s2_j3 s15_j3 s16_j3 rfl R5 O7 rel4 hBp2 R6 hd2 H
  refine vv rfl (aE (.slice cY p1.length cZ) s1)<|vv rfl (aE (.string x1) rfl) ?_
  obtain ⟨r1,hr1,H⟩ := aK H
  refine aU [.slice cY p1.length cZ,.string x1] en28 rfl rfl rfl (F28 k st.has R1 hr1) ?_
  rintro _ w2 ⟨h2,rfl,sp2⟩
  have O3 := O2.call0 sp2
  have st2 := st.call0 sp2
  refine vv rfl (eA r1 4 rfl)<|vv rfl (aE (.bool (!r1)) rfl) ?_
  rcases aN H with ⟨hc2,H⟩ | ⟨hc2,H⟩
  · refine aR (wf2 (bL hc2) rfl) rfl<|aR (wf2 (bL hc2) rfl) rfl<|aR (wf2 (bL hc2) rfl) rfl<|aR (wf2 (bL hc2) rfl) rfl<|vv rfl (dI (.bool false) (bL hc2) rfl rfl)<|aD<|dJ e35_23 (p := false) rfl rfl<|aM e35_25 ?_
    exact Jj3 sp2.le st2 s1 s2 s15 s16 s17 (SlR.mono sp2.le R1) O3 rel2 (SlR.mono sp2.le R2) H
  refine aZ (wt2 (bK (cA hc2)) rfl) rfl (aE (.slice a1 l1.length c1) s2)<|aZ (wt2 (bK (cA hc2)) rfl) rfl (aE (.string x1) rfl) ?_
  obtain ⟨h3,le2,R3,hh1,kp1⟩ := Own.lend O3 st2.has
  obtain ⟨r2,hr2,H⟩ := aK H
  refine aU [.slice a1 l1.length c1,.string x1] en28 (wt2 (bK (cA hc2)) rfl) rfl rfl (F28 k hh1 R3 hr2) ?_
  rintro _ w3 ⟨h4,rfl,sp3⟩
  have sp4 := St.lend sp3 le2
  have O4 := O3.call0 sp4
  have st3 := st2.call0 sp4
  refine aZ (wt2 (bK (cA hc2)) rfl) rfl (eA r2 4 rfl)<|vv rfl (dH (.bool (!r2)) (bK (cA hc2)) rfl rfl)<|aD ?_
  rcases aN H with ⟨hc3,H⟩ | ⟨hc3,H⟩
  · refine fa e35_23 (bL hc3) rfl<|aM e35_25 ?_
    exact Jj3 sp2.le st3 s1 s2 s15 s16 s17 (SlR.mono sp2.le R1) O4 rel2 (SlR.mono sp2.le R2) H
  refine tr e35_23 (bK (cA hc3)) rfl<|aA e35_24<|vv rfl (aE (.slice a1 l1.length c1) s2)<|vv rfl (aE (.string x1) rfl)<|cH [.string ByteArray.empty] [.string x1] [(0,.string x1)] u28 sz9 zr9 rfl rfl rfl rfl (by kernel_rfl) rfl (by kernel_rfl) (fun b3 w4 al2 => ?_)
  have li1 : Lits h2 [[.string x1]] ([x1] : List ByteArray) := (Lits.cons rfl Lits.nil)
  obtain ⟨h5,le3,g2,sp5⟩ := al2.fz st3.has
  have O5 := O4.call0 sp5
  have st4 := st3.call0 sp5
  have R4 : SlR _ _ _ ([x1] : List ByteArray) := Lits.sl (n := 1) (Lits.mono le3 li1) rfl rfl (by decide) g2
  obtain ⟨hs1,H⟩ := cD H
  refine eG (α := ByteArray) (B := p2_B) (l := l1) (l2 := ([x1] : List ByteArray)) u28 u28 ap9 rfl rfl rfl rfl st4.has (Nat.le_trans hBp2 st4.sp.size) O5 R4 rfl rfl hs1 (fun a2 c2 w5 O6 sp6 bl1 => ?_)
  have st5 := st4.call sp6 (fun x e => ((rel2 x e).elim (fun e => .inr e) .inl))
  have rel3 : ∀ x,blk a2 x → blk p2_a x ∨ w0.heap.size ≤ x := fun x hx => (bl1 x hx).elim (rel2 x) (fun q => .inr (Nat.le_trans st4.sp.size q))
  refine vv rfl (aC (.slice a2 ((l1 ++ ([x1] : List ByteArray)).length) c2) rfl)<|aD ?_
  exact Jj3 (sp2.le.trans le3) st5 s1 rfl s15 s16 s17 (SlR.mono (sp2.le.trans le3) R1) O6 rel3 (SlR.mono (sp2.le.trans le3) R2) H
theorem SLl35_1_z : SLl35_1 0 := by
  unfold SLl35_1; intros; rename_i H; exact absurd H (by simp [l35_1])
theorem SLl35_1_s (k : Nat) (ih : ZS35 k) : SLl35_1 (k + 1) := by
 intro p0 bD p2_a a6 a8 bE p2_B c6 c8 j6 w0 w h0 h σ y4 l2 xs3 r st s1 s2 s47 s48 s49 R9 O13 rel7 hBp2 R10 hd3 H
 cases xs3 with
 | nil =>
  rw [l35_1] at H
  have hk3 := cV hd3
  refine aB e35_42<|aA e35_43<|vv rfl (aP .lss .i64 (j6 : Int) (p0.L.length : Int) (.bool (decide ((j6 : Int) < (p0.L.length : Int)))) 3 3 s49 s48 rfl)<|aD<|aB e35_44<|fa e35_45 hk3 rfl<|bM e35_47 rfl<|aB e35_54<|aA e35_55<|vv rfl (aE (.slice a8 l2.length c8) s2) ?_
  refine vv rfl (aC (.slice a8 l2.length c8) rfl)<|aD ?_
  cases H
  exact aJ e35_56 (cG Try.results35 rfl ⟨a8,c8,h,rfl,st,O13,rel7⟩)
 | cons x2 xs4 =>
  rw [l35_1] at H
  obtain ⟨hk4,hj2,hx2,hd4⟩ := cL hd3
  refine aB e35_42<|aA e35_43<|vv rfl (aP .lss .i64 (j6 : Int) (p0.L.length : Int) (.bool (decide ((j6 : Int) < (p0.L.length : Int)))) 3 3 s49 s48 rfl)<|aD<|aB e35_44<|tr e35_45 hk4 rfl<|aM e35_46<|aB e35_48<|aT e35_49<|aB e35_50 ?_
  refine aA e35_51 ?_
  obtain ⟨b4,o2,vs2,ea2,rp2,cl2⟩ := SlR.at R10 hx2
  obtain ⟨a9,c9,a10,c10,rfl,R11,R12⟩ := GNode.out rp2
  refine vv rfl (aX u29 cX s47 s49 ea2 (Int.natCast_nonneg _) (Int.ofNat_lt.2 hj2))<|vv rfl (bH [I x2.Op,I x2.N,.string x2.Name,.slice a9 x2.Index.length c9,.slice a10 x2.L.length c10] ag31 cX rfl rfl (cl2 _ (Has.le (Le.refl _) st.has)))<|cF (.agg #[I 0,I 0,.string ByteArray.empty,.slice none 0 0,.slice none 0 0]) zr31 rfl rfl (fun b5 w10 al4 => ?_)
  replace al4 : Al _ (.cells (List.toArray [I 0,I 0,.string ByteArray.empty,.slice none 0 0,.slice none 0 0]) 31 (0,0)) b5 w10 := al4
  have M1 := Mut.new st al4
  have lb1 := st.alB al4
  have sp8 := al4.st st.has
  have O14 := O13.call0 sp8
  have st11 := st.call0 sp8
  refine aV (o := 0) (n := 5) [I x2.Op,I x2.N,.string x2.Name,.slice a9 x2.Index.length c9,.slice a10 x2.L.length c10] [I x2.Op,I x2.N,.string x2.Name,.slice a9 x2.Index.length c9,.slice a10 x2.L.length c10] (.agg #[I x2.Op,I x2.N,.string x2.Name,.slice a9 x2.Index.length c9,.slice a10 x2.L.length c10]) cX rfl rfl rfl rfl M1 rfl rfl rfl rfl rfl (fun w11 wr1 M2 => ?_)
  have sp9 := wr1.st st11.has M1.none
  have O15 := O14.call sp9 (fun x hx e => (absurd (e ▸ hx) (O14.ne_mut M1 (by decide))))
  have st12 := st11.call sp9 (fun x e => (.inl (e ▸ lb1)))
  obtain ⟨h10,le8,g3,st13,kp3⟩ := M2.fz st12 lb1
  have O16 := O15.fr le8 kp3 (O15.ne_mut M2 (by decide))
  refine aD<|aA e35_52<|vv rfl (bH [I x2.Op,I x2.N,.string x2.Name,.slice a9 x2.Index.length c9,.slice a10 x2.L.length c10] ag31 cX rfl rfl (aY (st13.has _ _ g3) rfl))<|vv rfl (aE (.slice a6 y4.length c6) s1)<|vv rfl (aE (.slice a8 l2.length c8) s2) ?_
  obtain ⟨r3,hr3,H⟩ := aK H
  refine aU [.agg #[I x2.Op,I x2.N,.string x2.Name,.slice a9 x2.Index.length c9,.slice a10 x2.L.length c10],.slice a6 y4.length c6,.slice a8 l2.length c8] en35 rfl rfl rfl (ih.1 (p0 := x2) st13.has (SlR.mono le8 R11) (SlR.mono le8 R12) (SlR.mono le8 R9) (Nat.le_trans hBp2 st13.sp.size) O16 hr3) ?_
  rintro _ w12 ⟨a11,c11,h11,rfl,sp10,R13,rl1⟩
  have st14 := st13.call sp10 (fun x e => ((rel7 x e).elim (fun e => .inr e) .inl))
  have rel8 : ∀ x,blk a11 x → blk p2_a x ∨ w0.heap.size ≤ x := fun x hx => (rl1 x hx).elim (rel7 x) (fun q => .inr (Nat.le_trans st13.sp.size q))
  refine vv rfl (aC (.slice a11 r3.length c11) rfl)<|aD<|aW<|aA e35_53<|vv rfl (aP .add .i64 (j6 : Int) 1 (I ((j6 + 1 : Nat) : Int)) 3 3 s49 rfl (dL hj2 (SlR.mono (le8.trans sp10.le) R10).mx))<|vv rfl (aE (I ((j6 + 1 : Nat) : Int)) rfl)<|aD<|bF ?_
  exact ih.2.2 (j6 := (j6 + 1)) st14 s1 rfl s47 s48 rfl (SlR.mono (le8.trans sp10.le) R9) R13 rel8 hBp2 (SlR.mono (le8.trans sp10.le) R10) hd4 H
theorem ZS35_all : ∀ k,ZS35 k
  | 0 => ⟨S35_z,SLl35_0_z,SLl35_1_z⟩
  | k + 1 => ⟨S35_s k (ZS35_all k),SLl35_0_s k (ZS35_all k),SLl35_1_s k (ZS35_all k)⟩
theorem F35 (k : Nat) : S35 k := (ZS35_all k).1
theorem F18 (k : Nat) : S18 k := by
 intro p0 aG bD aH bE w0 h0 hh cN Rp0_L r H
 unfold m18 at H
 refine aO (fn := Try.f18) Try.func18 rfl (Nat.le_of_ble_eq_true rfl) ?_
 show Run X18 [.code c18_0] (fun t => List.getD [.agg #[I p0.Op,I p0.N,.string p0.Name,.slice aG p0.Index.length aH,.slice bD p0.L.length bE]] t undef) w0 (.fn (Q18 w0 h0 r))
 have st0 := St.init hh noM
 refine aB e18_0<|aA e18_1<|eF (.agg #[I p0.Op,I p0.N,.string p0.Name,.slice aG p0.Index.length aH,.slice bD p0.L.length bE]) rfl rfl rfl (fun b1 w1 al1 => ?_)
 replace al1 : Al _ (.cells (List.toArray [I p0.Op,I p0.N,.string p0.Name,.slice aG p0.Index.length aH,.slice bD p0.L.length bE]) 31 (0,0)) b1 w1 := al1
 obtain ⟨h1,le1,g1,sp1⟩ := al1.fz st0.has
 have st1 := st0.call0 sp1
 refine vv rfl (aC (.slice none 0 0) rfl)<|aD<|aB e18_2<|aA e18_3<|vv rfl (bH [I p0.Op,I p0.N,.string p0.Name,.slice aG p0.Index.length aH,.slice bD p0.L.length bE] ag31 cX rfl rfl (aY (st1.has _ _ g1) rfl)) ?_
 obtain ⟨r1,hr1,H⟩ := aK H
 refine aU [.agg #[I p0.Op,I p0.N,.string p0.Name,.slice aG p0.Index.length aH,.slice bD p0.L.length bE],.slice none 0 0,.slice none 0 0] en35 rfl rfl rfl (F35 k (p0 := p0) st1.has (SlR.mono le1 cN) (SlR.mono le1 Rp0_L) (SlR.none _) st1.sp.size (Own.nil _ _ _ _) hr1) ?_
 rintro _ w2 ⟨a1,c1,h2,rfl,sp2,R1,rl1⟩
 have st2 := st1.call sp2 (fun x e => (.inl ((Own.nil (α := ByteArray) 9 w0.heap.size h1 w1).lbs x e)))
 refine vv rfl (aC (.slice a1 r1.length c1) rfl)<|aD ?_
 obtain ⟨h3,le2,st3,R2,kp1⟩ := R1.frz st2 (Nat.le_refl _)
 cases H
 exact aJ e18_4 (cG Try.results18 rfl ⟨a1,c1,h3,rfl,st3,R2⟩)
theorem F58 : S58 := by
  intro p0 bA bC w0 h0 hh Rp0 r H
  obtain ⟨hs,H⟩ := cD H
  cases H
  refine aO (fn := Try.f58) Try.func58 rfl (Nat.le_of_ble_eq_true rfl) ?_
  show Run X58 [.code c58_0] (fun t => List.getD [.slice bA p0.length bC] t undef) w0 (.fn (Q58 w0 h0 p0))
  have st0 := St.init hh noM
  refine aB e58_0 ?_
  refine aA e58_1 ?_
  refine aZ rfl rfl (aC (.slice none 0 0) rfl) ?_
  refine aD ?_
  refine aB e58_2 ?_
  refine aB e58_3 ?_
  refine aA e58_4 ?_
  refine aZ rfl rfl (aE (.slice bA p0.length bC) rfl) ?_
  refine aZ rfl rfl (x_slNil u29 rfl rfl) ?_
  refine aD ?_
  cases bA with
  | none =>
    have hz := Rp0.nil rfl
    have hl : p0 = [] := List.length_eq_zero_iff.1 (by have := Rp0.lc; omega)
    subst hl
    refine cQ e58_5 rfl rfl ?_
    refine aB e58_6 ?_
    refine aA e58_7 ?_
    refine aZ rfl rfl (aC (.slice none 0 0) rfl) ?_
    refine aD ?_
    exact aJ e58_8 (cG Try.results58 rfl ⟨none,0,h0,rfl,st0,Own.nil _ _ _ _⟩)
  | some A =>
    refine dJ e58_5 rfl rfl ?_
    refine aM e58_9 ?_
    refine aB e58_10 ?_
    refine aA e58_11 ?_
    refine rr_buildSlice0 u29 cX rfl rfl (fun b w1 al => ?_)
    have M := Mut.new st0 al
    have st1 := St.call0 st0 (al.st st0.has)
    have O : Own 31 w0.heap.size _ _ _ _ ([] : List GNode) := Lits.own (n := 0) (Lits.nil (h := h0)) rfl rfl (by decide) M (st0.alB al)
    refine aZ rfl rfl (aE (.slice (some A) p0.length bC) rfl) ?_
    refine eG (α := GNode) (B := w0.heap.size) (l := ([] : List GNode)) (l2 := p0) u29 u29 ap31 rfl rfl rfl rfl st1.has st1.sp.size O Rp0 rfl rfl (by simpa using hs) (fun a c w2 O2 sp bl => ?_)
    refine aZ rfl rfl (aC (.slice a p0.length c) rfl) ?_
    have st2 := St.call st1 sp (fun x e => .inl (Own.lbs O x e))
    refine aD ?_
    exact aJ e58_12 (cG Try.results58 rfl ⟨a,c,h0,rfl,st2,O2⟩)
abbrev QB59 (w : World) (h : Sto) (a : Option Addr) (n c : Nat) : Value → World → Prop := fun v w' => ∃ (bx : Nat) (h' : Sto),v = .func (.func 85) #[] #[.pointer (some ⟨bx,0,none⟩)] ∧ St w noM h h' w' ∧ h' bx = some (.cells (List.toArray [.slice a n c]) 28 (0,0))
theorem B59 {h : Sto} {a : Option Addr} {c : Nat} {xs : List ByteArray} {w : World} (hh : Has h w) (_ : SlR h a c xs) : Calls Try.prog 59 (List.toArray [.slice a xs.length c]) w (Ret (QB59 w h a xs.length c)) := by
  refine aO (fn := Try.f59) Try.func59 rfl (Nat.le_of_ble_eq_true rfl) ?_
  show Run X59 [.code c59_0] (fun t => List.getD [.slice a xs.length c] t undef) w (.fn (QB59 w h a xs.length c))
  refine aB e59_0 ?_
  refine aA e59_1 ?_
  refine eF (.slice a xs.length c) rfl rfl rfl (fun b w1 al => ?_)
  obtain ⟨h1,le1,g1,sp1⟩ := al.fz hh
  refine aZ rfl rfl (aC .nilFunc rfl) ?_
  refine aD ?_
  refine aB e59_2 ?_
  refine aA e59_3 ?_
  refine aZ rfl rfl (eT (.func (.func 85) #[] #[.pointer (some ⟨b,0,none⟩)]) (mf rfl rfl)) ?_
  refine aZ rfl rfl (aC (.func (.func 85) #[] #[.pointer (some ⟨b,0,none⟩)]) rfl) ?_
  refine aD ?_
  exact aJ e59_4 (cG Try.results59 rfl ⟨b,h1,rfl,sp1,g1⟩)
theorem B85 {h : Sto} {l bx c : Nat} {a : Option Addr} {xs : List ByteArray} {r : Loop} {Y : Fx} {J : Nat → World → Prop} {τ : Nat → ByteArray → Env} {w0 : World} (hbx : h bx = some (.cells (List.toArray [.slice a xs.length c]) 28 (0,0))) (hs : SlR h a c xs)
    (hp : r.params.size = 2) (hst : r.state = .ready) (hpen : r.pending = none) (hY : Y.ro = some l) (hYP : Y.P = Try.prog) (hτ : ∀ (j : Nat) (x : ByteArray),Sim Y.fn.ntmps Y.dfs (τ j x) { tmps := (r.params.zip (List.toArray [I (j : Int),.string x])).foldl (fun t (p,v) => t.setIfInBounds p v) r.tmps,defers := [] })
    (hI : ∀ j w,J j w → Has h w ∧ w.heap[l]? = some (.loop r)) (hb : ∀ (j : Nat) (x : ByteArray) (w : World),xs[j]? = some x → J (j + 1) w → Run Y [.code r.assign,.beginRound,.code r.body] (τ j x) w (.round fun w' => w'.heap[l]? = some (.loop { r with state := .busy }) ∧ J j (setO w' l (.loop r))))
    (h0 : J xs.length w0) : Calls Try.prog 85 (List.toArray [.func (.yield l) #[] #[],.pointer (some ⟨bx,0,none⟩)]) w0 (Ret fun _ w' => J 0 w') := by
  have key : ∀ (j : Nat),j ≤ xs.length → ∀ (σ : Env) (w : World),J j w → σ 0 = .func (.yield l) #[] #[] → σ 1 = .pointer (some ⟨bx,0,none⟩) → σ 3 = I ((j : Int) - 1) → Run X85 [.code c85_4,.inLoop c85_4,.inBlock 0] σ w (.fn fun _ w' => J 0 w') := by
    intro j
    induction j with
    | zero =>
      intro _ σ w hJ s0 s1 s3
      refine aB e85_4 ?_
      refine aB e85_5 ?_
      refine aA e85_6 ?_
      refine aZ rfl rfl (aE (I (((0 : Nat) : Int) - 1)) s3) ?_
      refine aZ rfl rfl (aP .geq .i64 (((0 : Nat) : Int) - 1) 0 (.bool (decide ((0 : Int) ≤ (((0 : Nat) : Int) - 1)))) 3 3 rfl rfl rfl) ?_
      refine aD ?_
      refine dJ e85_7 (p := (decide ((0 : Int) ≤ (((0 : Nat) : Int) - 1)))) rfl (by decide) ?_
      refine bM e85_9 rfl ?_
      exact run_end (res0 Try.results85 hJ)
    | succ j ih =>
      intro hj σ w hJ s0 s1 s3
      have ej : (((j + 1 : Nat) : Int) - 1) = (j : Int) := by omega
      rw [ej] at s3
      obtain ⟨x,hx⟩ : ∃ x,xs[j]? = some x := ⟨_,List.getElem?_eq_getElem (by omega)⟩
      obtain ⟨hh,hl⟩ := hI _ _ hJ
      obtain ⟨b,o,vs,ea,rp,clx⟩ := SlR.at hs hx
      obtain rfl := rp
      refine aB e85_4 ?_
      refine aB e85_5 ?_
      refine aA e85_6 ?_
      refine aZ rfl rfl (aE (I (j : Int)) s3) ?_
      refine aZ rfl rfl (aP .geq .i64 (j : Int) 0 (.bool (decide ((0 : Int) ≤ (j : Int)))) 3 3 rfl rfl rfl) ?_
      refine aD ?_
      refine cQ e85_7 (p := (decide ((0 : Int) ≤ (j : Int)))) rfl (dT (by omega)) ?_
      refine aM e85_8 ?_
      refine aB e85_10 ?_
      refine aT e85_11 ?_
      refine aB e85_12 ?_
      refine aA e85_13 ?_
      refine aZ rfl rfl (aE (.func (.yield l) #[] #[]) s0) ?_
      refine aZ rfl rfl (aE (I (j : Int)) s3) ?_
      refine aZ rfl rfl (aL (.slice a xs.length c) sc28 s1 ((aQ (hh _ _ hbx)).trans rfl)) ?_
      refine aZ rfl rfl (aE (I (j : Int)) s3) ?_
      refine aZ rfl rfl (aX u28 sz9 rfl rfl ea (Int.natCast_nonneg _) (Int.ofNat_lt.2 hj)) ?_
      refine aZ rfl rfl (aL (.string x) sc9 rfl ((clx _ hh 0 (by decide)).trans rfl)) ?_
      refine rr_yield (vs := [I (j : Int),.string x]) Y (τ j x) rfl rfl rfl rfl hl (by rw [hp]; rfl) hY hYP (hτ j x) (hb j x w hx hJ) ?_
      rintro w2 ⟨hb1,hJ2⟩
      refine ⟨hb1,?_⟩
      rw [loop_ready hst hpen]
      refine aZ rfl rfl (eA true 4 rfl) ?_
      refine aD ?_
      refine dJ e85_14 (p := !true) rfl rfl ?_
      refine aM e85_16 ?_
      refine aW ?_
      refine aA e85_17 ?_
      refine aZ rfl rfl (aE (I (j : Int)) s3) ?_
      refine aZ rfl rfl (aP .sub .i64 (j : Int) 1 (I ((j : Int) - 1)) 3 3 rfl rfl (dec_ok (by have : xs.length ≤ 140737488355328 := hs.mx; omega))) ?_
      refine aZ rfl rfl (aC (I ((j : Int) - 1)) rfl) ?_
      refine aD ?_
      refine bF ?_
      exact ih (by omega) _ _ hJ2 s0 s1 rfl
  obtain ⟨hh,_⟩ := hI _ _ h0
  refine aO (fn := Try.f85) Try.func85 rfl (Nat.le_of_ble_eq_true rfl) ?_
  show Run X85 [.code c85_0] (fun t => List.getD [.func (.yield l) #[] #[],.pointer (some ⟨bx,0,none⟩)] t undef) w0 (.fn _)
  refine aB e85_0 ?_
  refine aA e85_1 ?_
  refine aZ rfl rfl (aL (.slice a xs.length c) sc28 rfl ((aQ (hh _ _ hbx)).trans rfl)) ?_
  refine aZ rfl rfl (bN u28 rfl) ?_
  refine aZ rfl rfl (aP .sub .i64 (xs.length : Int) 1 (I ((xs.length : Int) - 1)) 3 3 rfl rfl (dec_ok (by have : xs.length ≤ 140737488355328 := hs.mx; omega))) ?_
  refine aZ rfl rfl (aC (I ((xs.length : Int) - 1)) rfl) ?_
  refine aD ?_
  refine aT e85_2 ?_
  refine cB e85_3 ?_
  exact key _ (Nat.le_refl _) _ _ h0 rfl rfl rfl
abbrev ZS34 (k : Nat) : Prop := S34 k ∧ SLl34_0 k ∧ SLl34_1 k ∧ SLl34_2 k
theorem S34_z : S34 0 := by
  unfold S34; intros; rename_i H; exact absurd H (by simp [m34])
theorem S34_s (k : Nat) (ih : ZS34 k) : S34 (k + 1) := by
 intro p0 aG bD cY aH bE cZ p1 w0 h0 hh cN Rp0_L Rp1 r H
 rw [m34] at H
 refine aO (fn := Try.f34) Try.func34 rfl (Nat.le_of_ble_eq_true rfl) ?_
 show Run X34 [.code c34_0] (fun t => List.getD [.agg #[I p0.Op,I p0.N,.string p0.Name,.slice aG p0.Index.length aH,.slice bD p0.L.length bE],.slice cY p1.length cZ] t undef) w0 (.fn (Q34 w0 h0 r))
 have st0 := St.init hh noM
 refine aB e34_0<|aA e34_1<|eF (.agg #[I p0.Op,I p0.N,.string p0.Name,.slice aG p0.Index.length aH,.slice bD p0.L.length bE]) rfl rfl rfl (fun b1 w1 al1 => ?_)
 replace al1 : Al _ (.cells (List.toArray [I p0.Op,I p0.N,.string p0.Name,.slice aG p0.Index.length aH,.slice bD p0.L.length bE]) 31 (0,0)) b1 w1 := al1
 have M1 := Mut.new st0 al1
 have lb1 := st0.alB al1
 have sp1 := al1.st st0.has
 have st1 := st0.call0 sp1
 refine eF (.slice cY p1.length cZ) rfl rfl rfl (fun b2 w2 al2 => ?_)
 replace al2 : Al _ (.cells (List.toArray [.slice cY p1.length cZ]) 28 (0,0)) b2 w2 := al2
 obtain ⟨h1,le1,g1,sp2⟩ := al2.fz st1.has
 have M2 := M1.call0 sp2
 have st2 := st1.call0 sp2
 refine cF (.agg #[I 0,I 0,.string ByteArray.empty,.slice none 0 0,.slice none 0 0]) zr31 rfl rfl (fun b3 w3 al3 => ?_)
 replace al3 : Al _ (.cells (List.toArray [I 0,I 0,.string ByteArray.empty,.slice none 0 0,.slice none 0 0]) 31 (0,0)) b3 w3 := al3
 have ne1 := M2.ne_al al3
 have M3 := Mut.new st2 al3
 have lb2 := st2.alB al3
 have sp3 := al3.st st2.has
 have M4 := M2.call0 sp3
 have st3 := st2.call0 sp3
 refine aD<|aB e34_2<|aB e34_3<|aA e34_4<|vv rfl (aF (b := b1) (o := 0) fl31_0 rfl)<|vv rfl (aL (I p0.Op) sc3 rfl ((aQ M4.get).trans rfl))<|aD<|aT e34_5<|aB e34_6<|aB e34_7 ?_
 refine aA e34_8<|vv rfl (aP .eql .i64 p0.Op 3 (.bool (decide (p0.Op = 3))) 3 3 rfl rfl rfl)<|vv rfl (aC (.bool (decide (p0.Op = 3))) rfl)<|aD ?_
 rcases aN H with ⟨hc1,H⟩ | ⟨hc1,H⟩
 · refine tr e34_9 (dT hc1) rfl<|aM e34_10<|tr e34_16 (dT hc1) rfl<|aB e34_17<|aA e34_18<|vv rfl (aF (b := b1) (o := 0) fl31_4 rfl)<|vv rfl (aL (.slice bD p0.L.length bE) sc29 rfl ((aQ M4.get).trans rfl)) ?_
   obtain ⟨r1,hr1,H⟩ := aK H
   refine aU [.slice bD p0.L.length bE] en58 rfl rfl rfl (F58 st3.has (SlR.mono le1 Rp0_L) hr1) ?_
   rintro _ w4 ⟨a1,c1,h2,rfl,sp4,R1⟩
   have M5 := M4.call0 sp4
   have M6 := M3.call0 sp4
   have st4 := st3.call0 sp4
   have ne2 : ¬ blk a1 b1 := fun hx => absurd (Mut.lt M4) (by have := Own.lbs R1 _ hx; omega)
   have ne3 : ¬ blk a1 b3 := fun hx => absurd (Mut.lt M3) (by have := Own.lbs R1 _ hx; omega)
   have O1 := R1.low st3.sp.size
   refine vv rfl (aC (.slice a1 r1.length c1) rfl)<|aD<|aB e34_19<|aB e34_20<|aA e34_21<|vv rfl (aE (.slice a1 r1.length c1) rfl)<|vv rfl (bN u29 rfl)<|vv rfl (aE (I 0) rfl)<|aD<|aT e34_22 ?_
   refine cB e34_23 ?_
   exact ih.2.1 st4 rfl rfl rfl rfl rfl rfl (SlR.mono (le1.trans sp4.le) cN) (SlR.mono (le1.trans sp4.le) Rp0_L) M5 lb1 (SlR.mono (le1.trans sp4.le) Rp1) (sp4.le _ _ g1) M6 lb2 O1 ne2 ne3 ne1 H
 refine fa e34_9 (dF hc1) rfl<|aB e34_11<|aA e34_12<|vv rfl (aP .eql .i64 p0.Op 4 (.bool (decide (p0.Op = 4))) 3 3 rfl rfl rfl)<|vv rfl (aC (.bool (decide (p0.Op = 4))) rfl)<|aD ?_
 rcases aN H with ⟨hc3,H⟩ | ⟨hc3,H⟩
 · refine tr e34_13 (dT hc3) rfl<|aM e34_14<|tr e34_16 (dT hc3) rfl<|aB e34_17<|aA e34_18<|vv rfl (aF (b := b1) (o := 0) fl31_4 rfl)<|vv rfl (aL (.slice bD p0.L.length bE) sc29 rfl ((aQ M4.get).trans rfl)) ?_
   obtain ⟨r2,hr2,H⟩ := aK H
   refine aU [.slice bD p0.L.length bE] en58 rfl rfl rfl (F58 st3.has (SlR.mono le1 Rp0_L) hr2) ?_
   rintro _ w7 ⟨a3,c3,h4,rfl,sp7,R6⟩
   have M15 := M4.call0 sp7
   have M16 := M3.call0 sp7
   have st8 := st3.call0 sp7
   have ne7 : ¬ blk a3 b1 := fun hx => absurd (Mut.lt M4) (by have := Own.lbs R6 _ hx; omega)
   have ne8 : ¬ blk a3 b3 := fun hx => absurd (Mut.lt M3) (by have := Own.lbs R6 _ hx; omega)
   have O5 := R6.low st3.sp.size
   refine vv rfl (aC (.slice a3 r2.length c3) rfl)<|aD<|aB e34_19<|aB e34_20<|aA e34_21<|vv rfl (aE (.slice a3 r2.length c3) rfl)<|vv rfl (bN u29 rfl)<|vv rfl (aE (I 0) rfl)<|aD<|aT e34_22 ?_
   refine cB e34_23 ?_
   exact ih.2.2.1 st8 rfl rfl rfl rfl rfl rfl (SlR.mono (le1.trans sp7.le) cN) (SlR.mono (le1.trans sp7.le) Rp0_L) M15 lb1 (SlR.mono (le1.trans sp7.le) Rp1) (sp7.le _ _ g1) M16 lb2 O5 ne7 ne8 ne1 H
 refine fa e34_13 (dF hc3) rfl<|aA e34_15<|vv rfl (aP .eql .i64 p0.Op 6 (.bool (decide (p0.Op = 6))) 3 3 rfl rfl rfl)<|vv rfl (aC (.bool (decide (p0.Op = 6))) rfl)<|aD ?_
 rcases aN H with ⟨hc5,H⟩ | ⟨hc5,H⟩
 · refine tr e34_16 (dT hc5) rfl<|aB e34_17<|aA e34_18<|vv rfl (aF (b := b1) (o := 0) fl31_4 rfl)<|vv rfl (aL (.slice bD p0.L.length bE) sc29 rfl ((aQ M4.get).trans rfl)) ?_
   obtain ⟨r3,hr3,H⟩ := aK H
   refine aU [.slice bD p0.L.length bE] en58 rfl rfl rfl (F58 st3.has (SlR.mono le1 Rp0_L) hr3) ?_
   rintro _ w10 ⟨a5,c5,h6,rfl,sp10,R11⟩
   have M25 := M4.call0 sp10
   have M26 := M3.call0 sp10
   have st12 := st3.call0 sp10
   have ne12 : ¬ blk a5 b1 := fun hx => absurd (Mut.lt M4) (by have := Own.lbs R11 _ hx; omega)
   have ne13 : ¬ blk a5 b3 := fun hx => absurd (Mut.lt M3) (by have := Own.lbs R11 _ hx; omega)
   have O9 := R11.low st3.sp.size
   refine vv rfl (aC (.slice a5 r3.length c5) rfl)<|aD<|aB e34_19<|aB e34_20<|aA e34_21<|vv rfl (aE (.slice a5 r3.length c5) rfl)<|vv rfl (bN u29 rfl)<|vv rfl (aE (I 0) rfl)<|aD<|aT e34_22 ?_
   refine cB e34_23 ?_
   exact ih.2.2.2 st12 rfl rfl rfl rfl rfl rfl (SlR.mono (le1.trans sp10.le) cN) (SlR.mono (le1.trans sp10.le) Rp0_L) M25 lb1 (SlR.mono (le1.trans sp10.le) Rp1) (sp10.le _ _ g1) M26 lb2 O9 ne12 ne13 ne1 H
 refine fa e34_16 (dF hc5) rfl<|aM e34_39<|aW<|aB e34_40<|aB e34_41<|aA e34_42<|vv rfl (bH [I p0.Op,I p0.N,.string p0.Name,.slice aG p0.Index.length aH,.slice bD p0.L.length bE] ag31 cX rfl rfl (aY M4.get rfl)) ?_
 obtain ⟨r4,hr4,H⟩ := aK H
 refine aU [.agg #[I p0.Op,I p0.N,.string p0.Name,.slice aG p0.Index.length aH,.slice bD p0.L.length bE]] en18 rfl rfl rfl (F18 k (p0 := p0) st3.has (SlR.mono le1 cN) (SlR.mono le1 Rp0_L) hr4) ?_
 rintro _ w13 ⟨a7,c7,h8,rfl,sp13,R16⟩
 have M35 := M4.call0 sp13
 have M36 := M3.call0 sp13
 have st16 := st3.call0 sp13
 refine aU [.slice a7 r4.length c7] en59 rfl rfl rfl (B59 (xs := r4) st16.has R16) ?_
 rintro _ w14 ⟨b4,h9,rfl,sp14,g5⟩
 have M37 := M35.call0 sp14
 have M38 := M36.call0 sp14
 have st17 := st16.call0 sp14
 refine aD<|aT e34_43 ?_
 obtain ⟨s1,hf1,H⟩ := aK H
 refine run_range e34_44 rfl rfl rfl en85 (fun fn1 tm1 D1 l4 w15 w16 hsim1 al7 al8 => ?_)
 have M39 := Mut.new st17 al7
 have lb9 := st17.alB al7
 have sp15 := al7.st st17.has
 have M40 := M37.call0 sp15
 have M41 := M38.call0 sp15
 have st18 := st17.call0 sp15
 have M42 := Mut.new st18 al8
 have lb10 := st18.alB al8
 have sp16 := al8.st st18.has
 have M43 := M40.call0 sp16
 have M44 := M41.call0 sp16
 have M45 := M39.call0 sp16
 have st19 := st18.call0 sp16
 obtain ⟨J1,hJ1⟩ : ∃ J : Nat → World → Prop,J = fun j6 w17 => ∃ (s2 : Int × Int × ByteArray × (List ByteArray) × (List GNode)) (h10 : Sto) (a8 : OA) (c8 : Nat) (a9 : OA) (c9 : Nat),foldO (fun (s4 : Int × Int × ByteArray × (List ByteArray) × (List GNode)) (x1 : ByteArray) => (m28 k p1 x1).bind fun r5 => jn (fun (y1 : Int) (y2 : Int) (y3 : ByteArray) (y4 : (List ByteArray)) (y5 : (List GNode)) => some (y1,y2,y3,y4,y5)) fun j9 => if r5 = true then (j9 s4.1 s4.2.1 s4.2.2.1 s4.2.2.2.1 s4.2.2.2.2) else (j9 7 0 x1 ([] : (List ByteArray)) ([(⟨s4.1,s4.2.1,s4.2.2.1,s4.2.2.2.1,s4.2.2.2.2⟩ : GNode)] : List GNode))) s2 ((r4.take j6).reverse) = some s1 ∧ Le h9 h10 ∧ St w0 noM h0 h10 w17 ∧ SlR h10 a8 c8 s2.2.2.2.1 ∧ SlR h10 a9 c9 s2.2.2.2.2 ∧ Mut h10 w17 b1 (.cells (List.toArray [I s2.1,I s2.2.1,.string s2.2.2.1,.slice a8 s2.2.2.2.1.length c8,.slice a9 s2.2.2.2.2.length c9]) 31 (0,0)) ∧ Mut h10 w17 b3 (.cells (List.toArray [I 0,I 0,.string ByteArray.empty,.slice none 0 0,.slice none 0 0]) 31 (0,0)) ∧ Mut h10 w17 D1 (.deferred (some [])) ∧ Mut h10 w17 l4 (.loop { state := .ready,pending := none,fn := fn1,tmps := tm1,params := #[40,41],assign := c34_45,body := c34_46,defers := D1 }) := ⟨_,rfl⟩
 refine ⟨fun _ w_ => J1 0 w_,B85 (h := h9) (r := { state := .ready,pending := none,fn := fn1,tmps := tm1,params := #[40,41],assign := c34_45,body := c34_46,defers := D1 }) (Y := XR X34 l4) (J := J1) (xs := r4) g5 (SlR.mono sp14.le R16) rfl rfl rfl rfl rfl (fun j x => sim_round hsim1 (I (j : Int)) (.string x) rfl rfl) ?_ ?_ ?_,?_⟩
 · intro j7 w18 hj1
   rw [hJ1] at hj1
   obtain ⟨s3,h11,a10,c10,a11,c11,_,le6,st21,R19,R20,M50,M51,M52,M53⟩ := hj1
   exact ⟨Has.le le6 st21.has,M53.get⟩
 · intro j8 x1 w19 hx1 hj2
   rw [hJ1] at hj2
   obtain ⟨s4,h12,a12,c12,a13,c13,hf2,le7,st22,R21,R22,M54,M55,M56,M57⟩ := hj2
   clear H
   obtain ⟨s5,H,hf3⟩ := foldO_step hx1 hf2
   try dsimp only at H
   refine aA e34_45<|vv rfl (aC (.string x1) rfl)<|aD<|run_beginRound rfl M57.get rfl ?_
   have wr4 := setO_wr (o' := .loop { state := .busy,pending := none,fn := fn1,tmps := tm1,params := #[40,41],assign := c34_45,body := c34_46,defers := D1 }) M57.get
   have sp17 := wr4.st st22.has M57.none
   have M58 : Mut _ _ l4 _ := ⟨M57.none,wr4.new⟩
   have M59 := M54.call sp17 (fun e => ((Mut.ne_obj M54 M57 (by intro e; cases e)) e))
   have M60 := M55.call sp17 (fun e => ((Mut.ne_obj M55 M57 (by intro e; cases e)) e))
   have M61 := M56.call sp17 (fun e => ((Mut.ne_obj M56 M57 (by intro e; cases e)) e))
   have st23 := st22.call sp17 (fun x e => (.inl (e ▸ lb10)))
   refine aT e34_46<|aB e34_47<|aA e34_48<|vv rfl (aL (.slice cY p1.length cZ) sc28 rfl ((aQ (st23.has _ _ ((sp13.le.trans (sp14.le.trans le7)) _ _ g1))).trans rfl))<|vv rfl (aE (.string x1) rfl) ?_
   obtain ⟨r5,hr5,H⟩ := aK H
   refine aU [.slice cY p1.length cZ,.string x1] en28 rfl rfl rfl (F28 k st23.has (SlR.mono (le1.trans (sp13.le.trans (sp14.le.trans le7))) Rp1) hr5) ?_
   rintro _ w20 ⟨h13,rfl,sp18⟩
   have M62 := M59.call0 sp18
   have M63 := M60.call0 sp18
   have M64 := M61.call0 sp18
   have M65 := M58.call0 sp18
   have st24 := st23.call0 sp18
   refine vv rfl (eA r5 4 rfl)<|aD ?_
   obtain ⟨j9,hj9,H⟩ := dE H
   have Jj9 : ∀ {y1 y2 : Int} {y3 : ByteArray} {y4 : (List ByteArray)} {y5 : (List GNode)} {a14 a15 : OA} {c14 c15 : Nat} {σ1 : Env} {w23 : World} {h15 : Sto},Le h13 h15 → St w0 noM h0 h15 w23 → σ1 4 = .pointer (some ⟨b3,0,none⟩) → SlR h15 a14 c14 y4 → SlR h15 a15 c15 y5 → Mut h15 w23 b1 (.cells (List.toArray [I y1,I y2,.string y3,.slice a14 y4.length c14,.slice a15 y5.length c15]) 31 (0,0)) → Mut h15 w23 b3 (.cells (List.toArray [I 0,I 0,.string ByteArray.empty,.slice none 0 0,.slice none 0 0]) 31 (0,0)) → Mut h15 w23 D1 (.deferred (some [])) → Mut h15 w23 l4 (.loop { state := .busy,pending := none,fn := fn1,tmps := tm1,params := #[40,41],assign := c34_45,body := c34_46,defers := D1 }) → b1 ≠ b3 → j9 y1 y2 y3 y4 y5 = some s5 → Run (XR X34 l4) [.inBlock 4] σ1 w23 (.round fun w' => w'.heap[l4]? = some (.loop { state := .busy,pending := none,fn := fn1,tmps := tm1,params := #[40,41],assign := c34_45,body := c34_46,defers := D1 }) ∧ J1 j8 (setO w' l4 (.loop { state := .ready,pending := none,fn := fn1,tmps := tm1,params := #[40,41],assign := c34_45,body := c34_46,defers := D1 }))) := by
    intro y1 y2 y3 y4 y5 a14 a15 c14 c15 σ1 w23 h15 le9 st27 s4_j9 R24 R25 M74 M75 M76 M77 ne17 H
    rw [hj9] at H
    refine aW ?_
    refine run_round ⟨M77.get,?_⟩
    have wr6 := setO_wr (o' := .loop { state := .ready,pending := none,fn := fn1,tmps := tm1,params := #[40,41],assign := c34_45,body := c34_46,defers := D1 }) M77.get
    have sp21 := wr6.st st27.has M77.none
    have M78 : Mut _ _ l4 _ := ⟨M77.none,wr6.new⟩
    have M79 := M74.call sp21 (fun e => ((Mut.ne_obj M74 M77 (by intro e; cases e)) e))
    have M80 := M75.call sp21 (fun e => ((Mut.ne_obj M75 M77 (by intro e; cases e)) e))
    have M81 := M76.call sp21 (fun e => ((Mut.ne_obj M76 M77 (by intro e; cases e)) e))
    have st28 := st27.call sp21 (fun x e => (.inl (e ▸ lb10)))
    cases H
    rw [hJ1]
    exact ⟨_,h15,a14,c14,a15,c15,hf3,(le7.trans (sp18.le.trans le9)),st28,R24,R25,M79,M80,M81,M78⟩
   rcases aN H with ⟨hc7,H⟩ | ⟨hc7,H⟩
   · refine fa e34_49 (bL hc7) rfl<|aM e34_51 ?_
     exact Jj9 (Le.refl _) st24 rfl (SlR.mono sp18.le R21) (SlR.mono sp18.le R22) M62 M63 M64 M65 ne1 H
   refine tr e34_49 (bK (cA hc7)) rfl<|aA e34_50<|vv rfl (aE (.string x1) rfl)<|vv rfl (bH [I s4.1,I s4.2.1,.string s4.2.2.1,.slice a12 s4.2.2.2.1.length c12,.slice a13 s4.2.2.2.2.length c13] ag31 cX rfl rfl (aY M62.get rfl))<|cH [I 0,I 0,.string ByteArray.empty,.slice none 0 0,.slice none 0 0] [I s4.1,I s4.2.1,.string s4.2.2.1,.slice a12 s4.2.2.2.1.length c12,.slice a13 s4.2.2.2.2.length c13] [(0,.agg #[I s4.1,I s4.2.1,.string s4.2.2.1,.slice a12 s4.2.2.2.1.length c12,.slice a13 s4.2.2.2.2.length c13])] u29 cX zr31 rfl rfl rfl rfl (by kernel_rfl) rfl (by kernel_rfl) (fun b5 w21 al9 => ?_)
   have li1 : Lits h13 [[I s4.1,I s4.2.1,.string s4.2.2.1,.slice a12 s4.2.2.2.1.length c12,.slice a13 s4.2.2.2.2.length c13]] ([(⟨s4.1,s4.2.1,s4.2.2.1,s4.2.2.2.1,s4.2.2.2.2⟩ : GNode)] : List GNode) := (Lits.cons (GNode.into (h := h13) (x := (⟨s4.1,s4.2.1,s4.2.2.1,s4.2.2.2.1,s4.2.2.2.2⟩ : GNode)) (SlR.mono sp18.le R21) (SlR.mono sp18.le R22)) Lits.nil)
   obtain ⟨h14,le8,g6,sp19⟩ := al9.fz st24.has
   have M66 := M62.call0 sp19
   have M67 := M63.call0 sp19
   have M68 := M64.call0 sp19
   have M69 := M65.call0 sp19
   have st25 := st24.call0 sp19
   have R23 : SlR _ _ _ ([(⟨s4.1,s4.2.1,s4.2.2.1,s4.2.2.2.1,s4.2.2.2.2⟩ : GNode)] : List GNode) := Lits.sl (n := 1) (Lits.mono le8 li1) rfl rfl (by decide) g6
   refine vv rfl (dK (vs := [I 7,I 0,.string x1,.slice none 0 0,.slice (some ⟨b5,0,none⟩) 1 1]) [(0,I 7),(2,.string x1),(4,.slice (some ⟨b5,0,none⟩) 1 1)] bd31 rfl rfl)<|aV (o := 0) (n := 5) [I 7,I 0,.string x1,.slice none 0 0,.slice (some ⟨b5,0,none⟩) 1 1] [I 7,I 0,.string x1,.slice none 0 0,.slice (some ⟨b5,0,none⟩) 1 1] (.agg #[I 7,I 0,.string x1,.slice none 0 0,.slice (some ⟨b5,0,none⟩) 1 1]) cX rfl rfl rfl rfl M66 rfl rfl rfl rfl rfl (fun w22 wr5 M70 => ?_)
   have sp20 := wr5.st st25.has M66.none
   have M71 := M67.call sp20 (fun e => ((Ne.symm ne1) e))
   have M72 := M68.call sp20 (fun e => ((Mut.ne_obj M68 M66 (by intro e; cases e)) e))
   have M73 := M69.call sp20 (fun e => ((Mut.ne_obj M69 M66 (by intro e; cases e)) e))
   have st26 := st25.call sp20 (fun x e => (.inl (e ▸ lb1)))
   refine aD ?_
   exact Jj9 le8 st26 rfl (SlR.none _) R23 M70 M71 M72 M73 ne1 H
 · rw [hJ1]
   exact ⟨(p0.Op,p0.N,p0.Name,p0.Index,p0.L),h9,aG,aH,bD,bE,by rw [List.take_length]; exact hf1,(Le.refl _),st19,(SlR.mono (le1.trans (sp13.le.trans sp14.le)) cN),(SlR.mono (le1.trans (sp13.le.trans sp14.le)) Rp0_L),M43,M44,M45,M42⟩
 rintro _ w24 hj3
 try dsimp only at hj3
 rw [hJ1] at hj3
 obtain ⟨s6,h16,a16,c16,a17,c17,hf4,le10,st29,R26,R27,M82,M83,M84,M85⟩ := hj3
 have es1 : s1 = s6 := (Option.some.inj hf4).symm
 subst es1
 refine ⟨_,M85.get,rfl,rfl,?_⟩
 have wr7 := setO_wr (o' := .loop { state := .exhausted,pending := none,fn := fn1,tmps := tm1,params := #[40,41],assign := c34_45,body := c34_46,defers := D1 }) M85.get
 have sp22 := wr7.st st29.has M85.none
 have M86 : Mut _ _ l4 _ := ⟨M85.none,wr7.new⟩
 have M87 := M82.call sp22 (fun e => ((Mut.ne_obj M82 M85 (by intro e; cases e)) e))
 have M88 := M83.call sp22 (fun e => ((Mut.ne_obj M83 M85 (by intro e; cases e)) e))
 have M89 := M84.call sp22 (fun e => ((Mut.ne_obj M84 M85 (by intro e; cases e)) e))
 have st30 := st29.call sp22 (fun x e => (.inl (e ▸ lb10)))
 refine aW<|aB e34_52<|aA e34_53<|vv rfl (bH [I s1.1,I s1.2.1,.string s1.2.2.1,.slice a16 s1.2.2.2.1.length c16,.slice a17 s1.2.2.2.2.length c17] ag31 cX rfl rfl (aY M87.get rfl))<|aV (o := 0) (n := 5) [I s1.1,I s1.2.1,.string s1.2.2.1,.slice a16 s1.2.2.2.1.length c16,.slice a17 s1.2.2.2.2.length c17] [I s1.1,I s1.2.1,.string s1.2.2.1,.slice a16 s1.2.2.2.1.length c16,.slice a17 s1.2.2.2.2.length c17] (.agg #[I s1.1,I s1.2.1,.string s1.2.2.1,.slice a16 s1.2.2.2.1.length c16,.slice a17 s1.2.2.2.2.length c17]) cX rfl rfl rfl rfl M88 rfl rfl rfl rfl rfl (fun w25 wr8 M90 => ?_)
 have sp23 := wr8.st st30.has M88.none
 have M91 := M87.call sp23 (fun e => (ne1 e))
 have M92 := M89.call sp23 (fun e => ((Mut.ne_obj M89 M88 (by intro e; cases e)) e))
 have M93 := M86.call sp23 (fun e => ((Mut.ne_obj M86 M88 (by intro e; cases e)) e))
 have st31 := st30.call sp23 (fun x e => (.inl (e ▸ lb2)))
 refine aD ?_
 have wr9 := setO_wr (o' := .deferred none) M92.get
 have sp24 := wr9.st st31.has M92.none
 have M94 := M91.call sp24 (fun e => ((Mut.ne_obj M91 M92 (by intro e; cases e)) e))
 have M95 := M90.call sp24 (fun e => ((Mut.ne_obj M90 M92 (by intro e; cases e)) e))
 have M96 := M93.call sp24 (fun e => ((Mut.ne_obj M93 M92 (by intro e; cases e)) e))
 have st32 := st31.call sp24 (fun x e => (.inl (e ▸ lb9)))
 cases H
 exact run_retD e34_54 M92.get (cG Try.results34 (eI [I s1.1,I s1.2.1,.string s1.2.2.1,.slice a16 s1.2.2.2.1.length c16,.slice a17 s1.2.2.2.2.length c17] ag31 cX rfl rfl (aY M95.get rfl)) ⟨a16,c16,a17,c17,h16,rfl,st32,R26,R27⟩)
theorem SLl34_0_z : SLl34_0 0 := by
  unfold SLl34_0; intros; rename_i H; exact absurd H (by simp [l34_0])
theorem SLl34_0_s (k : Nat) (ih : ZS34 k) : SLl34_0 (k + 1) := by
 intro p0 aG bD cY a2 aH bE cZ b1 b2 b3 c2 p1 w0 w h0 h r1 l1 σ i1 r st s2 s3 s4 s5 s19 s20 R2 R3 M7 lb3 R4 g2 M8 lb4 O2 ne4 ne5 ne6 H
 rw [l34_0] at H
 refine aB e34_24<|aA e34_25<|vv rfl (aP .lss .i64 i1 (r1.length : Int) (.bool (decide (i1 < (r1.length : Int)))) 3 3 s20 s19 rfl)<|aD<|aB e34_26 ?_
 rcases aN H with ⟨hc2,H⟩ | ⟨hc2,H⟩
 · refine tr e34_27 (dT hc2) rfl<|aM e34_28<|aB e34_30<|aT e34_31<|aB e34_32<|aA e34_33<|vv rfl (aE (I i1) s20)<|vv rfl (aC (I i1) rfl)<|aD ?_
   refine dW [[(0,false),(1,false),(2,false),(3,false),(4,false),(5,false),(6,false),(7,true),(8,false),(9,true)]] [7,9] [0,1,2,3,4,5,6,7,8,9] [0,1,2,3,4,5,6,7,8,9] (fun w_ => Has h w_ ∧ (∀ x,blk a2 x → w_.heap[x]? = w.heap[x]?) ∧ True) e34_34 k34_34 m34_34 (fun w6 al4 => ?_)
   have sp6 := al4.st st.has
   have M13 := M7.call0 sp6
   have M14 := M8.call0 sp6
   have O4 := O2.call0 sp6
   have st7 := st.call0 sp6
   refine ⟨⟨Has.le (Le.refl _) st7.has,(fun x hx => (Al0.st al4 st.has).sp.keep x (Own.lts O2 x hx) (fun e => e)),trivial⟩,?_,trivial⟩
   refine bI rfl rfl (fun w_ ok_ => aE (.slice a2 l1.length c2) s5)<|bI rfl rfl (fun w_ ok_ => aE (I i1) rfl)<|bI rfl rfl (fun w_ ok_ => aE (.slice a2 l1.length c2) s5)<|bI rfl rfl (fun w_ ok_ => aE (I i1) rfl) ?_
   obtain ⟨eM,hxd1_4_2,H⟩ := aK H
   have hid1_4_3 := dB hxd1_4_2
   obtain ⟨bd1_4_4,habd1_4_5⟩ := Own.adr O4 hid1_4_3.2.2
   refine bI rfl rfl (fun w_ ok_ => aX u29 cX rfl rfl habd1_4_5 hid1_4_3.1 hid1_4_3.2.1) ?_
   obtain ⟨vsd1_5_1,rpd1_5_2,hld1_5_3,cld1_5_4⟩ := Own.cell O2 habd1_4_5 hid1_4_3.2.2
   obtain ⟨ad1_5_5,cd1_5_6,ad1_5_8,cd1_5_9,rfl,Rd1_5_7,Rd1_5_10⟩ := GNode.out rpd1_5_2
   refine bI rfl rfl (fun w_ ok_ => bH [I eM.Op,I eM.N,.string eM.Name,.slice ad1_5_5 eM.Index.length cd1_5_6,.slice ad1_5_8 eM.L.length cd1_5_9] ag31 cX rfl rfl (fun i hi => (cell_keep (ok_.2.1 _ (blk_of habd1_4_5))).trans (cld1_5_4 i hi)))<|bI rfl rfl (fun w_ ok_ => aL (.slice cY p1.length cZ) sc28 s3 ((aQ (ok_.1 _ _ g2)).trans rfl)) ?_
   obtain ⟨fK,hrd1_7_2,H⟩ := aK H
   refine dr_c rfl (fJ [.agg #[I eM.Op,I eM.N,.string eM.Name,.slice ad1_5_5 eM.Index.length cd1_5_6,.slice ad1_5_8 eM.L.length cd1_5_9],.slice cY p1.length cZ] en34 rfl rfl (ih.1 (p0 := eM) st7.has Rd1_5_7 Rd1_5_10 R4 hrd1_7_2) ?_)
   rintro _ wd1_7_3 ⟨ad1_7_6,cd1_7_7,ad1_7_9,cd1_7_10,hd1_7_4,rfl,spd1_7_5,Rd1_7_8,Rd1_7_11⟩
   have Md1_7_12 := M13.call0 spd1_7_5
   have Md1_7_13 := M14.call0 spd1_7_5
   have Od1_7_14 := O4.call0 spd1_7_5
   have kod1_7_15 := fun x (hx : blk a2 x) => (spd1_7_5.sp.keep x (Own.lts O4 x hx) (fun e => e)).trans ((fun x hx => (Al0.st al4 st.has).sp.keep x (Own.lts O2 x hx) (fun e => e)) x hx)
   have std1_7_16 := st7.call0 spd1_7_5
   refine ⟨.inr ⟨Has.le spd1_7_5.le std1_7_16.has,kod1_7_15,trivial⟩,?_⟩
   obtain ⟨eC,hxd1_8_2,H⟩ := aK H
   have hid1_8_3 := dB hxd1_8_2
   obtain ⟨bd1_8_4,habd1_8_5⟩ := Own.adr Od1_7_14 hid1_8_3.2.2
   refine bI rfl rfl (fun w_ ok_ => aX u29 cX rfl rfl habd1_8_5 hid1_8_3.1 hid1_8_3.2.1) ?_
   obtain ⟨vsd1_9_1,rpd1_9_2,hld1_9_3,cld1_9_4⟩ := Own.cell Od1_7_14 habd1_8_5 hid1_8_3.2.2
   obtain ⟨ad1_9_9,cd1_9_10,ad1_9_12,cd1_9_13,rfl,Rd1_9_11,Rd1_9_14⟩ := GNode.out rpd1_9_2
   refine dr_c rfl (od_storeOwn (off := 0) (n := 5) (us := [I fK.Op,I fK.N,.string fK.Name,.slice ad1_7_6 fK.Index.length cd1_7_7,.slice ad1_7_9 fK.L.length cd1_7_10]) (vs := [I eC.Op,I eC.N,.string eC.Name,.slice ad1_9_9 eC.Index.length cd1_9_10,.slice ad1_9_12 eC.L.length cd1_9_13]) (y := fK) (.agg #[I fK.Op,I fK.N,.string fK.Name,.slice ad1_7_6 fK.Index.length cd1_7_7,.slice ad1_7_9 fK.L.length cd1_7_10]) cX rfl rfl rfl Od1_7_14 habd1_8_5 hid1_8_3.2.2 rfl cld1_9_4 rfl rfl rfl (by decide) std1_7_16.has (GNode.into (h := hd1_7_4) (x := fK) Rd1_7_8 Rd1_7_11) (fun wd1_9_5 Od1_9_6 spd1_9_7 => ?_))
   have Md1_9_15 := Md1_7_12.call spd1_9_7 (fun e => (ne4 e))
   have Md1_9_16 := Md1_7_13.call spd1_9_7 (fun e => (ne5 e))
   have std1_9_17 := std1_7_16.call spd1_9_7 (fun x e => (.inl (Od1_7_14.lbs x e)))
   have hlend1_9_8 := set_len l1 ((i1 : Int).toNat) fK
   refine ⟨.inl rfl,?_⟩
   refine dZ<|aW<|aA e34_35<|vv rfl (aP .add .i64 i1 1 (I (wr (i1 + 1))) 3 3 s20 rfl rfl)<|vv rfl (aE (I (wr (i1 + 1))) rfl)<|aD<|bF ?_
   exact ih.2.1 std1_9_17 s2 s3 s4 (Eq.trans s5 (sl_len hlend1_9_8)) s19 rfl (SlR.mono spd1_7_5.le R2) (SlR.mono spd1_7_5.le R3) Md1_9_15 lb3 (SlR.mono spd1_7_5.le R4) (spd1_7_5.le _ _ g2) Md1_9_16 lb4 Od1_9_6 ne4 ne5 ne6 H
 refine fa e34_27 (dF hc2) rfl<|bM e34_29 rfl<|aB e34_36<|aA e34_37<|vv rfl (aF (b := b1) (o := 0) fl31_0 s2)<|vv rfl (aL (I p0.Op) sc3 rfl ((aQ M7.get).trans rfl))<|vv rfl (aE (.slice a2 l1.length c2) s5)<|vv rfl (dK (vs := [I p0.Op,I 0,.string ByteArray.empty,.slice none 0 0,.slice a2 l1.length c2]) [(0,I p0.Op),(4,.slice a2 l1.length c2)] bd31 rfl rfl)<|aV (o := 0) (n := 5) [I p0.Op,I 0,.string ByteArray.empty,.slice none 0 0,.slice a2 l1.length c2] [I p0.Op,I 0,.string ByteArray.empty,.slice none 0 0,.slice a2 l1.length c2] (.agg #[I p0.Op,I 0,.string ByteArray.empty,.slice none 0 0,.slice a2 l1.length c2]) cX rfl rfl s4 rfl M8 rfl rfl rfl rfl rfl (fun w5 wr1 M9 => ?_)
 have sp5 := wr1.st st.has M8.none
 have M10 := M7.call sp5 (fun e => (ne6 e))
 have O3 := O2.call sp5 (fun x hx e => (absurd (e ▸ hx) ne5))
 have st5 := st.call sp5 (fun x e => (.inl (e ▸ lb4)))
 refine aD ?_
 obtain ⟨h3,le2,st6,R5,kp1⟩ := O3.frz st5 (Nat.le_refl _)
 have M11 := M10.frB kp1 ne4
 have M12 := M9.frB kp1 ne5
 cases H
 exact aJ e34_38 (cG Try.results34 (eI [I p0.Op,I 0,.string ByteArray.empty,.slice none 0 0,.slice a2 l1.length c2] ag31 cX s4 rfl (aY M12.get rfl)) ⟨none,0,a2,c2,h3,rfl,st6,(SlR.none _),R5⟩)
theorem SLl34_1_z : SLl34_1 0 := by
  unfold SLl34_1; intros; rename_i H; exact absurd H (by simp [l34_1])
theorem SLl34_1_s (k : Nat) (ih : ZS34 k) : SLl34_1 (k + 1) := by
 intro p0 aG bD cY a4 aH bE cZ b1 b2 b3 c4 p1 w0 w h0 h σ r2 l2 i2 r st s2 s3 s4 s5 s19 s20 R7 R8 M17 lb5 R9 g3 M18 lb6 O6 ne9 ne10 ne11 H
 rw [l34_1] at H
 refine aB e34_24<|aA e34_25<|vv rfl (aP .lss .i64 i2 (r2.length : Int) (.bool (decide (i2 < (r2.length : Int)))) 3 3 s20 s19 rfl)<|aD<|aB e34_26 ?_
 rcases aN H with ⟨hc4,H⟩ | ⟨hc4,H⟩
 · refine tr e34_27 (dT hc4) rfl<|aM e34_28<|aB e34_30<|aT e34_31<|aB e34_32<|aA e34_33<|vv rfl (aE (I i2) s20)<|vv rfl (aC (I i2) rfl)<|aD ?_
   refine dW [[(0,false),(1,false),(2,false),(3,false),(4,false),(5,false),(6,false),(7,true),(8,false),(9,true)]] [7,9] [0,1,2,3,4,5,6,7,8,9] [0,1,2,3,4,5,6,7,8,9] (fun w_ => Has h w_ ∧ (∀ x,blk a4 x → w_.heap[x]? = w.heap[x]?) ∧ True) e34_34 k34_34 m34_34 (fun w9 al5 => ?_)
   have sp9 := al5.st st.has
   have M23 := M17.call0 sp9
   have M24 := M18.call0 sp9
   have O8 := O6.call0 sp9
   have st11 := st.call0 sp9
   refine ⟨⟨Has.le (Le.refl _) st11.has,(fun x hx => (Al0.st al5 st.has).sp.keep x (Own.lts O6 x hx) (fun e => e)),trivial⟩,?_,trivial⟩
   refine bI rfl rfl (fun w_ ok_ => aE (.slice a4 l2.length c4) s5)<|bI rfl rfl (fun w_ ok_ => aE (I i2) rfl)<|bI rfl rfl (fun w_ ok_ => aE (.slice a4 l2.length c4) s5)<|bI rfl rfl (fun w_ ok_ => aE (I i2) rfl) ?_
   obtain ⟨xd2_4_1,hxd2_4_2,H⟩ := aK H
   have hid2_4_3 := dB hxd2_4_2
   obtain ⟨bd2_4_4,habd2_4_5⟩ := Own.adr O8 hid2_4_3.2.2
   refine bI rfl rfl (fun w_ ok_ => aX u29 cX rfl rfl habd2_4_5 hid2_4_3.1 hid2_4_3.2.1) ?_
   obtain ⟨vsd2_5_1,rpd2_5_2,hld2_5_3,cld2_5_4⟩ := Own.cell O6 habd2_4_5 hid2_4_3.2.2
   obtain ⟨ad2_5_5,cd2_5_6,ad2_5_8,cd2_5_9,rfl,Rd2_5_7,Rd2_5_10⟩ := GNode.out rpd2_5_2
   refine bI rfl rfl (fun w_ ok_ => bH [I xd2_4_1.Op,I xd2_4_1.N,.string xd2_4_1.Name,.slice ad2_5_5 xd2_4_1.Index.length cd2_5_6,.slice ad2_5_8 xd2_4_1.L.length cd2_5_9] ag31 cX rfl rfl (fun i hi => (cell_keep (ok_.2.1 _ (blk_of habd2_4_5))).trans (cld2_5_4 i hi)))<|bI rfl rfl (fun w_ ok_ => aL (.slice cY p1.length cZ) sc28 s3 ((aQ (ok_.1 _ _ g3)).trans rfl)) ?_
   obtain ⟨fL,hrd2_7_2,H⟩ := aK H
   refine dr_c rfl (fJ [.agg #[I xd2_4_1.Op,I xd2_4_1.N,.string xd2_4_1.Name,.slice ad2_5_5 xd2_4_1.Index.length cd2_5_6,.slice ad2_5_8 xd2_4_1.L.length cd2_5_9],.slice cY p1.length cZ] en34 rfl rfl (ih.1 (p0 := xd2_4_1) st11.has Rd2_5_7 Rd2_5_10 R9 hrd2_7_2) ?_)
   rintro _ wd2_7_3 ⟨ad2_7_6,cd2_7_7,ad2_7_9,cd2_7_10,hd2_7_4,rfl,spd2_7_5,Rd2_7_8,Rd2_7_11⟩
   have Md2_7_12 := M23.call0 spd2_7_5
   have Md2_7_13 := M24.call0 spd2_7_5
   have Od2_7_14 := O8.call0 spd2_7_5
   have kod2_7_15 := fun x (hx : blk a4 x) => (spd2_7_5.sp.keep x (Own.lts O8 x hx) (fun e => e)).trans ((fun x hx => (Al0.st al5 st.has).sp.keep x (Own.lts O6 x hx) (fun e => e)) x hx)
   have std2_7_16 := st11.call0 spd2_7_5
   refine ⟨.inr ⟨Has.le spd2_7_5.le std2_7_16.has,kod2_7_15,trivial⟩,?_⟩
   obtain ⟨xd2_8_1,hxd2_8_2,H⟩ := aK H
   have hid2_8_3 := dB hxd2_8_2
   obtain ⟨bd2_8_4,habd2_8_5⟩ := Own.adr Od2_7_14 hid2_8_3.2.2
   refine bI rfl rfl (fun w_ ok_ => aX u29 cX rfl rfl habd2_8_5 hid2_8_3.1 hid2_8_3.2.1) ?_
   obtain ⟨vsd2_9_1,rpd2_9_2,hld2_9_3,cld2_9_4⟩ := Own.cell Od2_7_14 habd2_8_5 hid2_8_3.2.2
   obtain ⟨ad2_9_9,cd2_9_10,ad2_9_12,cd2_9_13,rfl,Rd2_9_11,Rd2_9_14⟩ := GNode.out rpd2_9_2
   refine dr_c rfl (od_storeOwn (off := 0) (n := 5) (us := [I fL.Op,I fL.N,.string fL.Name,.slice ad2_7_6 fL.Index.length cd2_7_7,.slice ad2_7_9 fL.L.length cd2_7_10]) (vs := [I xd2_8_1.Op,I xd2_8_1.N,.string xd2_8_1.Name,.slice ad2_9_9 xd2_8_1.Index.length cd2_9_10,.slice ad2_9_12 xd2_8_1.L.length cd2_9_13]) (y := fL) (.agg #[I fL.Op,I fL.N,.string fL.Name,.slice ad2_7_6 fL.Index.length cd2_7_7,.slice ad2_7_9 fL.L.length cd2_7_10]) cX rfl rfl rfl Od2_7_14 habd2_8_5 hid2_8_3.2.2 rfl cld2_9_4 rfl rfl rfl (by decide) std2_7_16.has (GNode.into (h := hd2_7_4) (x := fL) Rd2_7_8 Rd2_7_11) (fun wd2_9_5 Od2_9_6 spd2_9_7 => ?_))
   have Md2_9_15 := Md2_7_12.call spd2_9_7 (fun e => (ne9 e))
   have Md2_9_16 := Md2_7_13.call spd2_9_7 (fun e => (ne10 e))
   have std2_9_17 := std2_7_16.call spd2_9_7 (fun x e => (.inl (Od2_7_14.lbs x e)))
   have hlend2_9_8 := set_len l2 ((i2 : Int).toNat) fL
   refine ⟨.inl rfl,?_⟩
   refine dZ<|aW<|aA e34_35<|vv rfl (aP .add .i64 i2 1 (I (wr (i2 + 1))) 3 3 s20 rfl rfl)<|vv rfl (aE (I (wr (i2 + 1))) rfl)<|aD<|bF ?_
   exact ih.2.2.1 std2_9_17 s2 s3 s4 (Eq.trans s5 (sl_len hlend2_9_8)) s19 rfl (SlR.mono spd2_7_5.le R7) (SlR.mono spd2_7_5.le R8) Md2_9_15 lb5 (SlR.mono spd2_7_5.le R9) (spd2_7_5.le _ _ g3) Md2_9_16 lb6 Od2_9_6 ne9 ne10 ne11 H
 refine fa e34_27 (dF hc4) rfl<|bM e34_29 rfl<|aB e34_36<|aA e34_37<|vv rfl (aF (b := b1) (o := 0) fl31_0 s2)<|vv rfl (aL (I p0.Op) sc3 rfl ((aQ M17.get).trans rfl))<|vv rfl (aE (.slice a4 l2.length c4) s5)<|vv rfl (dK (vs := [I p0.Op,I 0,.string ByteArray.empty,.slice none 0 0,.slice a4 l2.length c4]) [(0,I p0.Op),(4,.slice a4 l2.length c4)] bd31 rfl rfl)<|aV (o := 0) (n := 5) [I p0.Op,I 0,.string ByteArray.empty,.slice none 0 0,.slice a4 l2.length c4] [I p0.Op,I 0,.string ByteArray.empty,.slice none 0 0,.slice a4 l2.length c4] (.agg #[I p0.Op,I 0,.string ByteArray.empty,.slice none 0 0,.slice a4 l2.length c4]) cX rfl rfl s4 rfl M18 rfl rfl rfl rfl rfl (fun w8 wr2 M19 => ?_)
 have sp8 := wr2.st st.has M18.none
 have M20 := M17.call sp8 (fun e => (ne11 e))
 have O7 := O6.call sp8 (fun x hx e => (absurd (e ▸ hx) ne10))
 have st9 := st.call sp8 (fun x e => (.inl (e ▸ lb6)))
 refine aD ?_
 obtain ⟨h5,le3,st10,R10,kp2⟩ := O7.frz st9 (Nat.le_refl _)
 have M21 := M20.frB kp2 ne9
 have M22 := M19.frB kp2 ne10
 cases H
 exact aJ e34_38 (cG Try.results34 (eI [I p0.Op,I 0,.string ByteArray.empty,.slice none 0 0,.slice a4 l2.length c4] ag31 cX s4 rfl (aY M22.get rfl)) ⟨none,0,a4,c4,h5,rfl,st10,(SlR.none _),R10⟩)
theorem SLl34_2_z : SLl34_2 0 := by
  unfold SLl34_2; intros; rename_i H; exact absurd H (by simp [l34_2])
theorem SLl34_2_s (k : Nat) (ih : ZS34 k) : SLl34_2 (k + 1) := by
 intro p0 aG bD cY a6 aH bE cZ b1 b2 b3 c6 p1 w0 w h0 h σ r3 l3 i3 r st s2 s3 s4 s5 s19 s20 R12 R13 M27 lb7 R14 g4 M28 lb8 O10 ne14 ne15 ne16 H
 rw [l34_2] at H
 refine aB e34_24<|aA e34_25<|vv rfl (aP .lss .i64 i3 (r3.length : Int) (.bool (decide (i3 < (r3.length : Int)))) 3 3 s20 s19 rfl)<|aD<|aB e34_26 ?_
 rcases aN H with ⟨hc6,H⟩ | ⟨hc6,H⟩
 · refine tr e34_27 (dT hc6) rfl<|aM e34_28<|aB e34_30<|aT e34_31<|aB e34_32<|aA e34_33<|vv rfl (aE (I i3) s20)<|vv rfl (aC (I i3) rfl)<|aD ?_
   refine dW [[(0,false),(1,false),(2,false),(3,false),(4,false),(5,false),(6,false),(7,true),(8,false),(9,true)]] [7,9] [0,1,2,3,4,5,6,7,8,9] [0,1,2,3,4,5,6,7,8,9] (fun w_ => Has h w_ ∧ (∀ x,blk a6 x → w_.heap[x]? = w.heap[x]?) ∧ True) e34_34 k34_34 m34_34 (fun w12 al6 => ?_)
   have sp12 := al6.st st.has
   have M33 := M27.call0 sp12
   have M34 := M28.call0 sp12
   have O12 := O10.call0 sp12
   have st15 := st.call0 sp12
   refine ⟨⟨Has.le (Le.refl _) st15.has,(fun x hx => (Al0.st al6 st.has).sp.keep x (Own.lts O10 x hx) (fun e => e)),trivial⟩,?_,trivial⟩
   refine bI rfl rfl (fun w_ ok_ => aE (.slice a6 l3.length c6) s5)<|bI rfl rfl (fun w_ ok_ => aE (I i3) rfl)<|bI rfl rfl (fun w_ ok_ => aE (.slice a6 l3.length c6) s5)<|bI rfl rfl (fun w_ ok_ => aE (I i3) rfl) ?_
   obtain ⟨xd3_4_1,hxd3_4_2,H⟩ := aK H
   have hid3_4_3 := dB hxd3_4_2
   obtain ⟨bd3_4_4,habd3_4_5⟩ := Own.adr O12 hid3_4_3.2.2
   refine bI rfl rfl (fun w_ ok_ => aX u29 cX rfl rfl habd3_4_5 hid3_4_3.1 hid3_4_3.2.1) ?_
   obtain ⟨vsd3_5_1,rpd3_5_2,hld3_5_3,cld3_5_4⟩ := Own.cell O10 habd3_4_5 hid3_4_3.2.2
   obtain ⟨ad3_5_5,cd3_5_6,ad3_5_8,cd3_5_9,rfl,Rd3_5_7,Rd3_5_10⟩ := GNode.out rpd3_5_2
   refine bI rfl rfl (fun w_ ok_ => bH [I xd3_4_1.Op,I xd3_4_1.N,.string xd3_4_1.Name,.slice ad3_5_5 xd3_4_1.Index.length cd3_5_6,.slice ad3_5_8 xd3_4_1.L.length cd3_5_9] ag31 cX rfl rfl (fun i hi => (cell_keep (ok_.2.1 _ (blk_of habd3_4_5))).trans (cld3_5_4 i hi)))<|bI rfl rfl (fun w_ ok_ => aL (.slice cY p1.length cZ) sc28 s3 ((aQ (ok_.1 _ _ g4)).trans rfl)) ?_
   obtain ⟨fM,hrd3_7_2,H⟩ := aK H
   refine dr_c rfl (fJ [.agg #[I xd3_4_1.Op,I xd3_4_1.N,.string xd3_4_1.Name,.slice ad3_5_5 xd3_4_1.Index.length cd3_5_6,.slice ad3_5_8 xd3_4_1.L.length cd3_5_9],.slice cY p1.length cZ] en34 rfl rfl (ih.1 (p0 := xd3_4_1) st15.has Rd3_5_7 Rd3_5_10 R14 hrd3_7_2) ?_)
   rintro _ wd3_7_3 ⟨ad3_7_6,cd3_7_7,ad3_7_9,cd3_7_10,hd3_7_4,rfl,spd3_7_5,Rd3_7_8,Rd3_7_11⟩
   have Md3_7_12 := M33.call0 spd3_7_5
   have Md3_7_13 := M34.call0 spd3_7_5
   have Od3_7_14 := O12.call0 spd3_7_5
   have kod3_7_15 := fun x (hx : blk a6 x) => (spd3_7_5.sp.keep x (Own.lts O12 x hx) (fun e => e)).trans ((fun x hx => (Al0.st al6 st.has).sp.keep x (Own.lts O10 x hx) (fun e => e)) x hx)
   have std3_7_16 := st15.call0 spd3_7_5
   refine ⟨.inr ⟨Has.le spd3_7_5.le std3_7_16.has,kod3_7_15,trivial⟩,?_⟩
   obtain ⟨xd3_8_1,hxd3_8_2,H⟩ := aK H
   have hid3_8_3 := dB hxd3_8_2
   obtain ⟨bd3_8_4,habd3_8_5⟩ := Own.adr Od3_7_14 hid3_8_3.2.2
   refine bI rfl rfl (fun w_ ok_ => aX u29 cX rfl rfl habd3_8_5 hid3_8_3.1 hid3_8_3.2.1) ?_
   obtain ⟨vsd3_9_1,rpd3_9_2,hld3_9_3,cld3_9_4⟩ := Own.cell Od3_7_14 habd3_8_5 hid3_8_3.2.2
   obtain ⟨ad3_9_9,cd3_9_10,ad3_9_12,cd3_9_13,rfl,Rd3_9_11,Rd3_9_14⟩ := GNode.out rpd3_9_2
   refine dr_c rfl (od_storeOwn (off := 0) (n := 5) (us := [I fM.Op,I fM.N,.string fM.Name,.slice ad3_7_6 fM.Index.length cd3_7_7,.slice ad3_7_9 fM.L.length cd3_7_10]) (vs := [I xd3_8_1.Op,I xd3_8_1.N,.string xd3_8_1.Name,.slice ad3_9_9 xd3_8_1.Index.length cd3_9_10,.slice ad3_9_12 xd3_8_1.L.length cd3_9_13]) (y := fM) (.agg #[I fM.Op,I fM.N,.string fM.Name,.slice ad3_7_6 fM.Index.length cd3_7_7,.slice ad3_7_9 fM.L.length cd3_7_10]) cX rfl rfl rfl Od3_7_14 habd3_8_5 hid3_8_3.2.2 rfl cld3_9_4 rfl rfl rfl (by decide) std3_7_16.has (GNode.into (h := hd3_7_4) (x := fM) Rd3_7_8 Rd3_7_11) (fun wd3_9_5 Od3_9_6 spd3_9_7 => ?_))
   have Md3_9_15 := Md3_7_12.call spd3_9_7 (fun e => (ne14 e))
   have Md3_9_16 := Md3_7_13.call spd3_9_7 (fun e => (ne15 e))
   have std3_9_17 := std3_7_16.call spd3_9_7 (fun x e => (.inl (Od3_7_14.lbs x e)))
   have hlend3_9_8 := set_len l3 ((i3 : Int).toNat) fM
   refine ⟨.inl rfl,?_⟩
   refine dZ<|aW<|aA e34_35<|vv rfl (aP .add .i64 i3 1 (I (wr (i3 + 1))) 3 3 s20 rfl rfl)<|vv rfl (aE (I (wr (i3 + 1))) rfl)<|aD<|bF ?_
   exact ih.2.2.2 std3_9_17 s2 s3 s4 (Eq.trans s5 (sl_len hlend3_9_8)) s19 rfl (SlR.mono spd3_7_5.le R12) (SlR.mono spd3_7_5.le R13) Md3_9_15 lb7 (SlR.mono spd3_7_5.le R14) (spd3_7_5.le _ _ g4) Md3_9_16 lb8 Od3_9_6 ne14 ne15 ne16 H
 refine fa e34_27 (dF hc6) rfl<|bM e34_29 rfl<|aB e34_36<|aA e34_37<|vv rfl (aF (b := b1) (o := 0) fl31_0 s2)<|vv rfl (aL (I p0.Op) sc3 rfl ((aQ M27.get).trans rfl))<|vv rfl (aE (.slice a6 l3.length c6) s5)<|vv rfl (dK (vs := [I p0.Op,I 0,.string ByteArray.empty,.slice none 0 0,.slice a6 l3.length c6]) [(0,I p0.Op),(4,.slice a6 l3.length c6)] bd31 rfl rfl)<|aV (o := 0) (n := 5) [I p0.Op,I 0,.string ByteArray.empty,.slice none 0 0,.slice a6 l3.length c6] [I p0.Op,I 0,.string ByteArray.empty,.slice none 0 0,.slice a6 l3.length c6] (.agg #[I p0.Op,I 0,.string ByteArray.empty,.slice none 0 0,.slice a6 l3.length c6]) cX rfl rfl s4 rfl M28 rfl rfl rfl rfl rfl (fun w11 wr3 M29 => ?_)
 have sp11 := wr3.st st.has M28.none
 have M30 := M27.call sp11 (fun e => (ne16 e))
 have O11 := O10.call sp11 (fun x hx e => (absurd (e ▸ hx) ne15))
 have st13 := st.call sp11 (fun x e => (.inl (e ▸ lb8)))
 refine aD ?_
 obtain ⟨h7,le4,st14,R15,kp3⟩ := O11.frz st13 (Nat.le_refl _)
 have M31 := M30.frB kp3 ne14
 have M32 := M29.frB kp3 ne15
 cases H
 exact aJ e34_38 (cG Try.results34 (eI [I p0.Op,I 0,.string ByteArray.empty,.slice none 0 0,.slice a6 l3.length c6] ag31 cX s4 rfl (aY M32.get rfl)) ⟨none,0,a6,c6,h7,rfl,st14,(SlR.none _),R15⟩)
theorem ZS34_all : ∀ k,ZS34 k
  | 0 => ⟨S34_z,SLl34_0_z,SLl34_1_z,SLl34_2_z⟩
  | k + 1 => ⟨S34_s k (ZS34_all k),SLl34_0_s k (ZS34_all k),SLl34_1_s k (ZS34_all k),SLl34_2_s k (ZS34_all k)⟩
theorem F34 (k : Nat) : S34 k := (ZS34_all k).1
theorem F17 (k : Nat) : S17 k := by
 intro p0 aG bO cR aH bP cS w0 h0 hh cN Rp0_E_Index Rp0_E_L r H
 unfold m17 at H
 refine aO (fn := Try.f17) Try.func17 rfl (Nat.le_of_ble_eq_true rfl) ?_
 show Run X17 [.code c17_0] (fun t => List.getD [.agg #[.string p0.Name,.slice aG p0.Index.length aH,I p0.E.Op,I p0.E.N,.string p0.E.Name,.slice bO p0.E.Index.length bP,.slice cR p0.E.L.length cS]] t undef) w0 (.fn (Q17 w0 h0 r))
 have st0 := St.init hh noM
 refine aB e17_0<|aA e17_1<|eF (.agg #[.string p0.Name,.slice aG p0.Index.length aH,I p0.E.Op,I p0.E.N,.string p0.E.Name,.slice bO p0.E.Index.length bP,.slice cR p0.E.L.length cS]) rfl rfl rfl (fun b1 w1 al1 => ?_)
 replace al1 : Al _ (.cells (List.toArray [.string p0.Name,.slice aG p0.Index.length aH,I p0.E.Op,I p0.E.N,.string p0.E.Name,.slice bO p0.E.Index.length bP,.slice cR p0.E.L.length cS]) 33 (0,0)) b1 w1 := al1
 obtain ⟨h1,le1,g1,sp1⟩ := al1.fz st0.has
 have st1 := st0.call0 sp1
 refine cF (.agg #[I 0,I 0,.string ByteArray.empty,.slice none 0 0,.slice none 0 0]) zr31 rfl rfl (fun b2 w2 al2 => ?_)
 replace al2 : Al _ (.cells (List.toArray [I 0,I 0,.string ByteArray.empty,.slice none 0 0,.slice none 0 0]) 31 (0,0)) b2 w2 := al2
 have M1 := Mut.new st1 al2
 have lb1 := st1.alB al2
 have sp2 := al2.st st1.has
 have st2 := st1.call0 sp2
 refine vv rfl (aC (I 0) rfl)<|aD<|aB e17_2<|aB e17_3<|aA e17_4<|vv rfl (bH [.string p0.Name,.slice aG p0.Index.length aH,I p0.E.Op,I p0.E.N,.string p0.E.Name,.slice bO p0.E.Index.length bP,.slice cR p0.E.L.length cS] ag33 sz33 rfl rfl (aY (st2.has _ _ g1) rfl))<|cH [.string ByteArray.empty,.slice none 0 0,I 0,I 0,.string ByteArray.empty,.slice none 0 0,.slice none 0 0] [.string p0.Name,.slice aG p0.Index.length aH,I p0.E.Op,I p0.E.N,.string p0.E.Name,.slice bO p0.E.Index.length bP,.slice cR p0.E.L.length cS] [(0,.agg #[.string p0.Name,.slice aG p0.Index.length aH,I p0.E.Op,I p0.E.N,.string p0.E.Name,.slice bO p0.E.Index.length bP,.slice cR p0.E.L.length cS])] u23 sz33 zr33 rfl rfl rfl rfl (by kernel_rfl) rfl (by kernel_rfl) (fun b3 w3 al3 => ?_)
 have li1 : Lits h1 [[.string p0.Name,.slice aG p0.Index.length aH,I p0.E.Op,I p0.E.N,.string p0.E.Name,.slice bO p0.E.Index.length bP,.slice cR p0.E.L.length cS]] ([p0] : List GStmt) := (Lits.cons (GStmt.into (h := h1) (x := p0) (SlR.mono le1 cN) (SlR.mono le1 Rp0_E_Index) (SlR.mono le1 Rp0_E_L)) Lits.nil)
 obtain ⟨h2,le2,g2,sp3⟩ := al3.fz st2.has
 have M2 := M1.call0 sp3
 have st3 := st2.call0 sp3
 have R1 : SlR _ _ _ ([p0] : List GStmt) := Lits.sl (n := 1) (Lits.mono le2 li1) rfl rfl (by decide) g2
 refine vv rfl (dK (vs := [.slice none 0 0,.slice (some ⟨b3,0,none⟩) 1 1]) [(1,.slice (some ⟨b3,0,none⟩) 1 1)] bd25 rfl rfl) ?_
 obtain ⟨r1,hr1,H⟩ := aK H
 refine aU [.agg #[.slice none 0 0,.slice (some ⟨b3,0,none⟩) 1 1]] en26 rfl rfl rfl (F26 k (p0 := (⟨[],([p0] : List GStmt)⟩ : GProg)) st3.has (SlR.none _) R1 hr1) ?_
 rintro _ w4 ⟨h3,rfl,sp4⟩
 have M3 := M2.call0 sp4
 have st4 := st3.call0 sp4
 refine vv rfl (aC (I r1) rfl)<|aD<|aB e17_5<|aA e17_6<|vv rfl (aE (I r1) rfl)<|vv rfl (aP .neq .i64 r1 0 (.bool (!decide (r1 = 0))) 35 35 rfl rfl rfl)<|aD ?_
 rcases aN H with ⟨hc1,H⟩ | ⟨hc1,H⟩
 · refine fa e17_7 (bL (dT hc1)) rfl<|aM e17_11<|aB e17_12<|aA e17_13<|vv rfl (aF (b := b1) (o := 0) fl33_2 rfl)<|vv rfl (bH [I p0.E.Op,I p0.E.N,.string p0.E.Name,.slice bO p0.E.Index.length bP,.slice cR p0.E.L.length cS] ag31 cX rfl rfl (aY (st4.has _ _ ((le2.trans sp4.le) _ _ g1)) rfl))<|vv rfl (aF (b := b1) (o := 0) fl33_1 rfl)<|vv rfl (aL (.slice aG p0.Index.length aH) sc28 rfl ((aQ (st4.has _ _ ((le2.trans sp4.le) _ _ g1))).trans rfl)) ?_
   obtain ⟨r2,hr2,H⟩ := aK H
   refine aU [.agg #[I p0.E.Op,I p0.E.N,.string p0.E.Name,.slice bO p0.E.Index.length bP,.slice cR p0.E.L.length cS],.slice aG p0.Index.length aH] en34 rfl rfl rfl (F34 k (p0 := p0.E) st4.has (SlR.mono (le1.trans (le2.trans sp4.le)) Rp0_E_Index) (SlR.mono (le1.trans (le2.trans sp4.le)) Rp0_E_L) (SlR.mono (le1.trans (le2.trans sp4.le)) cN) hr2) ?_
   rintro _ w6 ⟨a1,c1,a2,c2,h4,rfl,sp6,R2,R3⟩
   have M5 := M3.call0 sp6
   have st6 := st4.call0 sp6
   refine aV (o := 0) (n := 5) [I r2.Op,I r2.N,.string r2.Name,.slice a1 r2.Index.length c1,.slice a2 r2.L.length c2] [I r2.Op,I r2.N,.string r2.Name,.slice a1 r2.Index.length c1,.slice a2 r2.L.length c2] (.agg #[I r2.Op,I r2.N,.string r2.Name,.slice a1 r2.Index.length c1,.slice a2 r2.L.length c2]) cX rfl rfl rfl rfl M5 rfl rfl rfl rfl rfl (fun w7 wr2 M6 => ?_)
   have sp7 := wr2.st st6.has M5.none
   have st7 := st6.call sp7 (fun x e => (.inl (e ▸ lb1)))
   refine vv rfl (aC (I 0) rfl)<|aD ?_
   cases H
   exact aJ e17_14 (eK Try.results17 (eI [I r2.Op,I r2.N,.string r2.Name,.slice a1 r2.Index.length c1,.slice a2 r2.L.length c2] ag31 cX rfl rfl (aY M6.get rfl)) rfl ⟨a1,c1,a2,c2,h4,rfl,st7,R2,R3⟩)
 refine tr e17_7 (bK (dF hc1)) rfl<|aB e17_8<|aA e17_9<|vv rfl (dK (vs := [I 0,I 0,.string ByteArray.empty,.slice none 0 0,.slice none 0 0]) [] bd31 rfl rfl)<|vv rfl (aE (I r1) rfl)<|aV (o := 0) (n := 5) [I 0,I 0,.string ByteArray.empty,.slice none 0 0,.slice none 0 0] [I 0,I 0,.string ByteArray.empty,.slice none 0 0,.slice none 0 0] (.agg #[I 0,I 0,.string ByteArray.empty,.slice none 0 0,.slice none 0 0]) cX rfl rfl rfl rfl M3 rfl rfl rfl rfl rfl (fun w5 wr1 M4 => ?_)
 have sp5 := wr1.st st4.has M3.none
 have st5 := st4.call sp5 (fun x e => (.inl (e ▸ lb1)))
 refine vv rfl (aC (I r1) rfl)<|aD ?_
 cases H
 exact aJ e17_10 (eK Try.results17 (eI [I 0,I 0,.string ByteArray.empty,.slice none 0 0,.slice none 0 0] ag31 cX rfl rfl (aY M4.get rfl)) rfl ⟨none,0,none,0,h3,rfl,st5,(SlR.none _),(SlR.none _)⟩)
abbrev ZSLl87_0 (k : Nat) : Prop := SLl87_0 k
theorem SLl87_0_z : SLl87_0 0 := by
  unfold SLl87_0; intros; rename_i H; exact absurd H (by simp [l87_0])
theorem SLl87_0_s (k : Nat) (ih : ZSLl87_0 k) : SLl87_0 (k + 1) := by
 intro p0 w0 w h0 h σ i1 i2 r st s0 s2 s23 s24 H
 rw [l87_0] at H
 refine aB e87_15<|aA e87_16<|vv rfl (aP .lss .i64 i2 (p0.size : Int) (.bool (decide (i2 < (p0.size : Int)))) 3 3 s24 s23 rfl)<|aD<|aB e87_17 ?_
 rcases aN H with ⟨hc5,H⟩ | ⟨hc5,H⟩
 · refine tr e87_18 (dT hc5) rfl<|aM e87_19<|aB e87_21<|aT e87_22<|aB e87_23<|aA e87_24<|vv rfl (aE (I i2) s24)<|vv rfl (aC (I i2) rfl)<|aD<|aB e87_25 ?_
   refine aB e87_26<|aA e87_27<|vv rfl (aE (.string p0) s0)<|vv rfl (aE (I i2) rfl) ?_
   obtain ⟨hi2,H⟩ := cD H
   refine vv rfl (fR u9 rfl rfl hi2.1 hi2.2) ?_
   obtain ⟨r1,hr1,H⟩ := aK H
   refine aU [.int .u8 (bt p0 i2)] en62 rfl rfl rfl (F62 st.has hr1) ?_
   rintro _ w2 ⟨h2,rfl,sp1⟩
   have st2 := st.call0 sp1
   refine vv rfl (aP .neq .i64 r1 2 (.bool (!decide (r1 = 2))) 3 3 rfl rfl rfl)<|aD ?_
   rcases aN H with ⟨hc6,H⟩ | ⟨hc6,H⟩
   · refine fa e87_28 (bL (dT hc6)) rfl<|aM e87_32<|aA e87_33<|vv rfl (aE (I i1) s2)<|vv rfl (aP .mul .i64 (10 : Int) i1 (I (wr ((10 : Int) * i1))) 2 2 rfl rfl rfl)<|vv rfl (aE (.string p0) s0)<|vv rfl (aE (I i2) rfl) ?_
     obtain ⟨hi3,H⟩ := cD H
     refine vv rfl (fR u9 rfl rfl hi3.1 hi3.2)<|vv rfl (aP .sub .u8 (bt p0 i2) 48 (.int .u8 (wru8 ((bt p0 i2) - 48))) 5 5 rfl rfl rfl)<|vv rfl (x_conv .u8 .i64 (wru8 ((bt p0 i2) - 48)) u2 u5 rfl)<|vv rfl (aP .add .i64 (wr ((10 : Int) * i1)) (wr (wru8 ((bt p0 i2) - 48))) (I (wr ((wr ((10 : Int) * i1)) + (wr (wru8 ((bt p0 i2) - 48)))))) 2 2 rfl rfl rfl)<|vv rfl (aC (I (wr ((wr ((10 : Int) * i1)) + (wr (wru8 ((bt p0 i2) - 48)))))) rfl)<|aD<|aW<|aA e87_34<|vv rfl (aP .add .i64 i2 1 (I (wr (i2 + 1))) 3 3 s24 rfl rfl)<|vv rfl (aE (I (wr (i2 + 1))) rfl) ?_
     refine aD<|bF ?_
     exact ih st2 s0 rfl s23 rfl H
   refine tr e87_28 (bK (dF hc6)) rfl<|aB e87_29<|aA e87_30<|vv rfl (aC (I 0) rfl)<|vv rfl (aC (.bool false) rfl)<|aD ?_
   cases H
   exact aJ e87_31 (eK Try.results87 rfl rfl ⟨h2,rfl,st2⟩)
 refine fa e87_18 (dF hc5) rfl<|bM e87_20 rfl<|aB e87_35<|aA e87_36<|vv rfl (aE (I i1) s2)<|vv rfl (aC (I i1) rfl)<|vv rfl (aC (.bool true) rfl)<|aD ?_
 cases H
 exact aJ e87_37 (eK Try.results87 rfl rfl ⟨h,rfl,st⟩)
theorem ZSLl87_0_all : ∀ k,ZSLl87_0 k
  | 0 => SLl87_0_z
  | k + 1 => SLl87_0_s k (ZSLl87_0_all k)
theorem Fl87_0 (k : Nat) : SLl87_0 k := (ZSLl87_0_all k)
theorem F87 (k : Nat) : S87 k := by
 intro p0 w0 h0 hh r H
 unfold m87 at H
 refine aO (fn := Try.f87) Try.func87 rfl (Nat.le_of_ble_eq_true rfl) ?_
 show Run X87 [.code c87_0] (fun t => List.getD [.string p0] t undef) w0 (.fn (Q87 w0 h0 r))
 have st0 := St.init hh noM
 refine aB e87_0<|aA e87_1<|vv rfl (aC (I 0) rfl)<|vv rfl (aC (.bool false) rfl)<|aD<|aB e87_2<|aB e87_3<|aA e87_4 ?_
 obtain ⟨j1,hj1,H⟩ := dE H
 have Jj1 : ∀  {σ1 : Env} {w1 : World} {h1 : Sto},Le h0 h1 → St w0 noM h0 h1 w1 → σ1 0 = .string p0 → σ1 2 = I 0 → j1 () = some r → Run X87 [.code c87_10] σ1 w1 (.fn (Q87 w0 h0 r)) := by
  intro σ1 w1 h1 le1 st1 s0_j1 s2_j1 H
  rw [hj1] at H
  refine aB e87_10<|aB e87_11<|aA e87_12<|vv rfl (aE (.string p0) s0_j1)<|vv rfl (eB u9 rfl)<|vv rfl (aE (I 0) rfl)<|aD<|aT e87_13<|cB e87_14 ?_
  exact Fl87_0 k st1 s0_j1 s2_j1 rfl rfl H
 refine vv rfl (aE (.string p0) rfl)<|vv rfl (x_strEq p0 ByteArray.empty 9 9 rfl rfl)<|vv rfl (aE (.bool (decide (p0 = ByteArray.empty))) rfl) ?_
 rcases aN H with ⟨hc1,H⟩ | ⟨hc1,H⟩
 · refine aR (wf2 (dT hc1) rfl) rfl<|aR (wf2 (dT hc1) rfl) rfl<|aR (wf2 (dT hc1) rfl) rfl<|vv rfl (dH (.bool true) (dT hc1) rfl rfl)<|vv rfl (aE (.bool true) rfl)<|aR (wf (p := true) rfl rfl) rfl<|aR (wf (p := true) rfl rfl) rfl<|aR (wf (p := true) rfl rfl) rfl<|aR (wf (p := true) rfl rfl) rfl<|aR (wu rfl) rfl ?_
   refine aR (wu rfl) rfl<|aR (wu rfl) rfl<|aR (wf (p := true) rfl rfl) rfl<|vv rfl (x_pickT (.bool true) (p := true) rfl rfl rfl)<|aD<|cQ e87_5 (p := true) rfl rfl<|aB e87_6<|aA e87_7<|vv rfl (aC (I 0) rfl)<|vv rfl (aC (.bool false) rfl) ?_
   refine aD ?_
   cases H
   exact aJ e87_8 (eK Try.results87 rfl rfl ⟨h0,rfl,st0⟩)
 refine aZ (wt2 (dF hc1) rfl) rfl (aE (.string p0) rfl)<|aZ (wt2 (dF hc1) rfl) rfl (eB u9 rfl)<|aZ (wt2 (dF hc1) rfl) rfl (aP .gtr .i64 (p0.size : Int) 18 (.bool (decide (18 < (p0.size : Int)))) 3 3 rfl rfl rfl)<|vv rfl (dI (.bool (decide (18 < (p0.size : Int)))) (dF hc1) rfl rfl)<|vv rfl (aE (.bool (decide (18 < (p0.size : Int)))) rfl) ?_
 rcases aN H with ⟨hc2,H⟩ | ⟨hc2,H⟩
 · refine aR (wf2 (dT hc2) rfl) rfl<|aR (wf2 (dT hc2) rfl) rfl<|aR (wf2 (dT hc2) rfl) rfl<|aR (wf2 (dT hc2) rfl) rfl<|aR (wu rfl) rfl<|aR (wu rfl) rfl<|aR (wu rfl) rfl<|aR (wf2 (dT hc2) rfl) rfl<|vv rfl (dH (.bool true) (dT hc2) rfl rfl)<|aD ?_
   refine cQ e87_5 (p := true) rfl rfl<|aB e87_6<|aA e87_7<|vv rfl (aC (I 0) rfl)<|vv rfl (aC (.bool false) rfl)<|aD ?_
   cases H
   exact aJ e87_8 (eK Try.results87 rfl rfl ⟨h0,rfl,st0⟩)
 refine aZ (wt2 (dF hc2) rfl) rfl (aE (.string p0) rfl)<|aZ (wt2 (dF hc2) rfl) rfl (eB u9 rfl)<|aZ (wt2 (dF hc2) rfl) rfl (aP .gtr .i64 (p0.size : Int) 1 (.bool (decide (1 < (p0.size : Int)))) 3 3 rfl rfl rfl)<|aZ (wt2 (dF hc2) rfl) rfl (aE (.bool (decide (1 < (p0.size : Int)))) rfl) ?_
 rcases aN H with ⟨hc3,H⟩ | ⟨hc3,H⟩
 · refine aZ (wt2 (dT hc3) rfl) rfl (aE (.string p0) rfl) ?_
   obtain ⟨hi1,H⟩ := cD H
   refine aZ (wt2 (dT hc3) rfl) rfl (fR u9 rfl rfl hi1.1 hi1.2)<|aZ (wt2 (dT hc3) rfl) rfl (aP .eql .u8 (bt p0 0) 48 (.bool (decide ((bt p0 0) = 48))) 5 5 rfl rfl rfl)<|aZ (wt2 (dF hc2) rfl) rfl (dH (.bool (decide ((bt p0 0) = 48))) (dT hc3) rfl rfl)<|vv rfl (dI (.bool (decide ((bt p0 0) = 48))) (dF hc2) rfl rfl)<|aD ?_
   rcases aN H with ⟨hc4,H⟩ | ⟨hc4,H⟩
   · refine tr e87_5 (dT hc4) rfl<|aB e87_6<|aA e87_7<|vv rfl (aC (I 0) rfl)<|vv rfl (aC (.bool false) rfl)<|aD ?_
     cases H
     exact aJ e87_8 (eK Try.results87 rfl rfl ⟨h0,rfl,st0⟩)
   refine fa e87_5 (dF hc4) rfl<|aM e87_9 ?_
   exact Jj1 (Le.refl _) st0 rfl rfl H
 refine aR (wf2 (dF hc3) rfl) rfl<|aR (wf2 (dF hc3) rfl) rfl<|aR (wf2 (dF hc3) rfl) rfl<|aZ (wt2 (dF hc2) rfl) rfl (dI (.bool false) (dF hc3) rfl rfl)<|vv rfl (dI (.bool false) (dF hc2) rfl rfl)<|aD<|dJ e87_5 (p := false) rfl rfl<|aM e87_9 ?_
 exact Jj1 (Le.refl _) st0 rfl rfl H
theorem F65 (k : Nat) : S65 k := by
 intro p0 w0 h0 hh r H
 unfold m65 at H
 refine aO (fn := Try.f65) Try.func65 rfl (Nat.le_of_ble_eq_true rfl) ?_
 show Run X65 [.code c65_0] (fun t => List.getD [.string p0] t undef) w0 (.fn (Q65 w0 h0 r))
 have st0 := St.init hh noM
 refine aB e65_0<|aA e65_1<|cF (.agg #[I 0,.string ByteArray.empty,I 0]) zr118 rfl rfl (fun b1 w1 al1 => ?_)
 replace al1 : Al _ (.cells (List.toArray [I 0,.string ByteArray.empty,I 0]) 118 (0,0)) b1 w1 := al1
 have M1 := Mut.new st0 al1
 have lb1 := st0.alB al1
 have sp1 := al1.st st0.has
 have st1 := st0.call0 sp1
 refine vv rfl (aC (.bool false) rfl)<|aD<|aB e65_2<|aA e65_3<|vv rfl (aE (.string p0) rfl)<|vv rfl (aF (b := b1) (o := 0) fl118_1 rfl)<|aV (o := 1) (n := 1) [.string p0] [I 0,.string p0,I 0] (.string p0) sz9 rfl rfl rfl rfl M1 rfl rfl rfl rfl rfl (fun w2 wr1 M2 => ?_)
 have sp2 := wr1.st st1.has M1.none
 have st2 := st1.call sp2 (fun x e => (.inl (e ▸ lb1)))
 refine aD<|aB e65_4<|aT e65_5<|aB e65_6<|aA e65_7<|vv rfl (aE (.string p0) rfl) ?_
 obtain ⟨r1,hr1,H⟩ := aK H
 refine aU [.string p0] en48 rfl rfl rfl (F48 k st2.has hr1) ?_
 rintro _ w3 ⟨h1,rfl,sp3⟩
 have M3 := M2.call0 sp3
 have st3 := st2.call0 sp3
 refine vv rfl (aC (.bool r1) rfl)<|aD ?_
 obtain ⟨j1,hj1,H⟩ := dE H
 have Jj1 : ∀ {y1 : Int} {σ1 : Env} {w15 : World} {h5 : Sto},Le h1 h5 → St w0 noM h0 h5 w15 → σ1 2 = .pointer (some ⟨b1,0,none⟩) → Mut h5 w15 b1 (.cells (List.toArray [I y1,.string p0,I 0]) 118 (0,0)) → j1 y1 = some r → Run X65 [.inBlock 0,.code c65_21] σ1 w15 (.fn (Q65 w0 h0 r)) := by
  intro y1 σ1 w15 h5 le1 st15 s2_j1 M15 H
  rw [hj1] at H
  refine aW<|aB e65_21<|aA e65_22<|vv rfl (bH [I y1,.string p0,I 0] ag118 eH s2_j1 rfl (aY M15.get rfl))<|aV (o := 0) (n := 3) [I y1,.string p0,I 0] [I y1,.string p0,I 0] (.agg #[I y1,.string p0,I 0]) eH rfl rfl s2_j1 rfl M15 rfl rfl rfl rfl rfl (fun w16 wr10 M16 => ?_)
  have sp15 := wr10.st st15.has M15.none
  have st16 := st15.call sp15 (fun x e => (.inl (e ▸ lb1)))
  refine vv rfl (aC (.bool true) rfl)<|aD ?_
  cases H
  exact aJ e65_23 (eK Try.results65 (eI [I y1,.string p0,I 0] ag118 eH s2_j1 rfl (aY M16.get rfl)) rfl ⟨h5,rfl,st16⟩)
 rcases aN H with ⟨hc1,H⟩ | ⟨hc1,H⟩
 · refine tr e65_8 hc1 rfl<|aA e65_9<|vv rfl (aF (b := b1) (o := 0) fl118_0 rfl)<|aV (o := 0) (n := 1) [I 1] [I 1,.string p0,I 0] (I 1) sz3 rfl rfl rfl rfl M3 rfl rfl rfl rfl rfl (fun w4 wr2 M4 => ?_)
   have sp4 := wr2.st st3.has M3.none
   have st4 := st3.call sp4 (fun x e => (.inl (e ▸ lb1)))
   refine aD ?_
   exact Jj1 (Le.refl _) st4 rfl M4 H
 refine fa e65_8 (cA hc1) rfl<|aB e65_10<|aA e65_11<|vv rfl (aE (.string p0) rfl)<|vv rfl (eB u9 rfl)<|vv rfl (aP .eql .i64 (p0.size : Int) 1 (.bool (decide ((p0.size : Int) = 1))) 3 3 rfl rfl rfl)<|vv rfl (aE (.bool (decide ((p0.size : Int) = 1))) rfl) ?_
 rcases aN H with ⟨hc2,H⟩ | ⟨hc2,H⟩
 · refine aZ (wt2 (dT hc2) rfl) rfl (aE (.string p0) rfl) ?_
   obtain ⟨hi1,H⟩ := cD H
   refine aZ (wt2 (dT hc2) rfl) rfl (fR u9 rfl rfl hi1.1 hi1.2) ?_
   obtain ⟨r2,hr2,H⟩ := aK H
   refine aU [.int .u8 (bt p0 0)] en62 (wt2 (dT hc2) rfl) rfl rfl (F62 st3.has hr2) ?_
   rintro _ w5 ⟨h2,rfl,sp5⟩
   have M5 := M3.call0 sp5
   have st5 := st3.call0 sp5
   refine aZ (wt2 (dT hc2) rfl) rfl (aP .eql .i64 r2 3 (.bool (decide (r2 = 3))) 3 3 rfl rfl rfl)<|vv rfl (dH (.bool (decide (r2 = 3))) (dT hc2) rfl rfl)<|vv rfl (aC (.bool (decide (r2 = 3))) rfl)<|aD ?_
   rcases aN H with ⟨hc3,H⟩ | ⟨hc3,H⟩
   · refine tr e65_12 (dT hc3) rfl<|aA e65_13<|vv rfl (aF (b := b1) (o := 0) fl118_0 rfl)<|aV (o := 0) (n := 1) [I 3] [I 3,.string p0,I 0] (I 3) sz3 rfl rfl rfl rfl M5 rfl rfl rfl rfl rfl (fun w6 wr3 M6 => ?_)
     have sp6 := wr3.st st5.has M5.none
     have st6 := st5.call sp6 (fun x e => (.inl (e ▸ lb1)))
     refine aD ?_
     exact Jj1 sp5.le st6 rfl M6 H
   refine fa e65_12 (dF hc3) rfl<|aB e65_14<|aA e65_15<|vv rfl (aF (b := b1) (o := 0) fl118_0 rfl)<|aV (o := 0) (n := 1) [I 2] [I 2,.string p0,I 0] (I 2) sz3 rfl rfl rfl rfl M5 rfl rfl rfl rfl rfl (fun w7 wr4 M7 => ?_)
   have sp7 := wr4.st st5.has M5.none
   have st7 := st5.call sp7 (fun x e => (.inl (e ▸ lb1)))
   refine aD<|aB e65_16<|aA e65_17<|vv rfl (aE (.string p0) rfl) ?_
   obtain ⟨r3,hr3,H⟩ := aK H
   refine aU [.string p0] en87 rfl rfl rfl (F87 k st7.has hr3) ?_
   rintro _ w8 ⟨h3,rfl,sp8⟩
   have M8 := M7.call0 sp8
   have st8 := st7.call0 sp8
   refine vv rfl (aE (.tuple #[I r3.1,.bool r3.2]) rfl)<|vv rfl (bJ (I r3.1) rfl rfl)<|vv rfl (bJ (.bool r3.2) rfl rfl)<|vv rfl (aF (b := b1) (o := 0) fl118_2 rfl)<|aV (o := 2) (n := 1) [I r3.1] [I 2,.string p0,I r3.1] (I r3.1) sz2 rfl rfl rfl rfl M8 rfl rfl rfl rfl rfl (fun w9 wr5 M9 => ?_)
   have sp9 := wr5.st st8.has M8.none
   have st9 := st8.call sp9 (fun x e => (.inl (e ▸ lb1)))
   refine vv rfl (aC (.bool r3.2) rfl)<|aD<|aB e65_18<|aA e65_19<|vv rfl (bH [I 2,.string p0,I r3.1] ag118 eH rfl rfl (aY M9.get rfl))<|vv rfl (aE (.bool r3.2) rfl)<|aV (o := 0) (n := 3) [I 2,.string p0,I r3.1] [I 2,.string p0,I r3.1] (.agg #[I 2,.string p0,I r3.1]) eH rfl rfl rfl rfl M9 rfl rfl rfl rfl rfl (fun w10 wr6 M10 => ?_)
   have sp10 := wr6.st st9.has M9.none
   have st10 := st9.call sp10 (fun x e => (.inl (e ▸ lb1)))
   refine vv rfl (aC (.bool r3.2) rfl)<|aD ?_
   cases H
   exact aJ e65_20 (eK Try.results65 (eI [I 2,.string p0,I r3.1] ag118 eH rfl rfl (aY M10.get rfl)) rfl ⟨h3,rfl,st10⟩)
 refine aR (wf2 (dF hc2) rfl) rfl<|aR (wf2 (dF hc2) rfl) rfl<|aR (wf2 (dF hc2) rfl) rfl<|aR (wf2 (dF hc2) rfl) rfl<|vv rfl (dI (.bool false) (dF hc2) rfl rfl)<|vv rfl (aC (.bool false) rfl)<|aD<|dJ e65_12 (p := false) rfl rfl<|aB e65_14<|aA e65_15 ?_
 refine vv rfl (aF (b := b1) (o := 0) fl118_0 rfl)<|aV (o := 0) (n := 1) [I 2] [I 2,.string p0,I 0] (I 2) sz3 rfl rfl rfl rfl M3 rfl rfl rfl rfl rfl (fun w11 wr7 M11 => ?_)
 have sp11 := wr7.st st3.has M3.none
 have st11 := st3.call sp11 (fun x e => (.inl (e ▸ lb1)))
 refine aD<|aB e65_16<|aA e65_17<|vv rfl (aE (.string p0) rfl) ?_
 obtain ⟨r4,hr4,H⟩ := aK H
 refine aU [.string p0] en87 rfl rfl rfl (F87 k st11.has hr4) ?_
 rintro _ w12 ⟨h4,rfl,sp12⟩
 have M12 := M11.call0 sp12
 have st12 := st11.call0 sp12
 refine vv rfl (aE (.tuple #[I r4.1,.bool r4.2]) rfl)<|vv rfl (bJ (I r4.1) rfl rfl)<|vv rfl (bJ (.bool r4.2) rfl rfl)<|vv rfl (aF (b := b1) (o := 0) fl118_2 rfl)<|aV (o := 2) (n := 1) [I r4.1] [I 2,.string p0,I r4.1] (I r4.1) sz2 rfl rfl rfl rfl M12 rfl rfl rfl rfl rfl (fun w13 wr8 M13 => ?_)
 have sp13 := wr8.st st12.has M12.none
 have st13 := st12.call sp13 (fun x e => (.inl (e ▸ lb1)))
 refine vv rfl (aC (.bool r4.2) rfl)<|aD<|aB e65_18<|aA e65_19<|vv rfl (bH [I 2,.string p0,I r4.1] ag118 eH rfl rfl (aY M13.get rfl))<|vv rfl (aE (.bool r4.2) rfl)<|aV (o := 0) (n := 3) [I 2,.string p0,I r4.1] [I 2,.string p0,I r4.1] (.agg #[I 2,.string p0,I r4.1]) eH rfl rfl rfl rfl M13 rfl rfl rfl rfl rfl (fun w14 wr9 M14 => ?_)
 have sp14 := wr9.st st13.has M13.none
 have st14 := st13.call sp14 (fun x e => (.inl (e ▸ lb1)))
 refine vv rfl (aC (.bool r4.2) rfl)<|aD ?_
 cases H
 exact aJ e65_20 (eK Try.results65 (eI [I 2,.string p0,I r4.1] ag118 eH rfl rfl (aY M14.get rfl)) rfl ⟨h4,rfl,st14⟩)
abbrev ZSLl40_0 (k : Nat) : Prop := SLl40_0 k
theorem SLl40_0_z : SLl40_0 0 := by
  unfold SLl40_0; intros; rename_i H; exact absurd H (by simp [l40_0])
theorem SLl40_0_s (k : Nat) (ih : ZSLl40_0 k) : SLl40_0 (k + 1) := by
 intro p0 w0 w h0 h σ l1 a1 c1 b1 i1 r st s0 s5 s6 s7 O1 H
 rw [l40_0] at H
 refine aB e40_22<|aB e40_23<|aA e40_24<|vv rfl (aE (I i1) s7)<|vv rfl (aE (.string p0) s0)<|vv rfl (eB u9 rfl)<|vv rfl (aP .lss .i64 i1 (p0.size : Int) (.bool (decide (i1 < (p0.size : Int)))) 3 3 rfl rfl rfl)<|aD ?_
 rcases aN H with ⟨hc2,H⟩ | ⟨hc2,H⟩
 · refine tr e40_25 (dT hc2) rfl<|aM e40_26<|aT e40_28<|aB e40_29<|aA e40_30<|vv rfl (aC (I 1) rfl)<|aD<|aB e40_31<|aB e40_32<|aA e40_33 ?_
   refine vv rfl (aE (.string p0) s0)<|vv rfl (aE (I i1) s7) ?_
   obtain ⟨hi1,H⟩ := cD H
   refine vv rfl (fR u9 rfl rfl hi1.1 hi1.2) ?_
   obtain ⟨r1,hr1,H⟩ := aK H
   refine aU [.int .u8 (bt p0 i1)] en62 rfl rfl rfl (F62 st.has hr1) ?_
   rintro _ w1 ⟨h2,rfl,sp1⟩
   have O2 := O1.call0 sp1
   have st2 := st.call0 sp1
   refine aD<|aT e40_34<|aB e40_35<|aA e40_36<|vv rfl (aP .eql .i64 r1 5 (.bool (decide (r1 = 5))) 3 3 rfl rfl rfl)<|vv rfl (aC (.bool (decide (r1 = 5))) rfl)<|aD ?_
   rcases aN H with ⟨hc4,H⟩ | ⟨hc4,H⟩
   · refine tr e40_37 (dT hc4) rfl<|aB e40_38<|aA e40_39<|vv rfl (aE (.slice a1 l1.length c1) s5)<|vv rfl (bN u87 rfl)<|vv rfl (aP .gtr .i64 (l1.length : Int) 0 (.bool (decide (0 < (l1.length : Int)))) 3 3 rfl rfl rfl)<|vv rfl (aC (.bool (decide (0 < (l1.length : Int)))) rfl)<|aD<|aB e40_40<|aA e40_41 ?_
     refine vv rfl (aE (I i1) s7)<|vv rfl (aP .add .i64 i1 1 (I (wr (i1 + 1))) 3 3 rfl rfl rfl)<|vv rfl (aC (I (wr (i1 + 1))) rfl)<|aD<|bM e40_42 rfl<|bF ?_
     exact ih st2 s0 s5 rfl rfl O2 H
   refine fa e40_37 (dF hc4) rfl<|aB e40_43<|aA e40_44<|vv rfl (aP .eql .i64 r1 4 (.bool (decide (r1 = 4))) 3 3 rfl rfl rfl)<|vv rfl (aC (.bool (decide (r1 = 4))) rfl)<|aD ?_
   rcases aN H with ⟨hc5,H⟩ | ⟨hc5,H⟩
   · refine tr e40_45 (dT hc5) rfl<|aB e40_46<|aA e40_47<|vv rfl (aE (I i1) s7)<|vv rfl (aP .add .i64 i1 1 (I (wr (i1 + 1))) 3 3 rfl rfl rfl)<|vv rfl (aC (I (wr (i1 + 1))) rfl)<|aD<|bM e40_48 rfl<|bF ?_
     exact ih st2 s0 s5 s6 rfl O2 H
   refine fa e40_45 (dF hc5) rfl<|aB e40_49<|aA e40_50<|vv rfl (aP .eql .i64 r1 6 (.bool (decide (r1 = 6))) 3 3 rfl rfl rfl)<|vv rfl (aC (.bool (decide (r1 = 6))) rfl)<|aD ?_
   rcases aN H with ⟨hc6,H⟩ | ⟨hc6,H⟩
   · refine tr e40_51 (dT hc6) rfl<|aB e40_52<|aB e40_53<|aA e40_54<|vv rfl (aE (.string p0) s0)<|vv rfl (aE (I i1) s7) ?_
     obtain ⟨hs1,H⟩ := cD H
     refine vv rfl (x_sliceStr (l := i1) (h := (p0.size : Int)) (kl := .i64) (kh := .i64) u9 rfl rfl rfl hs1.1 hs1.2.1 hs1.2.2) ?_
     obtain ⟨r2,hr2,H⟩ := aK H
     refine aU [.string (p0.extract (i1 : Int).toNat ((p0.size : Int) : Int).toNat),.int .u8 10] en63 rfl rfl rfl (F63 st2.has hr2) ?_
     rintro _ w2 ⟨h3,rfl,sp2⟩
     have O3 := O2.call0 sp2
     have st3 := st2.call0 sp2
     refine vv rfl (aC (I r2) rfl)<|aD<|aB e40_55<|aA e40_56<|vv rfl (aE (I r2) rfl)<|vv rfl (aP .lss .i64 r2 0 (.bool (decide (r2 < 0))) 3 3 rfl rfl rfl)<|aD ?_
     rcases aN H with ⟨hc7,H⟩ | ⟨hc7,H⟩
     · refine tr e40_57 (dT hc7) rfl<|bM e40_58 rfl<|aB e40_91<|aB e40_92<|aA e40_93<|vv rfl (aE (.slice a1 l1.length c1) s5)<|vv rfl (bN u87 rfl)<|vv rfl (aP .gtr .i64 (l1.length : Int) 4096 (.bool (decide (4096 < (l1.length : Int)))) 3 3 rfl rfl rfl)<|aD ?_
       rcases aN H with ⟨hc8,H⟩ | ⟨hc8,H⟩
       · refine tr e40_94 (dT hc8) rfl<|aB e40_95<|aA e40_96<|vv rfl (aC (.slice none 0 0) rfl)<|vv rfl (aC (I 0) rfl)<|vv rfl (aC (I 2) rfl)<|aD ?_
         cases H
         exact aJ e40_97 (res3 Try.results40 rfl rfl rfl ⟨none,0,h3,rfl,st3,(SlR.none _)⟩)
       refine fa e40_94 (dF hc8) rfl<|aM e40_98<|aB e40_99<|aA e40_100<|vv rfl (aE (.slice a1 l1.length c1) s5)<|vv rfl (aE (.string p0) s0)<|vv rfl (eB u9 rfl)<|vv rfl (aC (.slice a1 l1.length c1) rfl)<|vv rfl (aC (I (p0.size : Int)) rfl)<|vv rfl (aC (I 0) rfl) ?_
       refine aD ?_
       obtain ⟨h4,le2,st4,R2,kp2⟩ := O3.frz st3 (Nat.le_refl _)
       cases H
       exact aJ e40_101 (res3 Try.results40 rfl rfl rfl ⟨a1,c1,h4,rfl,st4,R2⟩)
     refine fa e40_57 (dF hc7) rfl<|aM e40_59<|aB e40_60<|aA e40_61<|vv rfl (aE (I i1) s7)<|vv rfl (aE (I r2) rfl)<|vv rfl (aP .add .i64 i1 r2 (I (wr (i1 + r2))) 3 3 rfl rfl rfl)<|vv rfl (aC (I (wr (i1 + r2))) rfl)<|aD<|bM e40_62 rfl ?_
     refine bF ?_
     exact ih st3 s0 s5 s6 rfl O3 H
   refine fa e40_51 (dF hc6) rfl<|aB e40_63<|aB e40_64<|aA e40_65<|vv rfl (aP .eql .i64 r1 1 (.bool (decide (r1 = 1))) 3 3 rfl rfl rfl)<|vv rfl (aC (.bool (decide (r1 = 1))) rfl)<|aD ?_
   obtain ⟨j7,hj7,H⟩ := dE H
   have Jj7 : ∀ {y1 : (List GToken)} {y2 : Int} {a2 : OA} {c2 : Nat} {σ1 : Env} {w5 : World} {h7 : Sto},Le h2 h7 → St w0 noM h0 h7 w5 → σ1 0 = .string p0 → σ1 5 = .slice a2 y1.length c2 → σ1 6 = .bool b1 → σ1 7 = I i1 → σ1 8 = I y2 → Own 118 w0.heap.size h7 w5 a2 c2 y1 → j7 y1 y2 = some r → Run X40 [.inBlock 2,.code c40_72,.inBlock 1,.inLoop c40_22,.inBlock 0,.code c40_91,.inScope c40_3] σ1 w5 (.fn (Q40 w0 h0 r)) := by
    intro y1 y2 a2 c2 σ1 w5 h7 le3 st7 s0_j7 s5_j7 s6_j7 s7_j7 s8_j7 O6 H
    rw [hj7] at H
    refine aW<|aB e40_72<|aA e40_73<|vv rfl (aE (.string p0) s0_j7)<|vv rfl (aE (I i1) s7_j7)<|vv rfl (aE (I i1) s7_j7)<|vv rfl (aE (I y2) s8_j7)<|vv rfl (aP .add .i64 i1 y2 (I (wr (i1 + y2))) 3 3 rfl rfl rfl) ?_
    obtain ⟨hs4,H⟩ := cD H
    refine vv rfl (x_sliceStr (l := i1) (h := (wr (i1 + y2))) (kl := .i64) (kh := .i64) u9 rfl rfl rfl hs4.1 hs4.2.1 hs4.2.2) ?_
    obtain ⟨r5,hr5,H⟩ := aK H
    refine aU [.string (p0.extract (i1 : Int).toNat (wr (i1 + y2) : Int).toNat)] en65 rfl rfl rfl (F65 k st7.has hr5) ?_
    rintro _ w6 ⟨h8,rfl,sp5⟩
    have O7 := O6.call0 sp5
    have st8 := st7.call0 sp5
    refine vv rfl (aE (.tuple #[.agg #[I r5.1.Kind,.string r5.1.S,I r5.1.N],.bool r5.2]) rfl)<|vv rfl (bJ (.agg #[I r5.1.Kind,.string r5.1.S,I r5.1.N]) rfl rfl)<|vv rfl (bJ (.bool r5.2) rfl rfl)<|cF (.agg #[I 0,.string ByteArray.empty,I 0]) zr118 rfl rfl (fun b2 w7 al1 => ?_)
    replace al1 : Al _ (.cells (List.toArray [I 0,.string ByteArray.empty,I 0]) 118 (0,0)) b2 w7 := al1
    have ne1 := O7.ne_al al1
    have M1 := Mut.new st8 al1
    have lb1 := st8.alB al1
    have sp6 := al1.st st8.has
    have O8 := O7.call0 sp6
    have st9 := st8.call0 sp6
    refine aV (o := 0) (n := 3) [I r5.1.Kind,.string r5.1.S,I r5.1.N] [I r5.1.Kind,.string r5.1.S,I r5.1.N] (.agg #[I r5.1.Kind,.string r5.1.S,I r5.1.N]) eH rfl rfl rfl rfl M1 rfl rfl rfl rfl rfl (fun w8 wr1 M2 => ?_)
    have sp7 := wr1.st st9.has M1.none
    have O9 := O8.call sp7 (fun x hx e => (absurd (e ▸ hx) ne1))
    have st10 := st9.call sp7 (fun x e => (.inl (e ▸ lb1)))
    obtain ⟨h9,le4,g1,st11,kp3⟩ := M2.fz st10 lb1
    have O10 := O9.fr le4 kp3 ne1
    refine vv rfl (aC (.bool r5.2) rfl)<|aD<|aB e40_74<|aB e40_75<|aA e40_76<|vv rfl (aE (.bool r5.2) rfl)<|vv rfl (eA r5.2 4 rfl)<|aD ?_
    rcases aN H with ⟨hc11,H⟩ | ⟨hc11,H⟩
    · refine fa e40_77 (bL hc11) rfl<|aM e40_81<|aB e40_82<|aB e40_83<|aA e40_84<|vv rfl (aE (.bool b1) s6_j7)<|aD ?_
      obtain ⟨j9,hj9,H⟩ := dE H
      have Jj9 : ∀ {y3 : (List GToken)} {a4 : OA} {c4 : Nat} {σ2 : Env} {w11 : World} {h11 : Sto},Le h9 h11 → St w0 noM h0 h11 w11 → σ2 0 = .string p0 → σ2 5 = .slice a4 y3.length c4 → σ2 7 = I i1 → σ2 8 = I y2 → σ2 9 = .pointer (some ⟨b2,0,none⟩) → Own 118 w0.heap.size h11 w11 a4 c4 y3 → j9 y3 = some r → Run X40 [.code c40_88,.inBlock 1,.inLoop c40_22,.inBlock 0,.code c40_91,.inScope c40_3] σ2 w11 (.fn (Q40 w0 h0 r)) := by
       intro y3 a4 c4 σ2 w11 h11 le6 st14 s0_j9 s5_j9 s7_j9 s8_j9 s9_j9 O13 H
       rw [hj9] at H
       refine aB e40_88<|aA e40_89<|vv rfl (aE (.slice a4 y3.length c4) s5_j9)<|vv rfl (bH [I r5.1.Kind,.string r5.1.S,I r5.1.N] ag118 eH s9_j9 rfl (aY (st14.has _ _ (le6 _ _ g1)) rfl))<|cH [I 0,.string ByteArray.empty,I 0] [I r5.1.Kind,.string r5.1.S,I r5.1.N] [(0,.agg #[I r5.1.Kind,.string r5.1.S,I r5.1.N])] u87 eH zr118 rfl rfl rfl rfl (by kernel_rfl) rfl (by kernel_rfl) (fun b4 w12 al3 => ?_)
       have li2 : Lits h11 [[I r5.1.Kind,.string r5.1.S,I r5.1.N]] ([r5.1] : List GToken) := (Lits.cons (GToken.into (h := h11) (x := r5.1) ) Lits.nil)
       obtain ⟨h12,le7,g3,sp10⟩ := al3.fz st14.has
       have O14 := O13.call0 sp10
       have st15 := st14.call0 sp10
       have R4 : SlR _ _ _ ([r5.1] : List GToken) := Lits.sl (n := 1) (Lits.mono le7 li2) rfl rfl (by decide) g3
       obtain ⟨hs6,H⟩ := cD H
       refine eG (α := GToken) (B := w0.heap.size) (l := y3) (l2 := ([r5.1] : List GToken)) u87 u87 ap118 rfl rfl rfl rfl st15.has st15.sp.size O14 R4 rfl rfl hs6 (fun a5 c5 w13 O15 sp11 bl2 => ?_)
       have st16 := st15.call sp11 (fun x e => (.inl (O14.lbs x e)))
       refine vv rfl (aC (.slice a5 ((y3 ++ ([r5.1] : List GToken)).length) c5) rfl)<|vv rfl (aC (.bool false) rfl)<|aD<|aA e40_90<|vv rfl (aE (I i1) s7_j9)<|vv rfl (aE (I y2) s8_j9)<|vv rfl (aP .add .i64 i1 y2 (I (wr (i1 + y2))) 3 3 rfl rfl rfl)<|vv rfl (aC (I (wr (i1 + y2))) rfl)<|aD<|aW ?_
       refine bF ?_
       exact ih st16 s0_j9 rfl rfl rfl O15 H
      rcases aN H with ⟨hc12,H⟩ | ⟨hc12,H⟩
      · refine tr e40_85 hc12 rfl<|aA e40_86<|vv rfl (aE (.slice a2 y1.length c2) s5_j7)<|vv rfl (dK (vs := [I 4,.string ByteArray.empty,I 0]) [(0,I 4)] bd118 rfl rfl)<|cH [I 0,.string ByteArray.empty,I 0] [I 4,.string ByteArray.empty,I 0] [(0,.agg #[I 4,.string ByteArray.empty,I 0])] u87 eH zr118 rfl rfl rfl rfl (by kernel_rfl) rfl (by kernel_rfl) (fun b3 w9 al2 => ?_)
        have li1 : Lits h9 [[I 4,.string ByteArray.empty,I 0]] ([(⟨4,ByteArray.empty,0⟩ : GToken)] : List GToken) := (Lits.cons (GToken.into (h := h9) (x := (⟨4,ByteArray.empty,0⟩ : GToken)) ) Lits.nil)
        obtain ⟨h10,le5,g2,sp8⟩ := al2.fz st11.has
        have O11 := O10.call0 sp8
        have st12 := st11.call0 sp8
        have R3 : SlR _ _ _ ([(⟨4,ByteArray.empty,0⟩ : GToken)] : List GToken) := Lits.sl (n := 1) (Lits.mono le5 li1) rfl rfl (by decide) g2
        obtain ⟨hs5,H⟩ := cD H
        refine eG (α := GToken) (B := w0.heap.size) (l := y1) (l2 := ([(⟨4,ByteArray.empty,0⟩ : GToken)] : List GToken)) u87 u87 ap118 rfl rfl rfl rfl st12.has st12.sp.size O11 R3 rfl rfl hs5 (fun a3 c3 w10 O12 sp9 bl1 => ?_)
        have st13 := st12.call sp9 (fun x e => (.inl (O11.lbs x e)))
        refine vv rfl (aC (.slice a3 ((y1 ++ ([(⟨4,ByteArray.empty,0⟩ : GToken)] : List GToken)).length) c3) rfl)<|aD ?_
        exact Jj9 le5 st13 s0_j7 rfl s7_j7 s8_j7 rfl O12 H
      refine fa e40_85 (cA hc12) rfl<|aM e40_87 ?_
      exact Jj9 (Le.refl _) st11 s0_j7 s5_j7 s7_j7 s8_j7 rfl O10 H
    refine tr e40_77 (bK (cA hc11)) rfl<|aB e40_78<|aA e40_79<|vv rfl (aE (I i1) s7_j7)<|vv rfl (aC (.slice none 0 0) rfl)<|vv rfl (aC (I i1) rfl)<|vv rfl (aC (I 6) rfl)<|aD ?_
    cases H
    exact aJ e40_80 (res3 Try.results40 rfl rfl rfl ⟨none,0,h9,rfl,st11,(SlR.none _)⟩)
   rcases aN H with ⟨hc9,H⟩ | ⟨hc9,H⟩
   · refine tr e40_66 (dT hc9) rfl<|aM e40_67<|tr e40_69 (dT hc9) rfl<|aA e40_70<|vv rfl (aE (.string p0) s0)<|vv rfl (aE (I i1) s7) ?_
     obtain ⟨hs2,H⟩ := cD H
     refine vv rfl (x_sliceStr (l := i1) (h := (p0.size : Int)) (kl := .i64) (kh := .i64) u9 rfl rfl rfl hs2.1 hs2.2.1 hs2.2.2) ?_
     obtain ⟨r3,hr3,H⟩ := aK H
     refine aU [.string (p0.extract (i1 : Int).toNat ((p0.size : Int) : Int).toNat)] en64 rfl rfl rfl (F64 k st2.has hr3) ?_
     rintro _ w3 ⟨h5,rfl,sp3⟩
     have O4 := O2.call0 sp3
     have st5 := st2.call0 sp3
     refine vv rfl (aC (I r3) rfl)<|aD ?_
     exact Jj7 sp3.le st5 s0 s5 s6 s7 rfl O4 H
   refine fa e40_66 (dF hc9) rfl<|aA e40_68<|vv rfl (aP .eql .i64 r1 2 (.bool (decide (r1 = 2))) 3 3 rfl rfl rfl)<|vv rfl (aC (.bool (decide (r1 = 2))) rfl)<|aD ?_
   rcases aN H with ⟨hc10,H⟩ | ⟨hc10,H⟩
   · refine tr e40_69 (dT hc10) rfl<|aA e40_70<|vv rfl (aE (.string p0) s0)<|vv rfl (aE (I i1) s7) ?_
     obtain ⟨hs3,H⟩ := cD H
     refine vv rfl (x_sliceStr (l := i1) (h := (p0.size : Int)) (kl := .i64) (kh := .i64) u9 rfl rfl rfl hs3.1 hs3.2.1 hs3.2.2) ?_
     obtain ⟨r4,hr4,H⟩ := aK H
     refine aU [.string (p0.extract (i1 : Int).toNat ((p0.size : Int) : Int).toNat)] en64 rfl rfl rfl (F64 k st2.has hr4) ?_
     rintro _ w4 ⟨h6,rfl,sp4⟩
     have O5 := O2.call0 sp4
     have st6 := st2.call0 sp4
     refine vv rfl (aC (I r4) rfl)<|aD ?_
     exact Jj7 sp4.le st6 s0 s5 s6 s7 rfl O5 H
   refine fa e40_69 (dF hc10) rfl<|aM e40_71 ?_
   exact Jj7 (Le.refl _) st2 s0 s5 s6 s7 rfl O2 H
 refine fa e40_25 (dF hc2) rfl<|bM e40_27 rfl<|aB e40_91<|aB e40_92<|aA e40_93<|vv rfl (aE (.slice a1 l1.length c1) s5)<|vv rfl (bN u87 rfl)<|vv rfl (aP .gtr .i64 (l1.length : Int) 4096 (.bool (decide (4096 < (l1.length : Int)))) 3 3 rfl rfl rfl)<|aD ?_
 rcases aN H with ⟨hc3,H⟩ | ⟨hc3,H⟩
 · refine tr e40_94 (dT hc3) rfl<|aB e40_95<|aA e40_96<|vv rfl (aC (.slice none 0 0) rfl)<|vv rfl (aC (I 0) rfl)<|vv rfl (aC (I 2) rfl)<|aD ?_
   cases H
   exact aJ e40_97 (res3 Try.results40 rfl rfl rfl ⟨none,0,h,rfl,st,(SlR.none _)⟩)
 refine fa e40_94 (dF hc3) rfl<|aM e40_98<|aB e40_99<|aA e40_100<|vv rfl (aE (.slice a1 l1.length c1) s5)<|vv rfl (aE (.string p0) s0)<|vv rfl (eB u9 rfl)<|vv rfl (aC (.slice a1 l1.length c1) rfl)<|vv rfl (aC (I (p0.size : Int)) rfl)<|vv rfl (aC (I 0) rfl) ?_
 refine aD ?_
 obtain ⟨h1,le1,st1,R1,kp1⟩ := O1.frz st (Nat.le_refl _)
 cases H
 exact aJ e40_101 (res3 Try.results40 rfl rfl rfl ⟨a1,c1,h1,rfl,st1,R1⟩)
theorem ZSLl40_0_all : ∀ k,ZSLl40_0 k
  | 0 => SLl40_0_z
  | k + 1 => SLl40_0_s k (ZSLl40_0_all k)
theorem Fl40_0 (k : Nat) : SLl40_0 k := (ZSLl40_0_all k)
theorem F40 (k : Nat) : S40 k := by
 intro p0 w0 h0 hh r H
 unfold m40 at H
 refine aO (fn := Try.f40) Try.func40 rfl (Nat.le_of_ble_eq_true rfl) ?_
 show Run X40 [.code c40_0] (fun t => List.getD [.string p0] t undef) w0 (.fn (Q40 w0 h0 r))
 have st0 := St.init hh noM
 refine aB e40_0<|aA e40_1<|vv rfl (aC (.slice none 0 0) rfl)<|vv rfl (aC (I 0) rfl)<|vv rfl (aC (I 0) rfl)<|aD<|run_scope e40_2<|aB e40_3<|aB e40_4<|aA e40_5 ?_
 refine vv rfl (aE (.string p0) rfl)<|vv rfl (eB u9 rfl)<|vv rfl (aP .gtr .i64 (p0.size : Int) 65536 (.bool (decide (65536 < (p0.size : Int)))) 3 3 rfl rfl rfl)<|aD ?_
 rcases aN H with ⟨hc1,H⟩ | ⟨hc1,H⟩
 · refine tr e40_6 (dT hc1) rfl<|aB e40_7<|aA e40_8<|vv rfl (aC (.slice none 0 0) rfl)<|vv rfl (aC (I 0) rfl)<|vv rfl (aC (I 2) rfl)<|aD ?_
   cases H
   exact aJ e40_9 (res3 Try.results40 rfl rfl rfl ⟨none,0,h0,rfl,st0,(SlR.none _)⟩)
 refine fa e40_6 (dF hc1) rfl<|aM e40_10<|aB e40_11<|aA e40_12<|vv rfl (aC (.slice none 0 0) rfl)<|aD<|aB e40_13<|aA e40_14<|vv rfl (aC (.bool false) rfl)<|aD ?_
 refine aB e40_15<|aA e40_16<|vv rfl (aC (I 0) rfl)<|aD<|aB e40_17<|run_label e40_18<|aB e40_19<|aT e40_20<|cB e40_21 ?_
 exact Fl40_0 k st0 rfl rfl rfl rfl (Own.nil _ _ _ _) H
theorem F67 : S67 := by
 intro p0 w0 h0 hh r H
 unfold m67 at H
 refine aO (fn := Try.f67) Try.func67 rfl (Nat.le_of_ble_eq_true rfl) ?_
 show Run X67 [.code c67_0] (fun t => List.getD [.agg #[I p0.Kind,.string p0.S,I p0.N]] t undef) w0 (.fn (Q67 w0 h0 r))
 have st0 := St.init hh noM
 refine aB e67_0<|aA e67_1<|eF (.agg #[I p0.Kind,.string p0.S,I p0.N]) rfl rfl rfl (fun b1 w1 al1 => ?_)
 replace al1 : Al _ (.cells (List.toArray [I p0.Kind,.string p0.S,I p0.N]) 118 (0,0)) b1 w1 := al1
 obtain ⟨h1,le1,g1,sp1⟩ := al1.fz st0.has
 have st1 := st0.call0 sp1
 refine vv rfl (aC (.bool false) rfl)<|aD<|aB e67_2<|aA e67_3<|vv rfl (aF (b := b1) (o := 0) fl118_0 rfl)<|vv rfl (aL (I p0.Kind) sc3 rfl ((aQ (st1.has _ _ g1)).trans rfl))<|vv rfl (aP .eql .i64 p0.Kind 4 (.bool (decide (p0.Kind = 4))) 3 3 rfl rfl rfl)<|vv rfl (aC (.bool (decide (p0.Kind = 4))) rfl)<|aD ?_
 cases H
 exact aJ e67_4 (cG Try.results67 rfl ⟨h1,rfl,st1⟩)
abbrev ZSLl66_0 (k : Nat) : Prop := SLl66_0 k
theorem SLl66_0_z : SLl66_0 0 := by
  unfold SLl66_0; intros; rename_i H; exact absurd H (by simp [l66_0])
theorem SLl66_0_s (k : Nat) (ih : ZSLl66_0 k) : SLl66_0 (k + 1) := by
 intro p0 bA bC j1 w0 w h0 h σ xs1 r st s0 s1 s7 s8 R1 hd1 H
 cases xs1 with
 | nil =>
  rw [l66_0] at H
  have hk1 := cV hd1
  refine aB e66_7<|aA e66_8<|vv rfl (aP .lss .i64 (j1 : Int) (p0.length : Int) (.bool (decide ((j1 : Int) < (p0.length : Int)))) 3 3 s8 s7 rfl)<|aD<|aB e66_9<|fa e66_10 hk1 rfl<|bM e66_12 rfl<|aB e66_25<|aA e66_26<|vv rfl (aC (I (-1)) rfl) ?_
  refine aD ?_
  cases H
  exact aJ e66_27 (cG Try.results66 rfl ⟨h,rfl,st⟩)
 | cons x1 xs2 =>
  rw [l66_0] at H
  obtain ⟨hk2,hj1,hx1,hd2⟩ := cL hd1
  refine aB e66_7<|aA e66_8<|vv rfl (aP .lss .i64 (j1 : Int) (p0.length : Int) (.bool (decide ((j1 : Int) < (p0.length : Int)))) 3 3 s8 s7 rfl)<|aD<|aB e66_9<|tr e66_10 hk2 rfl<|aM e66_11<|aB e66_13<|aT e66_14<|aB e66_15 ?_
  refine aA e66_16<|vv rfl (aE (I (j1 : Int)) s8)<|vv rfl (aC (I (j1 : Int)) rfl)<|aD<|aB e66_17<|aA e66_18<|vv rfl (aE (.func (.func 67) #[] #[]) s1)<|vv rfl (aE (.slice bA p0.length bC) s0)<|vv rfl (aE (I (j1 : Int)) rfl) ?_
  obtain ⟨b1,o1,vs1,ea1,rp1,cl1⟩ := SlR.at R1 hx1
  obtain rfl := GToken.out rp1
  refine vv rfl (aX u87 eH rfl rfl ea1 (Int.natCast_nonneg _) (Int.ofNat_lt.2 hj1))<|vv rfl (bH [I x1.Kind,.string x1.S,I x1.N] ag118 eH rfl rfl (cl1 _ (Has.le (Le.refl _) st.has))) ?_
  obtain ⟨r1,hr1,H⟩ := aK H
  refine dR [] [] [.agg #[I x1.Kind,.string x1.S,I x1.N]] [.agg #[I x1.Kind,.string x1.S,I x1.N]] en67 rfl rfl rfl rfl rfl (F67 (p0 := x1) st.has hr1) ?_
  rintro _ w1 ⟨h1,rfl,sp1⟩
  have st1 := st.call0 sp1
  refine aD ?_
  rcases aN H with ⟨hc1,H⟩ | ⟨hc1,H⟩
  · refine tr e66_19 hc1 rfl<|aB e66_20<|aA e66_21<|vv rfl (aE (I (j1 : Int)) rfl)<|vv rfl (aC (I (j1 : Int)) rfl)<|aD ?_
    cases H
    exact aJ e66_22 (cG Try.results66 rfl ⟨h1,rfl,st1⟩)
  refine fa e66_19 (cA hc1) rfl<|aM e66_23<|aW<|aA e66_24<|vv rfl (aP .add .i64 (j1 : Int) 1 (I ((j1 + 1 : Nat) : Int)) 3 3 s8 rfl (dL hj1 (SlR.mono sp1.le R1).mx))<|vv rfl (aE (I ((j1 + 1 : Nat) : Int)) rfl)<|aD<|bF ?_
  exact ih (j1 := (j1 + 1)) st1 s0 s1 s7 rfl (SlR.mono sp1.le R1) hd2 H
theorem ZSLl66_0_all : ∀ k,ZSLl66_0 k
  | 0 => SLl66_0_z
  | k + 1 => SLl66_0_s k (ZSLl66_0_all k)
theorem Fl66_0 (k : Nat) : SLl66_0 k := (ZSLl66_0_all k)
theorem F66 (k : Nat) : S66 k := by
 intro p0 bA bC w0 h0 hh Rp0 r H
 unfold m66 at H
 refine aO (fn := Try.f66) Try.func66 rfl (Nat.le_of_ble_eq_true rfl) ?_
 show Run X66 [.code c66_0] (fun t => List.getD [.slice bA p0.length bC,.func (.func 67) #[] #[]] t undef) w0 (.fn (Q66 w0 h0 r))
 have st0 := St.init hh noM
 refine aB e66_0<|aA e66_1<|vv rfl (aC (I 0) rfl)<|aD<|aB e66_2<|aB e66_3<|aA e66_4<|vv rfl (aE (.slice bA p0.length bC) rfl)<|vv rfl (bN u87 rfl)<|vv rfl (aE (I 0) rfl) ?_
 refine aD<|aT e66_5<|cB e66_6 ?_
 exact Fl66_0 k (j1 := 0) st0 rfl rfl rfl rfl Rp0 rfl H
theorem F68 : S68 := by
  intro p0 bA bC w0 h0 hh Rp0 r H
  obtain ⟨hs,H⟩ := cD H
  cases H
  refine aO (fn := Try.f68) Try.func68 rfl (Nat.le_of_ble_eq_true rfl) ?_
  show Run X68 [.code c68_0] (fun t => List.getD [.slice bA p0.length bC] t undef) w0 (.fn (Q68 w0 h0 p0))
  have st0 := St.init hh noM
  refine aB e68_0 ?_
  refine aA e68_1 ?_
  refine aZ rfl rfl (aC (.slice none 0 0) rfl) ?_
  refine aD ?_
  refine aB e68_2 ?_
  refine aB e68_3 ?_
  refine aA e68_4 ?_
  refine aZ rfl rfl (aE (.slice bA p0.length bC) rfl) ?_
  refine aZ rfl rfl (x_slNil u87 rfl rfl) ?_
  refine aD ?_
  cases bA with
  | none =>
    have hz := Rp0.nil rfl
    have hl : p0 = [] := List.length_eq_zero_iff.1 (by have := Rp0.lc; omega)
    subst hl
    refine cQ e68_5 rfl rfl ?_
    refine aB e68_6 ?_
    refine aA e68_7 ?_
    refine aZ rfl rfl (aC (.slice none 0 0) rfl) ?_
    refine aD ?_
    exact aJ e68_8 (cG Try.results68 rfl ⟨none,0,h0,rfl,st0,Own.nil _ _ _ _⟩)
  | some A =>
    refine dJ e68_5 rfl rfl ?_
    refine aM e68_9 ?_
    refine aB e68_10 ?_
    refine aA e68_11 ?_
    refine rr_buildSlice0 u87 eH rfl rfl (fun b w1 al => ?_)
    have M := Mut.new st0 al
    have st1 := St.call0 st0 (al.st st0.has)
    have O : Own 118 w0.heap.size _ _ _ _ ([] : List GToken) := Lits.own (n := 0) (Lits.nil (h := h0)) rfl rfl (by decide) M (st0.alB al)
    refine aZ rfl rfl (aE (.slice (some A) p0.length bC) rfl) ?_
    refine eG (α := GToken) (B := w0.heap.size) (l := ([] : List GToken)) (l2 := p0) u87 u87 ap118 rfl rfl rfl rfl st1.has st1.sp.size O Rp0 rfl rfl (by simpa using hs) (fun a c w2 O2 sp bl => ?_)
    refine aZ rfl rfl (aC (.slice a p0.length c) rfl) ?_
    have st2 := St.call st1 sp (fun x e => .inl (Own.lbs O x e))
    refine aD ?_
    exact aJ e68_12 (cG Try.results68 rfl ⟨a,c,h0,rfl,st2,O2⟩)
abbrev ZSLl41_0 (k : Nat) : Prop := SLl41_0 k
theorem SLl41_0_z : SLl41_0 0 := by
  unfold SLl41_0; intros; rename_i H; exact absurd H (by simp [l41_0])
theorem SLl41_0_s (k : Nat) (ih : ZSLl41_0 k) : SLl41_0 (k + 1) := by
 intro w0 w h0 h σ l1 a1 a2 c1 c2 l2 r st s0 s3 R1 O1 H
 rw [l41_0] at H
 refine aB e41_7<|aB e41_8<|aA e41_9<|vv rfl (aE (.slice a1 l1.length c1) s0)<|vv rfl (bN u87 rfl)<|vv rfl (aP .gtr .i64 (l1.length : Int) 0 (.bool (decide (0 < (l1.length : Int)))) 3 3 rfl rfl rfl)<|aD ?_
 rcases aN H with ⟨hc1,H⟩ | ⟨hc1,H⟩
 · refine tr e41_10 (dT hc1) rfl<|aM e41_11<|aT e41_13<|aB e41_14<|aA e41_15<|vv rfl (aE (.slice a1 l1.length c1) s0) ?_
   obtain ⟨r1,hr1,H⟩ := aK H
   refine aU [.slice a1 l1.length c1,.func (.func 67) #[] #[]] en66 rfl rfl rfl (F66 k st.has R1 hr1) ?_
   rintro _ w1 ⟨h2,rfl,sp1⟩
   have O2 := O1.call0 sp1
   have st2 := st.call0 sp1
   refine vv rfl (aC (I r1) rfl)<|aD<|aB e41_16<|aB e41_17<|aA e41_18<|vv rfl (aE (I r1) rfl)<|vv rfl (aP .lss .i64 r1 0 (.bool (decide (r1 < 0))) 3 3 rfl rfl rfl)<|aD ?_
   rcases aN H with ⟨hc2,H⟩ | ⟨hc2,H⟩
   · refine tr e41_19 (dT hc2) rfl<|aB e41_20<|aA e41_21<|vv rfl (aE (.slice a2 l2.length c2) s3)<|vv rfl (aE (.slice a1 l1.length c1) s0) ?_
     obtain ⟨r2,hr2,H⟩ := aK H
     refine aU [.slice a1 l1.length c1] en68 rfl rfl rfl (F68 st2.has (SlR.mono sp1.le R1) hr2) ?_
     rintro _ w2 ⟨a3,c3,h3,rfl,sp2,R3⟩
     have O3 := O2.call0 sp2
     have st3 := st2.call0 sp2
     have O4 := R3.low st2.sp.size
     obtain ⟨h4,le2,st4,R4,kp2⟩ := O4.frz st3 (Nat.le_refl _)
     have O5 := O3.frB le2 kp2 (O3.ne_own O4 (by decide))
     refine cH [.slice none 0 0] [.slice a3 r2.length c3] [(0,.slice a3 r2.length c3)] u90 sz87 zr87 rfl rfl rfl rfl (by kernel_rfl) rfl (by kernel_rfl) (fun b1 w3 al1 => ?_)
     have li1 : Lits h4 [[.slice a3 r2.length c3]] ([r2] : List (List GToken)) := (Lits.cons ⟨_,_,rfl,R4⟩ Lits.nil)
     obtain ⟨h5,le3,g1,sp3⟩ := al1.fz st4.has
     have O6 := O5.call0 sp3
     have st5 := st4.call0 sp3
     have R5 : SlR _ _ _ ([r2] : List (List GToken)) := Lits.sl (n := 1) (Lits.mono le3 li1) rfl rfl (by decide) g1
     obtain ⟨hs1,H⟩ := cD H
     refine eG (α := (List GToken)) (B := w0.heap.size) (l := l2) (l2 := ([r2] : List (List GToken))) u90 u90 ap87 rfl rfl rfl rfl st5.has st5.sp.size O6 R5 rfl rfl hs1 (fun a4 c4 w4 O7 sp4 bl1 => ?_)
     have st6 := st5.call sp4 (fun x e => (.inl (O6.lbs x e)))
     refine vv rfl (aC (.slice a4 ((l2 ++ ([r2] : List (List GToken))).length) c4) rfl)<|aD ?_
     obtain ⟨h6,le4,st7,R6,kp3⟩ := O7.frz st6 (Nat.le_refl _)
     cases H
     exact aJ e41_22 (cG Try.results41 rfl ⟨a4,c4,h6,rfl,st7,R6⟩)
   refine fa e41_19 (dF hc2) rfl<|aM e41_23<|aB e41_24<|aA e41_25<|vv rfl (aE (.slice a2 l2.length c2) s3)<|vv rfl (aE (.slice a1 l1.length c1) s0)<|vv rfl (aE (I r1) rfl) ?_
   obtain ⟨hs2,H⟩ := cD H
   obtain ⟨a5,c5,ha1,hc3,R7⟩ := SlR.slice2 (lo := 0) (hi := r1) (SlR.mono sp1.le R1) hs2.1 hs2.2.1 hs2.2.2
   refine vv rfl (eY (l := 0) (h := r1) (kl := .i64) (kh := .i64) l1 rfl u87 eH rfl rfl rfl hs2.1 hs2.2.1 hs2.2.2 (SlR.mono sp1.le R1).lc ha1 hc3) ?_
   obtain ⟨r3,hr3,H⟩ := aK H
   refine aU [.slice a5 (((l1.take (r1 : Int).toNat).drop (0 : Int).toNat).length) c5] en68 rfl rfl rfl (F68 st2.has R7 hr3) ?_
   rintro _ w5 ⟨a6,c6,h7,rfl,sp5,R8⟩
   have O8 := O2.call0 sp5
   have st8 := st2.call0 sp5
   have O9 := R8.low st2.sp.size
   obtain ⟨h8,le5,st9,R9,kp4⟩ := O9.frz st8 (Nat.le_refl _)
   have O10 := O8.frB le5 kp4 (O8.ne_own O9 (by decide))
   refine cH [.slice none 0 0] [.slice a6 r3.length c6] [(0,.slice a6 r3.length c6)] u90 sz87 zr87 rfl rfl rfl rfl (by kernel_rfl) rfl (by kernel_rfl) (fun b2 w6 al2 => ?_)
   have li2 : Lits h8 [[.slice a6 r3.length c6]] ([r3] : List (List GToken)) := (Lits.cons ⟨_,_,rfl,R9⟩ Lits.nil)
   obtain ⟨h9,le6,g2,sp6⟩ := al2.fz st9.has
   have O11 := O10.call0 sp6
   have st10 := st9.call0 sp6
   have R10 : SlR _ _ _ ([r3] : List (List GToken)) := Lits.sl (n := 1) (Lits.mono le6 li2) rfl rfl (by decide) g2
   obtain ⟨hs3,H⟩ := cD H
   refine eG (α := (List GToken)) (B := w0.heap.size) (l := l2) (l2 := ([r3] : List (List GToken))) u90 u90 ap87 rfl rfl rfl rfl st10.has st10.sp.size O11 R10 rfl rfl hs3 (fun a7 c7 w7 O12 sp7 bl2 => ?_)
   have st11 := st10.call sp7 (fun x e => (.inl (O11.lbs x e)))
   refine vv rfl (aC (.slice a7 ((l2 ++ ([r3] : List (List GToken))).length) c7) rfl)<|aD<|aB e41_26<|aA e41_27<|vv rfl (aE (.slice a1 l1.length c1) s0)<|vv rfl (aE (I r1) rfl)<|vv rfl (aP .add .i64 r1 1 (I (wr (r1 + 1))) 3 3 rfl rfl rfl) ?_
   obtain ⟨hs4,H⟩ := cD H
   obtain ⟨a8,c8,ha2,hc4,R11⟩ := SlR.slice2 (lo := (wr (r1 + 1))) (hi := (l1.length : Int)) (SlR.mono (sp1.le.trans (sp5.le.trans (le5.trans le6))) R1) hs4.1 hs4.2.1 hs4.2.2
   refine vv rfl (eY (l := (wr (r1 + 1))) (h := (l1.length : Int)) (kl := .i64) (kh := .i64) l1 rfl u87 eH rfl rfl rfl hs4.1 hs4.2.1 hs4.2.2 (SlR.mono (sp1.le.trans (sp5.le.trans (le5.trans le6))) R1).lc ha2 hc4)<|vv rfl (aC (.slice a8 (((l1.take ((l1.length : Int) : Int).toNat).drop (wr (r1 + 1) : Int).toNat).length) c8) rfl)<|aD<|aB e41_28<|aA e41_29<|vv rfl (aE (.slice a8 (((l1.take ((l1.length : Int) : Int).toNat).drop (wr (r1 + 1) : Int).toNat).length) c8) rfl)<|vv rfl (bN u87 rfl)<|vv rfl (aP .eql .i64 (((l1.take ((l1.length : Int) : Int).toNat).drop (wr (r1 + 1) : Int).toNat).length : Int) 0 (.bool (decide ((((l1.take ((l1.length : Int) : Int).toNat).drop (wr (r1 + 1) : Int).toNat).length : Int) = 0))) 3 3 rfl rfl rfl)<|aD ?_
   obtain ⟨j3,hj3,H⟩ := dE H
   have Jj3 : ∀ {y1 : (List (List GToken))} {a10 : OA} {c10 : Nat} {σ1 : Env} {w10 : World} {h11 : Sto},Le h9 h11 → St w0 noM h0 h11 w10 → σ1 0 = .slice a8 (((l1.take ((l1.length : Int) : Int).toNat).drop (wr (r1 + 1) : Int).toNat).length) c8 → σ1 3 = .slice a10 y1.length c10 → SlR h11 a8 c8 ((l1.take ((l1.length : Int) : Int).toNat).drop (wr (r1 + 1) : Int).toNat) → Own 87 w0.heap.size h11 w10 a10 c10 y1 → j3 y1 = some r → Run X41 [.inBlock 1,.inLoop c41_7,.inBlock 0,.code c41_33] σ1 w10 (.fn (Q41 w0 h0 r)) := by
    intro y1 a10 c10 σ1 w10 h11 le8 st14 s0_j3 s3_j3 R13 O15 H
    rw [hj3] at H
    refine aW<|bF ?_
    exact ih st14 s0_j3 s3_j3 R13 O15 H
   rcases aN H with ⟨hc5,H⟩ | ⟨hc5,H⟩
   · refine tr e41_30 (dT hc5) rfl<|aA e41_31<|vv rfl (aE (.slice a7 ((l2 ++ ([r3] : List (List GToken))).length) c7) rfl)<|cH [.slice none 0 0] [.slice none 0 0] [(0,.slice none 0 0)] u90 sz87 zr87 rfl rfl rfl rfl (by kernel_rfl) rfl (by kernel_rfl) (fun b3 w8 al3 => ?_)
     have li3 : Lits h9 [[.slice none 0 0]] ([([] : (List GToken))] : List (List GToken)) := (Lits.cons ⟨_,_,rfl,(SlR.none _)⟩ Lits.nil)
     obtain ⟨h10,le7,g3,sp8⟩ := al3.fz st11.has
     have O13 := O12.call0 sp8
     have st12 := st11.call0 sp8
     have R12 : SlR _ _ _ ([([] : (List GToken))] : List (List GToken)) := Lits.sl (n := 1) (Lits.mono le7 li3) rfl rfl (by decide) g3
     obtain ⟨hs5,H⟩ := cD H
     refine eG (α := (List GToken)) (B := w0.heap.size) (l := l2 ++ ([r3] : List (List GToken))) (l2 := ([([] : (List GToken))] : List (List GToken))) u90 u90 ap87 rfl rfl rfl rfl st12.has st12.sp.size O13 R12 rfl rfl hs5 (fun a9 c9 w9 O14 sp9 bl3 => ?_)
     have st13 := st12.call sp9 (fun x e => (.inl (O13.lbs x e)))
     refine vv rfl (aC (.slice a9 (((l2 ++ ([r3] : List (List GToken))) ++ ([([] : (List GToken))] : List (List GToken))).length) c9) rfl)<|aD ?_
     exact Jj3 le7 st13 rfl rfl (SlR.mono le7 R11) O14 H
   refine fa e41_30 (dF hc5) rfl<|aM e41_32 ?_
   exact Jj3 (Le.refl _) st11 rfl rfl R11 O12 H
 refine fa e41_10 (dF hc1) rfl<|bM e41_12 rfl<|aB e41_33<|aA e41_34<|vv rfl (aE (.slice a2 l2.length c2) s3)<|vv rfl (aC (.slice a2 l2.length c2) rfl)<|aD ?_
 obtain ⟨h1,le1,st1,R2,kp1⟩ := O1.frz st (Nat.le_refl _)
 cases H
 exact aJ e41_35 (cG Try.results41 rfl ⟨a2,c2,h1,rfl,st1,R2⟩)
theorem ZSLl41_0_all : ∀ k,ZSLl41_0 k
  | 0 => SLl41_0_z
  | k + 1 => SLl41_0_s k (ZSLl41_0_all k)
theorem Fl41_0 (k : Nat) : SLl41_0 k := (ZSLl41_0_all k)
theorem F41 (k : Nat) : S41 k := by
 intro p0 bA bC w0 h0 hh Rp0 r H
 unfold m41 at H
 refine aO (fn := Try.f41) Try.func41 rfl (Nat.le_of_ble_eq_true rfl) ?_
 show Run X41 [.code c41_0] (fun t => List.getD [.slice bA p0.length bC] t undef) w0 (.fn (Q41 w0 h0 r))
 have st0 := St.init hh noM
 refine aB e41_0<|aA e41_1<|vv rfl (aC (.slice none 0 0) rfl)<|aD<|aB e41_2<|aA e41_3<|vv rfl (aC (.slice none 0 0) rfl)<|aD<|aB e41_4<|aT e41_5 ?_
 refine cB e41_6 ?_
 exact Fl41_0 k st0 rfl rfl Rp0 (Own.nil _ _ _ _) H
theorem F69 : S69 := by
 intro aS bW cJ bX cW w0 h0 hh dY Mp0 r H
 unfold m69 at H
 refine aO (fn := Try.f69) Try.func69 rfl (Nat.le_of_ble_eq_true rfl) ?_
 show Run X69 [.code c69_0] (fun t => List.getD [.pointer (some ⟨aS,0,none⟩)] t undef) w0 (.fn (Q69 w0 h0 aS r))
 have st0 := St.init hh (fun x => x = aS)
 refine aB e69_0<|aA e69_1<|cF (.agg #[I 0,.string ByteArray.empty,I 0]) zr118 rfl rfl (fun b1 w1 al1 => ?_)
 replace al1 : Al _ (.cells (List.toArray [I 0,.string ByteArray.empty,I 0]) 118 (0,0)) b1 w1 := al1
 have M1 := Mut.new st0 al1
 have lb1 := st0.alB al1
 have sp1 := al1.st st0.has
 have M2 := Mp0.call0 sp1
 have st1 := st0.call0 sp1
 refine aD<|aB e69_2<|aB e69_3<|aA e69_4<|vv rfl (aE (.pointer (some ⟨aS,0,none⟩)) rfl)<|vv rfl (bG ⟨aS,0,none⟩ rfl)<|vv rfl (aF (b := aS) (o := 0) fl94_0 rfl)<|vv rfl (aL (.slice bX cJ.length bW) sc87 rfl ((aQ M2.get).trans rfl))<|vv rfl (bN u87 rfl)<|vv rfl (aP .gtr .i64 (cJ.length : Int) 0 (.bool (decide (0 < (cJ.length : Int)))) 3 3 rfl rfl rfl) ?_
 refine aD ?_
 obtain ⟨j1,hj1,H⟩ := dE H
 have Jj1 : ∀ {y1 y3 : Int} {y2 : ByteArray} {σ1 : Env} {w3 : World} {h1 : Sto},Le h0 h1 → St w0 (fun x => x = aS) h0 h1 w3 → σ1 2 = .pointer (some ⟨b1,0,none⟩) → SlR h1 bX bW cJ → Mut h1 w3 aS (.cells (List.toArray [.slice bX cJ.length bW,.bool cW]) 96 (0,0)) → Mut h1 w3 b1 (.cells (List.toArray [I y1,.string y2,I y3]) 118 (0,0)) → j1 y1 y2 y3 = some r → Run X69 [.code c69_8] σ1 w3 (.fn (Q69 w0 h0 aS r)) := by
  intro y1 y3 y2 σ1 w3 h1 le1 st3 s2_j1 R1 M5 M6 H
  rw [hj1] at H
  refine aB e69_8<|aA e69_9<|vv rfl (bH [I y1,.string y2,I y3] ag118 eH s2_j1 rfl (aY M6.get rfl))<|aV (o := 0) (n := 3) [I y1,.string y2,I y3] [I y1,.string y2,I y3] (.agg #[I y1,.string y2,I y3]) eH rfl rfl s2_j1 rfl M6 rfl rfl rfl rfl rfl (fun w4 wr2 M7 => ?_)
  have sp3 := wr2.st st3.has M6.none
  have M8 := M5.call sp3 (fun e => ((Mut.ne_ty M5 M6 (by decide)) e))
  have st4 := st3.call sp3 (fun x e => (.inl (e ▸ lb1)))
  refine aD ?_
  cases H
  exact aJ e69_10 (cG Try.results69 (eI [I y1,.string y2,I y3] ag118 eH s2_j1 rfl (aY M7.get rfl)) ⟨bX,bW,h1,rfl,st4,R1,M8⟩)
 rcases aN H with ⟨hc1,H⟩ | ⟨hc1,H⟩
 · refine tr e69_5 (dT hc1) rfl<|aA e69_6<|vv rfl (aE (.pointer (some ⟨aS,0,none⟩)) rfl)<|vv rfl (bG ⟨aS,0,none⟩ rfl)<|vv rfl (aF (b := aS) (o := 0) fl94_0 rfl)<|vv rfl (aL (.slice bX cJ.length bW) sc87 rfl ((aQ M2.get).trans rfl)) ?_
   obtain ⟨x1,hx1,H⟩ := aK H
   have hi1 := dB hx1
   obtain ⟨b2,o1,vs1,ea1,rp1,cl1⟩ := SlR.at dY hi1.2.2
   obtain rfl := GToken.out rp1
   refine vv rfl (aX u87 eH rfl rfl ea1 hi1.1 hi1.2.1)<|vv rfl (bH [I x1.Kind,.string x1.S,I x1.N] ag118 eH rfl rfl (cl1 _ (Has.le (Le.refl _) st1.has)))<|aV (o := 0) (n := 3) [I x1.Kind,.string x1.S,I x1.N] [I x1.Kind,.string x1.S,I x1.N] (.agg #[I x1.Kind,.string x1.S,I x1.N]) eH rfl rfl rfl rfl M1 rfl rfl rfl rfl rfl (fun w2 wr1 M3 => ?_)
   have sp2 := wr1.st st1.has M1.none
   have M4 := M2.call sp2 (fun e => ((Mut.ne_ty M2 M1 (by decide)) e))
   have st2 := st1.call sp2 (fun x e => (.inl (e ▸ lb1)))
   refine aD ?_
   exact Jj1 (Le.refl _) st2 rfl dY M4 M3 H
 refine fa e69_5 (dF hc1) rfl<|aM e69_7 ?_
 exact Jj1 (Le.refl _) st1 rfl dY M2 M1 H
theorem F42 : S42 := by
 intro aS bW cJ bX cW p1 w0 h0 hh dY Mp0 r H
 unfold m42 at H
 refine aO (fn := Try.f42) Try.func42 rfl (Nat.le_of_ble_eq_true rfl) ?_
 show Run X42 [.code c42_0] (fun t => List.getD [.pointer (some ⟨aS,0,none⟩),.string p1] t undef) w0 (.fn (Q42 w0 h0 aS r))
 have st0 := St.init hh (fun x => x = aS)
 refine aB e42_0<|aA e42_1<|vv rfl (aC (.bool false) rfl)<|aD<|aB e42_2<|aA e42_3<|vv rfl (aE (.pointer (some ⟨aS,0,none⟩)) rfl)<|vv rfl (bG ⟨aS,0,none⟩ rfl)<|vv rfl (aF (b := aS) (o := 0) fl96_0 rfl) ?_
 obtain ⟨r1,hr1,H⟩ := aK H
 refine aU [.pointer (some ⟨aS,0,none⟩)] en69 rfl rfl rfl (F69 st0.has dY Mp0 hr1) ?_
 rintro _ w1 ⟨a1,c1,h1,rfl,sp1,R1,M1⟩
 have st1 := st0.call sp1 (fun x e => (.inr e))
 refine cF (.agg #[I 0,.string ByteArray.empty,I 0]) zr118 rfl rfl (fun b1 w2 al1 => ?_)
 replace al1 : Al _ (.cells (List.toArray [I 0,.string ByteArray.empty,I 0]) 118 (0,0)) b1 w2 := al1
 have M2 := Mut.new st1 al1
 have lb1 := st1.alB al1
 have sp2 := al1.st st1.has
 have M3 := M1.call0 sp2
 have st2 := st1.call0 sp2
 refine aV (o := 0) (n := 3) [I r1.1.Kind,.string r1.1.S,I r1.1.N] [I r1.1.Kind,.string r1.1.S,I r1.1.N] (.agg #[I r1.1.Kind,.string r1.1.S,I r1.1.N]) eH rfl rfl rfl rfl M2 rfl rfl rfl rfl rfl (fun w3 wr1 M4 => ?_)
 have sp3 := wr1.st st2.has M2.none
 have M5 := M3.call sp3 (fun e => ((Mut.ne_ty M3 M2 (by decide)) e))
 have st3 := st2.call sp3 (fun x e => (.inl (e ▸ lb1)))
 obtain ⟨h2,le1,g1,st4,kp1⟩ := M4.fz st3 lb1
 have M6 := M5.fr kp1 (Mut.ne_ty M5 M4 (by decide))
 refine aD<|aB e42_4<|aA e42_5 ?_
 obtain ⟨j1,hj1,H⟩ := dE H
 have Jj1 : ∀ {y1 : Bool} {σ1 : Env} {w4 : World} {h3 : Sto},Le h2 h3 → St w0 (fun x => x = aS) h0 h3 w4 → σ1 4 = .bool y1 → SlR h3 a1 c1 r1.2.1 → Mut h3 w4 aS (.cells (List.toArray [.slice a1 r1.2.1.length c1,.bool r1.2.2]) 96 (0,0)) → j1 y1 = some r → Run X42 [.code c42_6] σ1 w4 (.fn (Q42 w0 h0 aS r)) := by
  intro y1 σ1 w4 h3 le2 st5 s4_j1 R2 M7 H
  rw [hj1] at H
  cases H
  exact aJ e42_6 (cG Try.results42 s4_j1 ⟨a1,c1,h3,rfl,st5,R2,M7⟩)
 refine vv rfl (aE (.pointer (some ⟨aS,0,none⟩)) rfl)<|vv rfl (bG ⟨aS,0,none⟩ rfl)<|vv rfl (aF (b := aS) (o := 0) fl96_1 rfl)<|vv rfl (aL (.bool r1.2.2) sc4 rfl ((aQ M6.get).trans rfl))<|vv rfl (eA r1.2.2 4 rfl)<|vv rfl (aE (.bool (!r1.2.2)) rfl) ?_
 rcases aN H with ⟨hc1,H⟩ | ⟨hc1,H⟩
 · refine aR (wf2 (bL hc1) rfl) rfl<|aR (wf2 (bL hc1) rfl) rfl<|aR (wf2 (bL hc1) rfl) rfl<|aR (wf2 (bL hc1) rfl) rfl<|vv rfl (dI (.bool false) (bL hc1) rfl rfl)<|vv rfl (aE (.bool false) rfl)<|aR (wf (p := false) rfl rfl) rfl<|aR (wf (p := false) rfl rfl) rfl<|aR (wf (p := false) rfl rfl) rfl<|aR (wf (p := false) rfl rfl) rfl ?_
   refine aR (wu rfl) rfl<|aR (wu rfl) rfl<|aR (wu rfl) rfl<|aR (wf (p := false) rfl rfl) rfl<|vv rfl (cI (.bool false) (p := false) rfl rfl rfl)<|vv rfl (aC (.bool false) rfl)<|aD ?_
   exact Jj1 (Le.refl _) st4 rfl (SlR.mono le1 R1) M6 H
 refine aZ (wt2 (bK (cA hc1)) rfl) rfl (aF (b := b1) (o := 0) fl118_1 rfl)<|aZ (wt2 (bK (cA hc1)) rfl) rfl (aL (.string r1.1.S) sc9 rfl ((aQ (st4.has _ _ g1)).trans rfl))<|aZ (wt2 (bK (cA hc1)) rfl) rfl (aE (.string p1) rfl)<|aZ (wt2 (bK (cA hc1)) rfl) rfl (x_strEq r1.1.S p1 9 9 rfl rfl)<|vv rfl (dH (.bool (decide (r1.1.S = p1))) (bK (cA hc1)) rfl rfl)<|vv rfl (aE (.bool (decide (r1.1.S = p1))) rfl) ?_
 rcases aN H with ⟨hc2,H⟩ | ⟨hc2,H⟩
 · refine aZ (wt2 (dT hc2) rfl) rfl (aF (b := b1) (o := 0) fl118_0 rfl)<|aZ (wt2 (dT hc2) rfl) rfl (aL (I r1.1.Kind) sc3 rfl ((aQ (st4.has _ _ g1)).trans rfl))<|aZ (wt2 (dT hc2) rfl) rfl (aP .eql .i64 r1.1.Kind 3 (.bool (decide (r1.1.Kind = 3))) 3 3 rfl rfl rfl)<|aZ (wt2 (dT hc2) rfl) rfl (aE (.bool (decide (r1.1.Kind = 3))) rfl) ?_
   rcases aN H with ⟨hc3,H⟩ | ⟨hc3,H⟩
   · refine aR (wf2 (dT hc3) rfl) rfl<|aR (wf2 (dT hc3) rfl) rfl<|aR (wf2 (dT hc3) rfl) rfl<|aZ (wt2 (dT hc2) rfl) rfl (dH (.bool true) (dT hc3) rfl rfl)<|vv rfl (dH (.bool true) (dT hc2) rfl rfl)<|vv rfl (aC (.bool true) rfl)<|aD ?_
     exact Jj1 (Le.refl _) st4 rfl (SlR.mono le1 R1) M6 H
   refine aZ (wt2 (dF hc3) rfl) rfl (aF (b := b1) (o := 0) fl118_0 rfl)<|aZ (wt2 (dF hc3) rfl) rfl (aL (I r1.1.Kind) sc3 rfl ((aQ (st4.has _ _ g1)).trans rfl))<|aZ (wt2 (dF hc3) rfl) rfl (aP .eql .i64 r1.1.Kind 1 (.bool (decide (r1.1.Kind = 1))) 3 3 rfl rfl rfl)<|aZ (wt2 (dT hc2) rfl) rfl (dI (.bool (decide (r1.1.Kind = 1))) (dF hc3) rfl rfl)<|vv rfl (dH (.bool (decide (r1.1.Kind = 1))) (dT hc2) rfl rfl)<|vv rfl (aC (.bool (decide (r1.1.Kind = 1))) rfl)<|aD ?_
   exact Jj1 (Le.refl _) st4 rfl (SlR.mono le1 R1) M6 H
 refine aR (wf2 (dF hc2) rfl) rfl<|aR (wf2 (dF hc2) rfl) rfl<|aR (wf2 (dF hc2) rfl) rfl<|aR (wf2 (dF hc2) rfl) rfl<|aR (wu rfl) rfl<|aR (wu rfl) rfl<|aR (wu rfl) rfl<|aR (wf2 (dF hc2) rfl) rfl<|vv rfl (dI (.bool false) (dF hc2) rfl rfl)<|vv rfl (aC (.bool false) rfl) ?_
 refine aD ?_
 exact Jj1 (Le.refl _) st4 rfl (SlR.mono le1 R1) M6 H
theorem F88 : S88 := by
 intro aS bW cJ bX cW p1 w0 h0 hh dY Mp0 r H
 unfold m88 at H
 refine aO (fn := Try.f88) Try.func88 rfl (Nat.le_of_ble_eq_true rfl) ?_
 show Run X88 [.code c88_0] (fun t => List.getD [.pointer (some ⟨aS,0,none⟩),.string p1] t undef) w0 (.fn (Q88 w0 h0 aS r))
 have st0 := St.init hh (fun x => x = aS)
 refine aB e88_0<|aA e88_1<|vv rfl (aC (.bool false) rfl)<|aD<|aB e88_2<|aA e88_3<|vv rfl (aE (.pointer (some ⟨aS,0,none⟩)) rfl)<|vv rfl (aE (.string p1) rfl) ?_
 obtain ⟨r1,hr1,H⟩ := aK H
 refine aU [.pointer (some ⟨aS,0,none⟩),.string p1] en42 rfl rfl rfl (F42 st0.has dY Mp0 hr1) ?_
 rintro _ w1 ⟨a1,c1,h1,rfl,sp1,R1,M1⟩
 have st1 := st0.call sp1 (fun x e => (.inr e))
 refine vv rfl (aC (.bool r1.1) rfl)<|aD<|aB e88_4<|aB e88_5<|aA e88_6<|vv rfl (aE (.bool r1.1) rfl)<|aD ?_
 obtain ⟨j1,hj1,H⟩ := dE H
 have Jj1 : ∀ {y1 : (List GToken)} {a3 : OA} {c3 : Nat} {σ1 : Env} {w3 : World} {h2 : Sto},Le h1 h2 → St w0 (fun x => x = aS) h0 h2 w3 → σ1 5 = .bool r1.1 → SlR h2 a3 c3 y1 → Mut h2 w3 aS (.cells (List.toArray [.slice a3 y1.length c3,.bool r1.2.2]) 96 (0,0)) → j1 y1 = some r → Run X88 [.code c88_10] σ1 w3 (.fn (Q88 w0 h0 aS r)) := by
  intro y1 a3 c3 σ1 w3 h2 le1 st3 s5_j1 R3 M3 H
  rw [hj1] at H
  refine aB e88_10<|aA e88_11<|vv rfl (aE (.bool r1.1) s5_j1)<|vv rfl (aC (.bool r1.1) rfl)<|aD ?_
  cases H
  exact aJ e88_12 (cG Try.results88 rfl ⟨a3,c3,h2,rfl,st3,R3,M3⟩)
 rcases aN H with ⟨hc1,H⟩ | ⟨hc1,H⟩
 · refine tr e88_7 hc1 rfl<|aA e88_8<|vv rfl (aE (.pointer (some ⟨aS,0,none⟩)) rfl)<|vv rfl (aE (.pointer (some ⟨aS,0,none⟩)) rfl)<|vv rfl (bG ⟨aS,0,none⟩ rfl)<|vv rfl (aF (b := aS) (o := 0) fl96_0 rfl)<|vv rfl (aF (b := aS) (o := 0) fl94_0 rfl)<|vv rfl (aL (.slice a1 r1.2.1.length c1) sc87 rfl ((aQ M1.get).trans rfl)) ?_
   obtain ⟨hs1,H⟩ := cD H
   obtain ⟨a2,c2,ha1,hc2,R2⟩ := SlR.slice2 (lo := 1) (hi := (r1.2.1.length : Int)) R1 hs1.1 hs1.2.1 hs1.2.2
   refine vv rfl (eY (l := 1) (h := (r1.2.1.length : Int)) (kl := .i64) (kh := .i64) r1.2.1 rfl u87 eH rfl rfl rfl hs1.1 hs1.2.1 hs1.2.2 R1.lc ha1 hc2)<|vv rfl (bG ⟨aS,0,none⟩ rfl)<|vv rfl (aF (b := aS) (o := 0) fl96_0 rfl)<|vv rfl (aF (b := aS) (o := 0) fl94_0 rfl)<|aV (o := 0) (n := 1) [.slice a2 (((r1.2.1.take ((r1.2.1.length : Int) : Int).toNat).drop (1 : Int).toNat).length) c2] [.slice a2 (((r1.2.1.take ((r1.2.1.length : Int) : Int).toNat).drop (1 : Int).toNat).length) c2,.bool r1.2.2] (.slice a2 (((r1.2.1.take ((r1.2.1.length : Int) : Int).toNat).drop (1 : Int).toNat).length) c2) sz87 rfl rfl rfl rfl M1 rfl rfl rfl rfl rfl (fun w2 wr1 M2 => ?_)
   have sp2 := wr1.st st1.has M1.none
   have st2 := st1.call sp2 (fun x e => (.inr e))
   refine aD ?_
   exact Jj1 (Le.refl _) st2 rfl R2 M2 H
 refine fa e88_7 (cA hc1) rfl<|aM e88_9 ?_
 exact Jj1 (Le.refl _) st1 rfl R1 M1 H
theorem F70 : S70 := by
 intro aS bW cJ bX cW p1 w0 h0 hh dY Mp0 r H
 unfold m70 at H
 refine aO (fn := Try.f70) Try.func70 rfl (Nat.le_of_ble_eq_true rfl) ?_
 show Run X70 [.code c70_0] (fun t => List.getD [.pointer (some ⟨aS,0,none⟩),.string p1] t undef) w0 (.fn (Q70 w0 h0 aS r))
 have st0 := St.init hh (fun x => x = aS)
 refine aB e70_0<|aA e70_1<|vv rfl (aE (.pointer (some ⟨aS,0,none⟩)) rfl)<|vv rfl (aE (.string p1) rfl) ?_
 obtain ⟨r1,hr1,H⟩ := aK H
 refine aU [.pointer (some ⟨aS,0,none⟩),.string p1] en88 rfl rfl rfl (F88 st0.has dY Mp0 hr1) ?_
 rintro _ w1 ⟨a1,c1,h1,rfl,sp1,R1,M1⟩
 have st1 := st0.call sp1 (fun x e => (.inr e))
 refine vv rfl (eA r1.1 4 rfl)<|aD ?_
 obtain ⟨j1,hj1,H⟩ := dE H
 have Jj1 : ∀ {y1 : Bool} {σ1 : Env} {w3 : World} {h2 : Sto},Le h1 h2 → St w0 (fun x => x = aS) h0 h2 w3 → SlR h2 a1 c1 r1.2.1 → Mut h2 w3 aS (.cells (List.toArray [.slice a1 r1.2.1.length c1,.bool y1]) 96 (0,0)) → j1 y1 = some r → Run X70 [] σ1 w3 (.fn (Q70 w0 h0 aS r)) := by
  intro y1 σ1 w3 h2 le1 st3 R2 M3 H
  rw [hj1] at H
  cases H
  exact run_end (res0 Try.results70 ⟨a1,c1,h2,rfl,st3,R2,M3⟩)
 rcases aN H with ⟨hc1,H⟩ | ⟨hc1,H⟩
 · refine fa e70_2 (bL hc1) rfl<|aM e70_4 ?_
   exact Jj1 (Le.refl _) st1 R1 M1 H
 refine tr e70_2 (bK (cA hc1)) rfl<|aA e70_3<|vv rfl (aE (.pointer (some ⟨aS,0,none⟩)) rfl)<|vv rfl (bG ⟨aS,0,none⟩ rfl)<|vv rfl (aF (b := aS) (o := 0) fl96_1 rfl)<|aV (o := 1) (n := 1) [.bool true] [.slice a1 r1.2.1.length c1,.bool true] (.bool true) sz4 rfl rfl rfl rfl M1 rfl rfl rfl rfl rfl (fun w2 wr1 M2 => ?_)
 have sp2 := wr1.st st1.has M1.none
 have st2 := st1.call sp2 (fun x e => (.inr e))
 refine aD ?_
 exact Jj1 (Le.refl _) st2 R1 M2 H
theorem F74 : S74 := by
 intro aS bW cJ bX cW p1 w0 h0 hh dY Mp0 r H
 unfold m74 at H
 refine aO (fn := Try.f74) Try.func74 rfl (Nat.le_of_ble_eq_true rfl) ?_
 show Run X74 [.code c74_0] (fun t => List.getD [.pointer (some ⟨aS,0,none⟩),I p1] t undef) w0 (.fn (Q74 w0 h0 aS r))
 have st0 := St.init hh (fun x => x = aS)
 refine aB e74_0<|aA e74_1<|cF (.agg #[I 0,.string ByteArray.empty,I 0]) zr118 rfl rfl (fun b1 w1 al1 => ?_)
 replace al1 : Al _ (.cells (List.toArray [I 0,.string ByteArray.empty,I 0]) 118 (0,0)) b1 w1 := al1
 have M1 := Mut.new st0 al1
 have lb1 := st0.alB al1
 have sp1 := al1.st st0.has
 have M2 := Mp0.call0 sp1
 have st1 := st0.call0 sp1
 refine aD<|aB e74_2<|aA e74_3<|vv rfl (aE (.pointer (some ⟨aS,0,none⟩)) rfl)<|vv rfl (bG ⟨aS,0,none⟩ rfl)<|vv rfl (aF (b := aS) (o := 0) fl96_0 rfl) ?_
 obtain ⟨r1,hr1,H⟩ := aK H
 refine aU [.pointer (some ⟨aS,0,none⟩)] en69 rfl rfl rfl (F69 st1.has dY M2 hr1) ?_
 rintro _ w2 ⟨a1,c1,h1,rfl,sp2,R1,M3⟩
 have M4 := M1.call sp2 (fun e => ((Mut.ne_ty M1 M2 (by decide)) e))
 have st2 := st1.call sp2 (fun x e => (.inr e))
 refine cF (.agg #[I 0,.string ByteArray.empty,I 0]) zr118 rfl rfl (fun b2 w3 al2 => ?_)
 replace al2 : Al _ (.cells (List.toArray [I 0,.string ByteArray.empty,I 0]) 118 (0,0)) b2 w3 := al2
 have ne1 := M4.ne_al al2
 have M5 := Mut.new st2 al2
 have lb2 := st2.alB al2
 have sp3 := al2.st st2.has
 have M6 := M3.call0 sp3
 have M7 := M4.call0 sp3
 have st3 := st2.call0 sp3
 refine aV (o := 0) (n := 3) [I r1.1.Kind,.string r1.1.S,I r1.1.N] [I r1.1.Kind,.string r1.1.S,I r1.1.N] (.agg #[I r1.1.Kind,.string r1.1.S,I r1.1.N]) eH rfl rfl rfl rfl M5 rfl rfl rfl rfl rfl (fun w4 wr1 M8 => ?_)
 have sp4 := wr1.st st3.has M5.none
 have M9 := M6.call sp4 (fun e => ((Mut.ne_ty M6 M5 (by decide)) e))
 have M10 := M7.call sp4 (fun e => (ne1 e))
 have st4 := st3.call sp4 (fun x e => (.inl (e ▸ lb2)))
 obtain ⟨h2,le1,g1,st5,kp1⟩ := M8.fz st4 lb2
 have M11 := M9.fr kp1 (Mut.ne_ty M9 M8 (by decide))
 have M12 := M10.fr kp1 ne1
 refine aD<|aB e74_4<|aB e74_5<|aA e74_6<|vv rfl (aE (.pointer (some ⟨aS,0,none⟩)) rfl)<|vv rfl (bG ⟨aS,0,none⟩ rfl)<|vv rfl (aF (b := aS) (o := 0) fl96_1 rfl)<|vv rfl (aL (.bool r1.2.2) sc4 rfl ((aQ M11.get).trans rfl))<|vv rfl (aE (.bool r1.2.2) rfl) ?_
 rcases aN H with ⟨hc1,H⟩ | ⟨hc1,H⟩
 · refine aR (wf2 hc1 rfl) rfl<|aR (wf2 hc1 rfl) rfl<|aR (wf2 hc1 rfl) rfl<|aR (wf2 hc1 rfl) rfl<|vv rfl (dH (.bool true) hc1 rfl rfl)<|aD<|cQ e74_7 (p := true) rfl rfl<|aB e74_8<|aA e74_9<|vv rfl (aE (.pointer (some ⟨aS,0,none⟩)) rfl) ?_
   refine vv rfl (bG ⟨aS,0,none⟩ rfl)<|vv rfl (aF (b := aS) (o := 0) fl96_1 rfl)<|aV (o := 1) (n := 1) [.bool true] [.slice a1 r1.2.1.length c1,.bool true] (.bool true) sz4 rfl rfl rfl rfl M11 rfl rfl rfl rfl rfl (fun w5 wr2 M13 => ?_)
   have sp5 := wr2.st st5.has M11.none
   have M14 := M12.call sp5 (fun e => ((Mut.ne_ty M12 M11 (by decide)) e))
   have st6 := st5.call sp5 (fun x e => (.inr e))
   refine aD<|aB e74_10<|aA e74_11<|vv rfl (dK (vs := [I 0,.string ByteArray.empty,I 0]) [] bd118 rfl rfl)<|aV (o := 0) (n := 3) [I 0,.string ByteArray.empty,I 0] [I 0,.string ByteArray.empty,I 0] (.agg #[I 0,.string ByteArray.empty,I 0]) eH rfl rfl rfl rfl M14 rfl rfl rfl rfl rfl (fun w6 wr3 M15 => ?_)
   have sp6 := wr3.st st6.has M14.none
   have M16 := M13.call sp6 (fun e => ((Mut.ne_ty M13 M14 (by decide)) e))
   have st7 := st6.call sp6 (fun x e => (.inl (e ▸ lb1)))
   refine aD ?_
   cases H
   exact aJ e74_12 (cG Try.results74 (eI [I 0,.string ByteArray.empty,I 0] ag118 eH rfl rfl (aY M15.get rfl)) ⟨a1,c1,h2,rfl,st7,(SlR.mono le1 R1),M16⟩)
 refine aZ (wt2 (cA hc1) rfl) rfl (aF (b := b2) (o := 0) fl118_0 rfl)<|aZ (wt2 (cA hc1) rfl) rfl (aL (I r1.1.Kind) sc3 rfl ((aQ (st5.has _ _ g1)).trans rfl))<|aZ (wt2 (cA hc1) rfl) rfl (aE (I p1) rfl)<|aZ (wt2 (cA hc1) rfl) rfl (aP .neq .i64 r1.1.Kind p1 (.bool (!decide (r1.1.Kind = p1))) 3 3 rfl rfl rfl)<|vv rfl (dI (.bool (!decide (r1.1.Kind = p1))) (cA hc1) rfl rfl)<|aD ?_
 rcases aN H with ⟨hc2,H⟩ | ⟨hc2,H⟩
 · refine fa e74_7 (bL (dT hc2)) rfl<|aM e74_13<|aB e74_14<|aA e74_15<|vv rfl (aE (.pointer (some ⟨aS,0,none⟩)) rfl)<|vv rfl (aE (.pointer (some ⟨aS,0,none⟩)) rfl)<|vv rfl (bG ⟨aS,0,none⟩ rfl)<|vv rfl (aF (b := aS) (o := 0) fl96_0 rfl)<|vv rfl (aF (b := aS) (o := 0) fl94_0 rfl)<|vv rfl (aL (.slice a1 r1.2.1.length c1) sc87 rfl ((aQ M11.get).trans rfl)) ?_
   obtain ⟨hs1,H⟩ := cD H
   obtain ⟨a2,c2,ha1,hc3,R2⟩ := SlR.slice2 (lo := 1) (hi := (r1.2.1.length : Int)) (SlR.mono le1 R1) hs1.1 hs1.2.1 hs1.2.2
   refine vv rfl (eY (l := 1) (h := (r1.2.1.length : Int)) (kl := .i64) (kh := .i64) r1.2.1 rfl u87 eH rfl rfl rfl hs1.1 hs1.2.1 hs1.2.2 (SlR.mono le1 R1).lc ha1 hc3)<|vv rfl (bG ⟨aS,0,none⟩ rfl)<|vv rfl (aF (b := aS) (o := 0) fl96_0 rfl)<|vv rfl (aF (b := aS) (o := 0) fl94_0 rfl)<|aV (o := 0) (n := 1) [.slice a2 (((r1.2.1.take ((r1.2.1.length : Int) : Int).toNat).drop (1 : Int).toNat).length) c2] [.slice a2 (((r1.2.1.take ((r1.2.1.length : Int) : Int).toNat).drop (1 : Int).toNat).length) c2,.bool r1.2.2] (.slice a2 (((r1.2.1.take ((r1.2.1.length : Int) : Int).toNat).drop (1 : Int).toNat).length) c2) sz87 rfl rfl rfl rfl M11 rfl rfl rfl rfl rfl (fun w9 wr6 M21 => ?_)
   have sp9 := wr6.st st5.has M11.none
   have M22 := M12.call sp9 (fun e => ((Mut.ne_ty M12 M11 (by decide)) e))
   have st10 := st5.call sp9 (fun x e => (.inr e))
   refine aD<|aB e74_16<|aA e74_17<|vv rfl (bH [I r1.1.Kind,.string r1.1.S,I r1.1.N] ag118 eH rfl rfl (aY (st10.has _ _ g1) rfl))<|aV (o := 0) (n := 3) [I r1.1.Kind,.string r1.1.S,I r1.1.N] [I r1.1.Kind,.string r1.1.S,I r1.1.N] (.agg #[I r1.1.Kind,.string r1.1.S,I r1.1.N]) eH rfl rfl rfl rfl M22 rfl rfl rfl rfl rfl (fun w10 wr7 M23 => ?_)
   have sp10 := wr7.st st10.has M22.none
   have M24 := M21.call sp10 (fun e => ((Mut.ne_ty M21 M22 (by decide)) e))
   have st11 := st10.call sp10 (fun x e => (.inl (e ▸ lb1)))
   refine aD ?_
   cases H
   exact aJ e74_18 (cG Try.results74 (eI [I r1.1.Kind,.string r1.1.S,I r1.1.N] ag118 eH rfl rfl (aY M23.get rfl)) ⟨a2,c2,h2,rfl,st11,R2,M24⟩)
 refine tr e74_7 (bK (dF hc2)) rfl<|aB e74_8<|aA e74_9<|vv rfl (aE (.pointer (some ⟨aS,0,none⟩)) rfl)<|vv rfl (bG ⟨aS,0,none⟩ rfl)<|vv rfl (aF (b := aS) (o := 0) fl96_1 rfl)<|aV (o := 1) (n := 1) [.bool true] [.slice a1 r1.2.1.length c1,.bool true] (.bool true) sz4 rfl rfl rfl rfl M11 rfl rfl rfl rfl rfl (fun w7 wr4 M17 => ?_)
 have sp7 := wr4.st st5.has M11.none
 have M18 := M12.call sp7 (fun e => ((Mut.ne_ty M12 M11 (by decide)) e))
 have st8 := st5.call sp7 (fun x e => (.inr e))
 refine aD<|aB e74_10<|aA e74_11<|vv rfl (dK (vs := [I 0,.string ByteArray.empty,I 0]) [] bd118 rfl rfl)<|aV (o := 0) (n := 3) [I 0,.string ByteArray.empty,I 0] [I 0,.string ByteArray.empty,I 0] (.agg #[I 0,.string ByteArray.empty,I 0]) eH rfl rfl rfl rfl M18 rfl rfl rfl rfl rfl (fun w8 wr5 M19 => ?_)
 have sp8 := wr5.st st8.has M18.none
 have M20 := M17.call sp8 (fun e => ((Mut.ne_ty M17 M18 (by decide)) e))
 have st9 := st8.call sp8 (fun x e => (.inl (e ▸ lb1)))
 refine aD ?_
 cases H
 exact aJ e74_12 (cG Try.results74 (eI [I 0,.string ByteArray.empty,I 0] ag118 eH rfl rfl (aY M19.get rfl)) ⟨a1,c1,h2,rfl,st9,(SlR.mono le1 R1),M20⟩)
theorem F71 (k : Nat) : S71 k := by
 intro aS bW cJ bX cW w0 h0 hh dY Mp0 r H
 unfold m71 at H
 refine aO (fn := Try.f71) Try.func71 rfl (Nat.le_of_ble_eq_true rfl) ?_
 show Run X71 [.code c71_0] (fun t => List.getD [.pointer (some ⟨aS,0,none⟩)] t undef) w0 (.fn (Q71 w0 h0 aS r))
 have st0 := St.init hh (fun x => x = aS)
 refine aB e71_0<|aA e71_1<|vv rfl (aC (.string ByteArray.empty) rfl)<|aD<|aB e71_2<|aA e71_3<|vv rfl (aE (.pointer (some ⟨aS,0,none⟩)) rfl) ?_
 obtain ⟨r1,hr1,H⟩ := aK H
 refine aU [.pointer (some ⟨aS,0,none⟩),I 1] en74 rfl rfl rfl (F74 st0.has dY Mp0 hr1) ?_
 rintro _ w1 ⟨a1,c1,h1,rfl,sp1,R1,M1⟩
 have st1 := st0.call sp1 (fun x e => (.inr e))
 refine vv rfl (x_fS (.string r1.1.S) ft118_1 sc9 rfl rfl)<|vv rfl (aC (.string r1.1.S) rfl)<|aD<|aB e71_4<|aB e71_5<|aA e71_6<|vv rfl (aE (.string r1.1.S) rfl) ?_
 obtain ⟨r2,hr2,H⟩ := aK H
 refine aU [.string r1.1.S] en46 rfl rfl rfl (F46 k st1.has hr2) ?_
 rintro _ w2 ⟨h2,rfl,sp2⟩
 have M2 := M1.call0 sp2
 have st2 := st1.call0 sp2
 refine vv rfl (eA r2 4 rfl)<|aD ?_
 obtain ⟨j1,hj1,H⟩ := dE H
 have Jj1 : ∀ {y1 : Bool} {σ1 : Env} {w4 : World} {h3 : Sto},Le h2 h3 → St w0 (fun x => x = aS) h0 h3 w4 → σ1 3 = .string r1.1.S → SlR h3 a1 c1 r1.2.1 → Mut h3 w4 aS (.cells (List.toArray [.slice a1 r1.2.1.length c1,.bool y1]) 96 (0,0)) → j1 y1 = some r → Run X71 [.code c71_10] σ1 w4 (.fn (Q71 w0 h0 aS r)) := by
  intro y1 σ1 w4 h3 le1 st4 s3_j1 R2 M4 H
  rw [hj1] at H
  refine aB e71_10<|aA e71_11<|vv rfl (aE (.string r1.1.S) s3_j1)<|vv rfl (aC (.string r1.1.S) rfl)<|aD ?_
  cases H
  exact aJ e71_12 (cG Try.results71 rfl ⟨a1,c1,h3,rfl,st4,R2,M4⟩)
 rcases aN H with ⟨hc1,H⟩ | ⟨hc1,H⟩
 · refine fa e71_7 (bL hc1) rfl<|aM e71_9 ?_
   exact Jj1 (Le.refl _) st2 rfl (SlR.mono sp2.le R1) M2 H
 refine tr e71_7 (bK (cA hc1)) rfl<|aA e71_8<|vv rfl (aE (.pointer (some ⟨aS,0,none⟩)) rfl)<|vv rfl (bG ⟨aS,0,none⟩ rfl)<|vv rfl (aF (b := aS) (o := 0) fl96_1 rfl)<|aV (o := 1) (n := 1) [.bool true] [.slice a1 r1.2.1.length c1,.bool true] (.bool true) sz4 rfl rfl rfl rfl M2 rfl rfl rfl rfl rfl (fun w3 wr1 M3 => ?_)
 have sp3 := wr1.st st2.has M2.none
 have st3 := st2.call sp3 (fun x e => (.inr e))
 refine aD ?_
 exact Jj1 (Le.refl _) st3 rfl (SlR.mono sp2.le R1) M3 H
theorem F73 : S73 := by
 intro aS bW cJ bX cW w0 h0 hh dY Mp0 r H
 unfold m73 at H
 refine aO (fn := Try.f73) Try.func73 rfl (Nat.le_of_ble_eq_true rfl) ?_
 show Run X73 [.code c73_0] (fun t => List.getD [.pointer (some ⟨aS,0,none⟩)] t undef) w0 (.fn (Q73 w0 h0 aS r))
 have st0 := St.init hh (fun x => x = aS)
 refine aB e73_0<|aA e73_1<|vv rfl (aC (I 0) rfl)<|aD<|aB e73_2<|aA e73_3<|vv rfl (aE (.pointer (some ⟨aS,0,none⟩)) rfl) ?_
 obtain ⟨r1,hr1,H⟩ := aK H
 refine aU [.pointer (some ⟨aS,0,none⟩),I 2] en74 rfl rfl rfl (F74 st0.has dY Mp0 hr1) ?_
 rintro _ w1 ⟨a1,c1,h1,rfl,sp1,R1,M1⟩
 have st1 := st0.call sp1 (fun x e => (.inr e))
 refine vv rfl (x_fS (I r1.1.N) ft118_2 sc2 rfl rfl)<|vv rfl (aC (I r1.1.N) rfl)<|aD ?_
 cases H
 exact aJ e73_4 (cG Try.results73 rfl ⟨a1,c1,h1,rfl,st1,R1,M1⟩)
abbrev ZSLl72_0 (k : Nat) : Prop := SLl72_0 k
theorem SLl72_0_z : SLl72_0 0 := by
  unfold SLl72_0; intros; rename_i H; exact absurd H (by simp [l72_0])
theorem SLl72_0_s (k : Nat) (ih : ZSLl72_0 k) : SLl72_0 (k + 1) := by
 intro aS c3 c4 w0 w h0 h σ l1 a3 a4 b1 b2 l2 r st s0 s1 s4 s5 R3 M3 O1 H
 rw [l72_0] at H
 refine aB e72_17<|aB e72_18<|aA e72_19<|vv rfl (aE (.bool b2) s5)<|vv rfl (aE (.bool b2) rfl) ?_
 rcases aN H with ⟨hc2,H⟩ | ⟨hc2,H⟩
 · refine aZ (wt2 hc2 rfl) rfl (aE (.pointer (some ⟨aS,0,none⟩)) s0)<|aZ (wt2 hc2 rfl) rfl (bG ⟨aS,0,none⟩ rfl)<|aZ (wt2 hc2 rfl) rfl (aF (b := aS) (o := 0) fl96_1 rfl)<|aZ (wt2 hc2 rfl) rfl (aL (.bool b1) sc4 rfl ((aQ M3.get).trans rfl))<|aZ (wt2 hc2 rfl) rfl (eA b1 4 rfl)<|vv rfl (dH (.bool (!b1)) hc2 rfl rfl)<|aD ?_
   rcases aN H with ⟨hc3,H⟩ | ⟨hc3,H⟩
   · refine fa e72_20 (bL hc3) rfl<|bM e72_22 rfl<|aB e72_27<|aA e72_28<|vv rfl (aE (.pointer (some ⟨aS,0,none⟩)) s0) ?_
     obtain ⟨r3,hr3,H⟩ := aK H
     refine aU [.pointer (some ⟨aS,0,none⟩),.string (⟨#[93]⟩ : ByteArray)] en70 rfl rfl rfl (F70 st.has R3 M3 hr3) ?_
     rintro _ w3 ⟨a5,c5,h3,rfl,sp3,R4,M4⟩
     have O2 := O1.call sp3 (fun x hx e => (absurd (e ▸ hx) (O1.ne_mut M3 (by decide))))
     have st3 := st.call sp3 (fun x e => (.inr e))
     refine aD<|aB e72_29<|aA e72_30<|vv rfl (aE (.slice a4 l2.length c4) s4)<|vv rfl (aC (.slice a4 l2.length c4) rfl)<|aD ?_
     obtain ⟨h4,le1,st4,R5,kp1⟩ := O2.frz st3 (Nat.le_refl _)
     have M5 := M4.frB kp1 (O2.ne_mut M4 (by decide))
     cases H
     exact aJ e72_31 (cG Try.results72 rfl ⟨a4,c4,a5,c5,h4,rfl,st4,R5,(SlR.mono le1 R4),M5⟩)
   refine tr e72_20 (bK (cA hc3)) rfl<|aM e72_21<|aB e72_23<|aT e72_24<|aA e72_25<|vv rfl (aE (.slice a4 l2.length c4) s4)<|vv rfl (aE (.func (.func 73) #[.pointer (some ⟨aS,0,none⟩)] #[]) s1) ?_
   obtain ⟨r5,hr5,H⟩ := aK H
   refine dR [.pointer (some ⟨aS,0,none⟩)] [] [] [.pointer (some ⟨aS,0,none⟩)] en73 rfl rfl rfl rfl rfl (F73 st.has R3 M3 hr5) ?_
   rintro _ w5 ⟨a7,c7,h7,rfl,sp5,R8,M8⟩
   have O4 := O1.call sp5 (fun x hx e => (absurd (e ▸ hx) (O1.ne_mut M3 (by decide))))
   have st7 := st.call sp5 (fun x e => (.inr e))
   refine cH [I 0] [I r5.1] [(0,I r5.1)] u43 sz3 zr3 rfl rfl rfl rfl (by kernel_rfl) rfl (by kernel_rfl) (fun b3 w6 al1 => ?_)
   have li1 : Lits h7 [[I r5.1]] ([r5.1] : List Int) := (Lits.cons rfl Lits.nil)
   obtain ⟨h8,le3,g1,sp6⟩ := al1.fz st7.has
   have M9 := M8.call0 sp6
   have O5 := O4.call0 sp6
   have st8 := st7.call0 sp6
   have R9 : SlR _ _ _ ([r5.1] : List Int) := Lits.sl (n := 1) (Lits.mono le3 li1) rfl rfl (by decide) g1
   obtain ⟨hs1,H⟩ := cD H
   refine eG (α := Int) (B := w0.heap.size) (l := l2) (l2 := ([r5.1] : List Int)) u43 u43 ap3 rfl rfl rfl rfl st8.has st8.sp.size O5 R9 rfl rfl hs1 (fun a8 c8 w7 O6 sp7 bl1 => ?_)
   have M10 := M9.call sp7 (fun e => ((O5.ne_mut M9 (by decide)) e))
   have st9 := st8.call sp7 (fun x e => (.inl (O5.lbs x e)))
   refine vv rfl (aC (.slice a8 ((l2 ++ ([r5.1] : List Int)).length) c8) rfl)<|aD<|aW<|aA e72_26<|vv rfl (aE (.pointer (some ⟨aS,0,none⟩)) s0) ?_
   obtain ⟨r6,hr6,H⟩ := aK H
   refine aU [.pointer (some ⟨aS,0,none⟩),.string (⟨#[44]⟩ : ByteArray)] en88 rfl rfl rfl (F88 st9.has (SlR.mono le3 R8) M10 hr6) ?_
   rintro _ w8 ⟨a9,c9,h9,rfl,sp8,R10,M11⟩
   have O7 := O6.call sp8 (fun x hx e => (absurd (e ▸ hx) (O6.ne_mut M10 (by decide))))
   have st10 := st9.call sp8 (fun x e => (.inr e))
   refine vv rfl (aC (.bool r6.1) rfl)<|aD<|bF ?_
   exact ih st10 s0 s1 rfl rfl R10 M11 O7 H
 refine aR (wf2 (cA hc2) rfl) rfl<|aR (wf2 (cA hc2) rfl) rfl<|aR (wf2 (cA hc2) rfl) rfl<|aR (wf2 (cA hc2) rfl) rfl<|aR (wf2 (cA hc2) rfl) rfl<|vv rfl (dI (.bool false) (cA hc2) rfl rfl)<|aD<|dJ e72_20 (p := false) rfl rfl<|bM e72_22 rfl<|aB e72_27 ?_
 refine aA e72_28<|vv rfl (aE (.pointer (some ⟨aS,0,none⟩)) s0) ?_
 obtain ⟨r4,hr4,H⟩ := aK H
 refine aU [.pointer (some ⟨aS,0,none⟩),.string (⟨#[93]⟩ : ByteArray)] en70 rfl rfl rfl (F70 st.has R3 M3 hr4) ?_
 rintro _ w4 ⟨a6,c6,h5,rfl,sp4,R6,M6⟩
 have O3 := O1.call sp4 (fun x hx e => (absurd (e ▸ hx) (O1.ne_mut M3 (by decide))))
 have st5 := st.call sp4 (fun x e => (.inr e))
 refine aD<|aB e72_29<|aA e72_30<|vv rfl (aE (.slice a4 l2.length c4) s4)<|vv rfl (aC (.slice a4 l2.length c4) rfl)<|aD ?_
 obtain ⟨h6,le2,st6,R7,kp2⟩ := O3.frz st5 (Nat.le_refl _)
 have M7 := M6.frB kp2 (O3.ne_mut M6 (by decide))
 cases H
 exact aJ e72_31 (cG Try.results72 rfl ⟨a4,c4,a6,c6,h6,rfl,st6,R7,(SlR.mono le2 R6),M7⟩)
theorem ZSLl72_0_all : ∀ k,ZSLl72_0 k
  | 0 => SLl72_0_z
  | k + 1 => SLl72_0_s k (ZSLl72_0_all k)
theorem Fl72_0 (k : Nat) : SLl72_0 k := (ZSLl72_0_all k)
theorem F72 (k : Nat) : S72 k := by
 intro aS bW cJ bX cW w0 h0 hh dY Mp0 r H
 unfold m72 at H
 refine aO (fn := Try.f72) Try.func72 rfl (Nat.le_of_ble_eq_true rfl) ?_
 show Run X72 [.code c72_0] (fun t => List.getD [.pointer (some ⟨aS,0,none⟩),.func (.func 73) #[.pointer (some ⟨aS,0,none⟩)] #[]] t undef) w0 (.fn (Q72 w0 h0 aS r))
 have st0 := St.init hh (fun x => x = aS)
 refine aB e72_0<|aA e72_1<|vv rfl (aC (.slice none 0 0) rfl)<|aD<|aB e72_2<|aA e72_3<|vv rfl (aE (.pointer (some ⟨aS,0,none⟩)) rfl) ?_
 obtain ⟨r1,hr1,H⟩ := aK H
 refine aU [.pointer (some ⟨aS,0,none⟩),.string (⟨#[91]⟩ : ByteArray)] en70 rfl rfl rfl (F70 st0.has dY Mp0 hr1) ?_
 rintro _ w1 ⟨a1,c1,h1,rfl,sp1,R1,M1⟩
 have st1 := st0.call sp1 (fun x e => (.inr e))
 refine aD<|aB e72_4<|aB e72_5<|aA e72_6<|vv rfl (aE (.pointer (some ⟨aS,0,none⟩)) rfl) ?_
 obtain ⟨r2,hr2,H⟩ := aK H
 refine aU [.pointer (some ⟨aS,0,none⟩),.string (⟨#[93]⟩ : ByteArray)] en88 rfl rfl rfl (F88 st1.has R1 M1 hr2) ?_
 rintro _ w2 ⟨a2,c2,h2,rfl,sp2,R2,M2⟩
 have st2 := st1.call sp2 (fun x e => (.inr e))
 refine aD ?_
 rcases aN H with ⟨hc1,H⟩ | ⟨hc1,H⟩
 · refine tr e72_7 hc1 rfl<|aB e72_8<|aA e72_9<|vv rfl (aC (.slice none 0 0) rfl)<|aD ?_
   cases H
   exact aJ e72_10 (cG Try.results72 rfl ⟨none,0,a2,c2,h2,rfl,st2,(SlR.none _),R2,M2⟩)
 refine fa e72_7 (cA hc1) rfl<|aM e72_11<|aB e72_12<|aB e72_13<|aA e72_14<|vv rfl (aC (.bool true) rfl)<|aD<|aT e72_15<|cB e72_16 ?_
 exact Fl72_0 k st2 rfl rfl rfl rfl R2 M2 (Own.nil _ _ _ _) H
theorem F43 (k : Nat) : S43 k := by
 intro aS bW cJ bX cW w0 h0 hh dY Mp0 r H
 unfold m43 at H
 refine aO (fn := Try.f43) Try.func43 rfl (Nat.le_of_ble_eq_true rfl) ?_
 show Run X43 [.code c43_0] (fun t => List.getD [.pointer (some ⟨aS,0,none⟩)] t undef) w0 (.fn (Q43 w0 h0 aS r))
 have st0 := St.init hh (fun x => x = aS)
 refine aB e43_0<|aA e43_1<|cF (.agg #[.string ByteArray.empty,.slice none 0 0,.string ByteArray.empty,I 0]) zr45 rfl rfl (fun b1 w1 al1 => ?_)
 replace al1 : Al _ (.cells (List.toArray [.string ByteArray.empty,.slice none 0 0,.string ByteArray.empty,I 0]) 45 (0,0)) b1 w1 := al1
 have M1 := Mut.new st0 al1
 have lb1 := st0.alB al1
 have sp1 := al1.st st0.has
 have M2 := Mp0.call0 sp1
 have st1 := st0.call0 sp1
 refine aD<|aB e43_2<|aA e43_3<|vv rfl (aE (.pointer (some ⟨aS,0,none⟩)) rfl) ?_
 obtain ⟨r1,hr1,H⟩ := aK H
 refine aU [.pointer (some ⟨aS,0,none⟩),.string (⟨#[116,101,110,115,111,114]⟩ : ByteArray)] en70 rfl rfl rfl (F70 st1.has dY M2 hr1) ?_
 rintro _ w2 ⟨a1,c1,h1,rfl,sp2,R1,M3⟩
 have M4 := M1.call sp2 (fun e => ((Mut.ne_ty M1 M2 (by decide)) e))
 have st2 := st1.call sp2 (fun x e => (.inr e))
 refine aD<|aB e43_4<|aA e43_5<|vv rfl (aE (.pointer (some ⟨aS,0,none⟩)) rfl) ?_
 obtain ⟨r2,hr2,H⟩ := aK H
 refine aU [.pointer (some ⟨aS,0,none⟩)] en71 rfl rfl rfl (F71 k st2.has R1 M3 hr2) ?_
 rintro _ w3 ⟨a2,c2,h2,rfl,sp3,R2,M5⟩
 have M6 := M4.call sp3 (fun e => ((Mut.ne_ty M4 M3 (by decide)) e))
 have st3 := st2.call sp3 (fun x e => (.inr e))
 refine vv rfl (aF (b := b1) (o := 0) fl45_0 rfl)<|aV (o := 0) (n := 1) [.string r2.1] [.string r2.1,.slice none 0 0,.string ByteArray.empty,I 0] (.string r2.1) sz9 rfl rfl rfl rfl M6 rfl rfl rfl rfl rfl (fun w4 wr1 M7 => ?_)
 have sp4 := wr1.st st3.has M6.none
 have M8 := M5.call sp4 (fun e => ((Mut.ne_ty M5 M6 (by decide)) e))
 have st4 := st3.call sp4 (fun x e => (.inl (e ▸ lb1)))
 refine aD<|aB e43_6<|aA e43_7<|vv rfl (aE (.pointer (some ⟨aS,0,none⟩)) rfl)<|vv rfl (aE (.pointer (some ⟨aS,0,none⟩)) rfl)<|vv rfl (eT (.func (.func 73) #[.pointer (some ⟨aS,0,none⟩)] #[]) (mf rfl rfl)) ?_
 obtain ⟨r3,hr3,H⟩ := aK H
 refine aU [.pointer (some ⟨aS,0,none⟩),.func (.func 73) #[.pointer (some ⟨aS,0,none⟩)] #[]] en72 rfl rfl rfl (F72 k st4.has R2 M8 hr3) ?_
 rintro _ w5 ⟨a3,c3,a4,c4,h3,rfl,sp5,R3,R4,M9⟩
 have M10 := M7.call sp5 (fun e => ((Mut.ne_ty M7 M8 (by decide)) e))
 have st5 := st4.call sp5 (fun x e => (.inr e))
 refine vv rfl (aF (b := b1) (o := 0) fl45_1 rfl)<|aV (o := 1) (n := 1) [.slice a3 r3.1.length c3] [.string r2.1,.slice a3 r3.1.length c3,.string ByteArray.empty,I 0] (.slice a3 r3.1.length c3) sz43 rfl rfl rfl rfl M10 rfl rfl rfl rfl rfl (fun w6 wr2 M11 => ?_)
 have sp6 := wr2.st st5.has M10.none
 have M12 := M9.call sp6 (fun e => ((Mut.ne_ty M9 M10 (by decide)) e))
 have st6 := st5.call sp6 (fun x e => (.inl (e ▸ lb1)))
 refine aD<|aB e43_8<|aA e43_9<|vv rfl (aE (.pointer (some ⟨aS,0,none⟩)) rfl) ?_
 obtain ⟨r4,hr4,H⟩ := aK H
 refine aU [.pointer (some ⟨aS,0,none⟩),.string (⟨#[58]⟩ : ByteArray)] en70 rfl rfl rfl (F70 st6.has R4 M12 hr4) ?_
 rintro _ w7 ⟨a5,c5,h4,rfl,sp7,R5,M13⟩
 have M14 := M11.call sp7 (fun e => ((Mut.ne_ty M11 M12 (by decide)) e))
 have st7 := st6.call sp7 (fun x e => (.inr e))
 refine aD<|aB e43_10<|aA e43_11<|vv rfl (aE (.pointer (some ⟨aS,0,none⟩)) rfl) ?_
 obtain ⟨r5,hr5,H⟩ := aK H
 refine aU [.pointer (some ⟨aS,0,none⟩),I 1] en74 rfl rfl rfl (F74 st7.has R5 M13 hr5) ?_
 rintro _ w8 ⟨a6,c6,h5,rfl,sp8,R6,M15⟩
 have M16 := M14.call sp8 (fun e => ((Mut.ne_ty M14 M13 (by decide)) e))
 have st8 := st7.call sp8 (fun x e => (.inr e))
 refine vv rfl (x_fS (.string r5.1.S) ft118_1 sc9 rfl rfl)<|vv rfl (aF (b := b1) (o := 0) fl45_2 rfl)<|aV (o := 2) (n := 1) [.string r5.1.S] [.string r2.1,.slice a3 r3.1.length c3,.string r5.1.S,I 0] (.string r5.1.S) sz9 rfl rfl rfl rfl M16 rfl rfl rfl rfl rfl (fun w9 wr3 M17 => ?_)
 have sp9 := wr3.st st8.has M16.none
 have M18 := M15.call sp9 (fun e => ((Mut.ne_ty M15 M16 (by decide)) e))
 have st9 := st8.call sp9 (fun x e => (.inl (e ▸ lb1)))
 refine aD<|aB e43_12<|aB e43_13<|aA e43_14<|vv rfl (aE (.pointer (some ⟨aS,0,none⟩)) rfl)<|vv rfl (bG ⟨aS,0,none⟩ rfl)<|vv rfl (aF (b := aS) (o := 0) fl96_0 rfl) ?_
 obtain ⟨r6,hr6,H⟩ := aK H
 refine aU [.pointer (some ⟨aS,0,none⟩)] en69 rfl rfl rfl (F69 st9.has R6 M18 hr6) ?_
 rintro _ w10 ⟨a7,c7,h6,rfl,sp10,R7,M19⟩
 have M20 := M17.call sp10 (fun e => ((Mut.ne_ty M17 M18 (by decide)) e))
 have st10 := st9.call sp10 (fun x e => (.inr e))
 refine vv rfl (x_fS (I r6.1.Kind) ft118_0 sc3 rfl rfl)<|vv rfl (aP .eql .i64 r6.1.Kind 2 (.bool (decide (r6.1.Kind = 2))) 3 3 rfl rfl rfl)<|aD ?_
 obtain ⟨j1,hj1,H⟩ := dE H
 have Jj1 : ∀ {y1 : (List GToken)} {y2 : Bool} {y3 : Int} {a9 : OA} {c9 : Nat} {σ1 : Env} {w13 : World} {h8 : Sto},Le h6 h8 → St w0 (fun x => x = aS) h0 h8 w13 → σ1 2 = .pointer (some ⟨b1,0,none⟩) → SlR h8 a9 c9 y1 → Mut h8 w13 aS (.cells (List.toArray [.slice a9 y1.length c9,.bool y2]) 96 (0,0)) → SlR h8 a3 c3 r3.1 → Mut h8 w13 b1 (.cells (List.toArray [.string r2.1,.slice a3 r3.1.length c3,.string r5.1.S,I y3]) 45 (0,0)) → j1 y1 y2 y3 = some r → Run X43 [.code c43_18] σ1 w13 (.fn (Q43 w0 h0 aS r)) := by
  intro y1 y2 y3 a9 c9 σ1 w13 h8 le1 st13 s2_j1 R9 M25 R10 M26 H
  rw [hj1] at H
  refine aB e43_18<|aA e43_19<|vv rfl (bH [.string r2.1,.slice a3 r3.1.length c3,.string r5.1.S,I y3] ag45 sz45 s2_j1 rfl (aY M26.get rfl))<|aV (o := 0) (n := 4) [.string r2.1,.slice a3 r3.1.length c3,.string r5.1.S,I y3] [.string r2.1,.slice a3 r3.1.length c3,.string r5.1.S,I y3] (.agg #[.string r2.1,.slice a3 r3.1.length c3,.string r5.1.S,I y3]) sz45 rfl rfl s2_j1 rfl M26 rfl rfl rfl rfl rfl (fun w14 wr5 M27 => ?_)
  have sp13 := wr5.st st13.has M26.none
  have M28 := M25.call sp13 (fun e => ((Mut.ne_ty M25 M26 (by decide)) e))
  have st14 := st13.call sp13 (fun x e => (.inl (e ▸ lb1)))
  refine aD ?_
  cases H
  exact aJ e43_20 (cG Try.results43 (eI [.string r2.1,.slice a3 r3.1.length c3,.string r5.1.S,I y3] ag45 sz45 s2_j1 rfl (aY M27.get rfl)) ⟨a3,c3,a9,c9,h8,rfl,st14,R10,R9,M28⟩)
 rcases aN H with ⟨hc1,H⟩ | ⟨hc1,H⟩
 · refine tr e43_15 (dT hc1) rfl<|aA e43_16<|vv rfl (aE (.pointer (some ⟨aS,0,none⟩)) rfl) ?_
   obtain ⟨r7,hr7,H⟩ := aK H
   refine aU [.pointer (some ⟨aS,0,none⟩)] en73 rfl rfl rfl (F73 st10.has R7 M19 hr7) ?_
   rintro _ w11 ⟨a8,c8,h7,rfl,sp11,R8,M21⟩
   have M22 := M20.call sp11 (fun e => ((Mut.ne_ty M20 M19 (by decide)) e))
   have st11 := st10.call sp11 (fun x e => (.inr e))
   refine vv rfl (aF (b := b1) (o := 0) fl45_3 rfl)<|aV (o := 3) (n := 1) [I r7.1] [.string r2.1,.slice a3 r3.1.length c3,.string r5.1.S,I r7.1] (I r7.1) sz3 rfl rfl rfl rfl M22 rfl rfl rfl rfl rfl (fun w12 wr4 M23 => ?_)
   have sp12 := wr4.st st11.has M22.none
   have M24 := M21.call sp12 (fun e => ((Mut.ne_ty M21 M22 (by decide)) e))
   have st12 := st11.call sp12 (fun x e => (.inl (e ▸ lb1)))
   refine aD ?_
   exact Jj1 sp11.le st12 rfl R8 M24 (SlR.mono (sp7.le.trans (sp8.le.trans (sp10.le.trans sp11.le))) R3) M23 H
 refine fa e43_15 (dF hc1) rfl<|aM e43_17 ?_
 exact Jj1 (Le.refl _) st10 rfl R7 M19 (SlR.mono (sp7.le.trans (sp8.le.trans sp10.le)) R3) M20 H
abbrev ZSLl75_0 (k : Nat) : Prop := SLl75_0 k
theorem SLl75_0_z : SLl75_0 0 := by
  unfold SLl75_0; intros; rename_i H; exact absurd H (by simp [l75_0])
theorem SLl75_0_s (k : Nat) (ih : ZSLl75_0 k) : SLl75_0 (k + 1) := by
 intro aS c3 c4 w0 w h0 h σ l1 a3 a4 b1 b2 l2 r st s0 s1 s4 s5 R3 M3 O1 H
 rw [l75_0] at H
 refine aB e75_17<|aB e75_18<|aA e75_19<|vv rfl (aE (.bool b2) s5)<|vv rfl (aE (.bool b2) rfl) ?_
 rcases aN H with ⟨hc2,H⟩ | ⟨hc2,H⟩
 · refine aZ (wt2 hc2 rfl) rfl (aE (.pointer (some ⟨aS,0,none⟩)) s0)<|aZ (wt2 hc2 rfl) rfl (bG ⟨aS,0,none⟩ rfl)<|aZ (wt2 hc2 rfl) rfl (aF (b := aS) (o := 0) fl96_1 rfl)<|aZ (wt2 hc2 rfl) rfl (aL (.bool b1) sc4 rfl ((aQ M3.get).trans rfl))<|aZ (wt2 hc2 rfl) rfl (eA b1 4 rfl)<|vv rfl (dH (.bool (!b1)) hc2 rfl rfl)<|aD ?_
   rcases aN H with ⟨hc3,H⟩ | ⟨hc3,H⟩
   · refine fa e75_20 (bL hc3) rfl<|bM e75_22 rfl<|aB e75_27<|aA e75_28<|vv rfl (aE (.pointer (some ⟨aS,0,none⟩)) s0) ?_
     obtain ⟨r3,hr3,H⟩ := aK H
     refine aU [.pointer (some ⟨aS,0,none⟩),.string (⟨#[93]⟩ : ByteArray)] en70 rfl rfl rfl (F70 st.has R3 M3 hr3) ?_
     rintro _ w3 ⟨a5,c5,h3,rfl,sp3,R4,M4⟩
     have O2 := O1.call sp3 (fun x hx e => (absurd (e ▸ hx) (O1.ne_mut M3 (by decide))))
     have st3 := st.call sp3 (fun x e => (.inr e))
     refine aD<|aB e75_29<|aA e75_30<|vv rfl (aE (.slice a4 l2.length c4) s4)<|vv rfl (aC (.slice a4 l2.length c4) rfl)<|aD ?_
     obtain ⟨h4,le1,st4,R5,kp1⟩ := O2.frz st3 (Nat.le_refl _)
     have M5 := M4.frB kp1 (O2.ne_mut M4 (by decide))
     cases H
     exact aJ e75_31 (cG Try.results75 rfl ⟨a4,c4,a5,c5,h4,rfl,st4,R5,(SlR.mono le1 R4),M5⟩)
   refine tr e75_20 (bK (cA hc3)) rfl<|aM e75_21<|aB e75_23<|aT e75_24<|aA e75_25<|vv rfl (aE (.slice a4 l2.length c4) s4)<|vv rfl (aE (.func (.func 71) #[.pointer (some ⟨aS,0,none⟩)] #[]) s1) ?_
   obtain ⟨r5,hr5,H⟩ := aK H
   refine dR [.pointer (some ⟨aS,0,none⟩)] [] [] [.pointer (some ⟨aS,0,none⟩)] en71 rfl rfl rfl rfl rfl (F71 k st.has R3 M3 hr5) ?_
   rintro _ w5 ⟨a7,c7,h7,rfl,sp5,R8,M8⟩
   have O4 := O1.call sp5 (fun x hx e => (absurd (e ▸ hx) (O1.ne_mut M3 (by decide))))
   have st7 := st.call sp5 (fun x e => (.inr e))
   refine cH [.string ByteArray.empty] [.string r5.1] [(0,.string r5.1)] u28 sz9 zr9 rfl rfl rfl rfl (by kernel_rfl) rfl (by kernel_rfl) (fun b3 w6 al1 => ?_)
   have li1 : Lits h7 [[.string r5.1]] ([r5.1] : List ByteArray) := (Lits.cons rfl Lits.nil)
   obtain ⟨h8,le3,g1,sp6⟩ := al1.fz st7.has
   have M9 := M8.call0 sp6
   have O5 := O4.call0 sp6
   have st8 := st7.call0 sp6
   have R9 : SlR _ _ _ ([r5.1] : List ByteArray) := Lits.sl (n := 1) (Lits.mono le3 li1) rfl rfl (by decide) g1
   obtain ⟨hs1,H⟩ := cD H
   refine eG (α := ByteArray) (B := w0.heap.size) (l := l2) (l2 := ([r5.1] : List ByteArray)) u28 u28 ap9 rfl rfl rfl rfl st8.has st8.sp.size O5 R9 rfl rfl hs1 (fun a8 c8 w7 O6 sp7 bl1 => ?_)
   have M10 := M9.call sp7 (fun e => ((O5.ne_mut M9 (by decide)) e))
   have st9 := st8.call sp7 (fun x e => (.inl (O5.lbs x e)))
   refine vv rfl (aC (.slice a8 ((l2 ++ ([r5.1] : List ByteArray)).length) c8) rfl)<|aD<|aW<|aA e75_26<|vv rfl (aE (.pointer (some ⟨aS,0,none⟩)) s0) ?_
   obtain ⟨r6,hr6,H⟩ := aK H
   refine aU [.pointer (some ⟨aS,0,none⟩),.string (⟨#[44]⟩ : ByteArray)] en88 rfl rfl rfl (F88 st9.has (SlR.mono le3 R8) M10 hr6) ?_
   rintro _ w8 ⟨a9,c9,h9,rfl,sp8,R10,M11⟩
   have O7 := O6.call sp8 (fun x hx e => (absurd (e ▸ hx) (O6.ne_mut M10 (by decide))))
   have st10 := st9.call sp8 (fun x e => (.inr e))
   refine vv rfl (aC (.bool r6.1) rfl)<|aD<|bF ?_
   exact ih st10 s0 s1 rfl rfl R10 M11 O7 H
 refine aR (wf2 (cA hc2) rfl) rfl<|aR (wf2 (cA hc2) rfl) rfl<|aR (wf2 (cA hc2) rfl) rfl<|aR (wf2 (cA hc2) rfl) rfl<|aR (wf2 (cA hc2) rfl) rfl<|vv rfl (dI (.bool false) (cA hc2) rfl rfl)<|aD<|dJ e75_20 (p := false) rfl rfl<|bM e75_22 rfl<|aB e75_27 ?_
 refine aA e75_28<|vv rfl (aE (.pointer (some ⟨aS,0,none⟩)) s0) ?_
 obtain ⟨r4,hr4,H⟩ := aK H
 refine aU [.pointer (some ⟨aS,0,none⟩),.string (⟨#[93]⟩ : ByteArray)] en70 rfl rfl rfl (F70 st.has R3 M3 hr4) ?_
 rintro _ w4 ⟨a6,c6,h5,rfl,sp4,R6,M6⟩
 have O3 := O1.call sp4 (fun x hx e => (absurd (e ▸ hx) (O1.ne_mut M3 (by decide))))
 have st5 := st.call sp4 (fun x e => (.inr e))
 refine aD<|aB e75_29<|aA e75_30<|vv rfl (aE (.slice a4 l2.length c4) s4)<|vv rfl (aC (.slice a4 l2.length c4) rfl)<|aD ?_
 obtain ⟨h6,le2,st6,R7,kp2⟩ := O3.frz st5 (Nat.le_refl _)
 have M7 := M6.frB kp2 (O3.ne_mut M6 (by decide))
 cases H
 exact aJ e75_31 (cG Try.results75 rfl ⟨a4,c4,a6,c6,h6,rfl,st6,R7,(SlR.mono le2 R6),M7⟩)
theorem ZSLl75_0_all : ∀ k,ZSLl75_0 k
  | 0 => SLl75_0_z
  | k + 1 => SLl75_0_s k (ZSLl75_0_all k)
theorem Fl75_0 (k : Nat) : SLl75_0 k := (ZSLl75_0_all k)
theorem F75 (k : Nat) : S75 k := by
 intro aS bW cJ bX cW w0 h0 hh dY Mp0 r H
 unfold m75 at H
 refine aO (fn := Try.f75) Try.func75 rfl (Nat.le_of_ble_eq_true rfl) ?_
 show Run X75 [.code c75_0] (fun t => List.getD [.pointer (some ⟨aS,0,none⟩),.func (.func 71) #[.pointer (some ⟨aS,0,none⟩)] #[]] t undef) w0 (.fn (Q75 w0 h0 aS r))
 have st0 := St.init hh (fun x => x = aS)
 refine aB e75_0<|aA e75_1<|vv rfl (aC (.slice none 0 0) rfl)<|aD<|aB e75_2<|aA e75_3<|vv rfl (aE (.pointer (some ⟨aS,0,none⟩)) rfl) ?_
 obtain ⟨r1,hr1,H⟩ := aK H
 refine aU [.pointer (some ⟨aS,0,none⟩),.string (⟨#[91]⟩ : ByteArray)] en70 rfl rfl rfl (F70 st0.has dY Mp0 hr1) ?_
 rintro _ w1 ⟨a1,c1,h1,rfl,sp1,R1,M1⟩
 have st1 := st0.call sp1 (fun x e => (.inr e))
 refine aD<|aB e75_4<|aB e75_5<|aA e75_6<|vv rfl (aE (.pointer (some ⟨aS,0,none⟩)) rfl) ?_
 obtain ⟨r2,hr2,H⟩ := aK H
 refine aU [.pointer (some ⟨aS,0,none⟩),.string (⟨#[93]⟩ : ByteArray)] en88 rfl rfl rfl (F88 st1.has R1 M1 hr2) ?_
 rintro _ w2 ⟨a2,c2,h2,rfl,sp2,R2,M2⟩
 have st2 := st1.call sp2 (fun x e => (.inr e))
 refine aD ?_
 rcases aN H with ⟨hc1,H⟩ | ⟨hc1,H⟩
 · refine tr e75_7 hc1 rfl<|aB e75_8<|aA e75_9<|vv rfl (aC (.slice none 0 0) rfl)<|aD ?_
   cases H
   exact aJ e75_10 (cG Try.results75 rfl ⟨none,0,a2,c2,h2,rfl,st2,(SlR.none _),R2,M2⟩)
 refine fa e75_7 (cA hc1) rfl<|aM e75_11<|aB e75_12<|aB e75_13<|aA e75_14<|vv rfl (aC (.bool true) rfl)<|aD<|aT e75_15<|cB e75_16 ?_
 exact Fl75_0 k st2 rfl rfl rfl rfl R2 M2 (Own.nil _ _ _ _) H
abbrev ZS100 (k : Nat) : Prop := S100 k ∧ S76 k ∧ S89 k ∧ SLl89_0 k ∧ S90 k ∧ S89_1 k ∧ SLl89_1_0 k ∧ S96 k
theorem S100_z : S100 0 := by
  unfold S100; intros; rename_i H; exact absurd H (by simp [m100])
theorem S100_s (k : Nat) (ih : ZS100 k) : S100 (k + 1) := by
 intro aS bW cJ bX cW w0 h0 hh dY Mp0 r H
 rw [m100] at H
 refine aO (fn := Try.f100) Try.func100 rfl (Nat.le_of_ble_eq_true rfl) ?_
 show Run X100 [.code c100_0] (fun t => List.getD [.pointer (some ⟨aS,0,none⟩)] t undef) w0 (.fn (Q100 w0 h0 aS r))
 have st0 := St.init hh (fun x => x = aS)
 refine aB e100_0<|aA e100_1<|cF (.agg #[I 0,I 0,.string ByteArray.empty,.slice none 0 0,.slice none 0 0]) zr31 rfl rfl (fun b1 w1 al1 => ?_)
 replace al1 : Al _ (.cells (List.toArray [I 0,I 0,.string ByteArray.empty,.slice none 0 0,.slice none 0 0]) 31 (0,0)) b1 w1 := al1
 have M1 := Mut.new st0 al1
 have lb1 := st0.alB al1
 have sp1 := al1.st st0.has
 have M2 := Mp0.call0 sp1
 have st1 := st0.call0 sp1
 refine aD<|aB e100_2<|aA e100_3<|vv rfl (aE (.pointer (some ⟨aS,0,none⟩)) rfl) ?_
 obtain ⟨r1,hr1,H⟩ := aK H
 refine aU [.pointer (some ⟨aS,0,none⟩),.string (⟨#[40]⟩ : ByteArray)] en70 rfl rfl rfl (F70 st1.has dY M2 hr1) ?_
 rintro _ w2 ⟨a1,c1,h1,rfl,sp2,R1,M3⟩
 have M4 := M1.call sp2 (fun e => ((Mut.ne_ty M1 M2 (by decide)) e))
 have st2 := st1.call sp2 (fun x e => (.inr e))
 refine aD<|aB e100_4<|aA e100_5<|vv rfl (aE (.pointer (some ⟨aS,0,none⟩)) rfl) ?_
 obtain ⟨r2,hr2,H⟩ := aK H
 refine aU [.pointer (some ⟨aS,0,none⟩)] en71 rfl rfl rfl (F71 k st2.has R1 M3 hr2) ?_
 rintro _ w3 ⟨a2,c2,h2,rfl,sp3,R2,M5⟩
 have M6 := M4.call sp3 (fun e => ((Mut.ne_ty M4 M3 (by decide)) e))
 have st3 := st2.call sp3 (fun x e => (.inr e))
 refine vv rfl (aF (b := b1) (o := 0) fl31_0 rfl)<|aV (o := 0) (n := 1) [I 7] [I 7,I 0,.string ByteArray.empty,.slice none 0 0,.slice none 0 0] (I 7) sz3 rfl rfl rfl rfl M6 rfl rfl rfl rfl rfl (fun w4 wr1 M7 => ?_)
 have sp4 := wr1.st st3.has M6.none
 have M8 := M5.call sp4 (fun e => ((Mut.ne_ty M5 M6 (by decide)) e))
 have st4 := st3.call sp4 (fun x e => (.inl (e ▸ lb1)))
 refine vv rfl (aF (b := b1) (o := 0) fl31_2 rfl)<|aV (o := 2) (n := 1) [.string r2.1] [I 7,I 0,.string r2.1,.slice none 0 0,.slice none 0 0] (.string r2.1) sz9 rfl rfl rfl rfl M7 rfl rfl rfl rfl rfl (fun w5 wr2 M9 => ?_)
 have sp5 := wr2.st st4.has M7.none
 have M10 := M8.call sp5 (fun e => ((Mut.ne_ty M8 M7 (by decide)) e))
 have st5 := st4.call sp5 (fun x e => (.inl (e ▸ lb1)))
 refine aD<|aB e100_6<|aA e100_7<|vv rfl (aE (.pointer (some ⟨aS,0,none⟩)) rfl) ?_
 obtain ⟨r3,hr3,H⟩ := aK H
 refine aU [.pointer (some ⟨aS,0,none⟩),.string (⟨#[44]⟩ : ByteArray)] en70 rfl rfl rfl (F70 st5.has R2 M10 hr3) ?_
 rintro _ w6 ⟨a3,c3,h3,rfl,sp6,R3,M11⟩
 have M12 := M9.call sp6 (fun e => ((Mut.ne_ty M9 M10 (by decide)) e))
 have st6 := st5.call sp6 (fun x e => (.inr e))
 refine aD<|aB e100_8<|aA e100_9<|vv rfl (aE (.pointer (some ⟨aS,0,none⟩)) rfl) ?_
 obtain ⟨r4,hr4,H⟩ := aK H
 refine aU [.pointer (some ⟨aS,0,none⟩)] en76 rfl rfl rfl (ih.2.1 st6.has R3 M11 hr4) ?_
 rintro _ w7 ⟨a4,c4,a5,c5,a6,c6,h4,rfl,sp7,R4,R5,R6,M13⟩
 have M14 := M12.call sp7 (fun e => ((Mut.ne_ty M12 M11 (by decide)) e))
 have st7 := st6.call sp7 (fun x e => (.inr e))
 refine cH [I 0,I 0,.string ByteArray.empty,.slice none 0 0,.slice none 0 0] [I r4.1.Op,I r4.1.N,.string r4.1.Name,.slice a4 r4.1.Index.length c4,.slice a5 r4.1.L.length c5] [(0,.agg #[I r4.1.Op,I r4.1.N,.string r4.1.Name,.slice a4 r4.1.Index.length c4,.slice a5 r4.1.L.length c5])] u29 cX zr31 rfl rfl rfl rfl (by kernel_rfl) rfl (by kernel_rfl) (fun b2 w8 al2 => ?_)
 have li1 : Lits h4 [[I r4.1.Op,I r4.1.N,.string r4.1.Name,.slice a4 r4.1.Index.length c4,.slice a5 r4.1.L.length c5]] ([r4.1] : List GNode) := (Lits.cons (GNode.into (h := h4) (x := r4.1) R4 R5) Lits.nil)
 obtain ⟨h5,le1,g1,sp8⟩ := al2.fz st7.has
 have M15 := M13.call0 sp8
 have M16 := M14.call0 sp8
 have st8 := st7.call0 sp8
 have R7 : SlR _ _ _ ([r4.1] : List GNode) := Lits.sl (n := 1) (Lits.mono le1 li1) rfl rfl (by decide) g1
 refine vv rfl (aF (b := b1) (o := 0) fl31_4 rfl)<|aV (o := 4) (n := 1) [.slice (some ⟨b2,0,none⟩) 1 1] [I 7,I 0,.string r2.1,.slice none 0 0,.slice (some ⟨b2,0,none⟩) 1 1] (.slice (some ⟨b2,0,none⟩) 1 1) sz29 rfl rfl rfl rfl M16 rfl rfl rfl rfl rfl (fun w9 wr3 M17 => ?_)
 have sp9 := wr3.st st8.has M16.none
 have M18 := M15.call sp9 (fun e => ((Mut.ne_ty M15 M16 (by decide)) e))
 have st9 := st8.call sp9 (fun x e => (.inl (e ▸ lb1)))
 refine aD<|aB e100_10<|aA e100_11<|vv rfl (aE (.pointer (some ⟨aS,0,none⟩)) rfl) ?_
 obtain ⟨r5,hr5,H⟩ := aK H
 refine aU [.pointer (some ⟨aS,0,none⟩),.string (⟨#[41]⟩ : ByteArray)] en70 rfl rfl rfl (F70 st9.has (SlR.mono le1 R6) M18 hr5) ?_
 rintro _ w10 ⟨a7,c7,h6,rfl,sp10,R8,M19⟩
 have M20 := M17.call sp10 (fun e => ((Mut.ne_ty M17 M18 (by decide)) e))
 have st10 := st9.call sp10 (fun x e => (.inr e))
 refine aD<|aB e100_12<|aA e100_13<|vv rfl (bH [I 7,I 0,.string r2.1,.slice none 0 0,.slice (some ⟨b2,0,none⟩) 1 1] ag31 cX rfl rfl (aY M20.get rfl))<|aV (o := 0) (n := 5) [I 7,I 0,.string r2.1,.slice none 0 0,.slice (some ⟨b2,0,none⟩) 1 1] [I 7,I 0,.string r2.1,.slice none 0 0,.slice (some ⟨b2,0,none⟩) 1 1] (.agg #[I 7,I 0,.string r2.1,.slice none 0 0,.slice (some ⟨b2,0,none⟩) 1 1]) cX rfl rfl rfl rfl M20 rfl rfl rfl rfl rfl (fun w11 wr4 M21 => ?_)
 have sp11 := wr4.st st10.has M20.none
 have M22 := M19.call sp11 (fun e => ((Mut.ne_ty M19 M20 (by decide)) e))
 have st11 := st10.call sp11 (fun x e => (.inl (e ▸ lb1)))
 refine aD ?_
 cases H
 exact aJ e100_14 (cG Try.results100 (eI [I 7,I 0,.string r2.1,.slice none 0 0,.slice (some ⟨b2,0,none⟩) 1 1] ag31 cX rfl rfl (aY M21.get rfl)) ⟨none,0,some ⟨b2,0,none⟩,1,a7,c7,h6,rfl,st11,(SlR.none _),(SlR.mono sp10.le R7),R8,M22⟩)
theorem S76_z : S76 0 := by
  unfold S76; intros; rename_i H; exact absurd H (by simp [m76])
theorem S76_s (k : Nat) (ih : ZS100 k) : S76 (k + 1) := by
 intro aS bW cJ bX cW w0 h0 hh dY Mp0 r H
 rw [m76] at H
 refine aO (fn := Try.f76) Try.func76 rfl (Nat.le_of_ble_eq_true rfl) ?_
 show Run X76 [.code c76_0] (fun t => List.getD [.pointer (some ⟨aS,0,none⟩)] t undef) w0 (.fn (Q76 w0 h0 aS r))
 have st0 := St.init hh (fun x => x = aS)
 refine aB e76_0<|aA e76_1<|cF (.agg #[I 0,I 0,.string ByteArray.empty,.slice none 0 0,.slice none 0 0]) zr31 rfl rfl (fun b1 w1 al1 => ?_)
 replace al1 : Al _ (.cells (List.toArray [I 0,I 0,.string ByteArray.empty,.slice none 0 0,.slice none 0 0]) 31 (0,0)) b1 w1 := al1
 have M1 := Mut.new st0 al1
 have lb1 := st0.alB al1
 have sp1 := al1.st st0.has
 have M2 := Mp0.call0 sp1
 have st1 := st0.call0 sp1
 refine aD<|aB e76_2<|aA e76_3<|vv rfl (aE (.pointer (some ⟨aS,0,none⟩)) rfl)<|vv rfl (aE (.pointer (some ⟨aS,0,none⟩)) rfl)<|vv rfl (eT (.func (.func 90) #[.pointer (some ⟨aS,0,none⟩)] #[]) (mf rfl rfl))<|rr_makeMap rfl rfl (fun b2 w2 al2 => ?_)
 have M3 : MpM _ _ b2 ([] : (List (ByteArray × Int))) := MpM.new st1 al2
 have lb2 := st1.alB al2
 have sp2 := al2.st st1.has
 have M4 := M2.call0 sp2
 have M5 := M1.call0 sp2
 have st2 := st1.call0 sp2
 refine rr_insert (l := ([] : (List (ByteArray × Int)))) (key := (⟨#[43]⟩ : ByteArray)) (v := (I 3)) 3 mt148 rfl rfl rfl rfl rfl M3 rfl st2.has (fun w3 M6 sp3 => ?_)
 have M7 := M4.call sp3 (fun e => ((Ne.symm (MpM.ne_mut M3 M4)) e))
 have M8 := M5.call sp3 (fun e => ((Ne.symm (MpM.ne_mut M3 M5)) e))
 have st3 := st2.call sp3 (fun x e => (.inl (e ▸ lb2)))
 refine rr_insert (l := (cC ([] : (List (ByteArray × Int))) (⟨#[43]⟩ : ByteArray) 3)) (key := (⟨#[45]⟩ : ByteArray)) (v := (I 4)) 4 mt148 rfl rfl rfl rfl rfl M6 rfl st3.has (fun w4 M9 sp4 => ?_)
 have M10 := M7.call sp4 (fun e => ((Ne.symm (MpM.ne_mut M6 M7)) e))
 have M11 := M8.call sp4 (fun e => ((Ne.symm (MpM.ne_mut M6 M8)) e))
 have st4 := st3.call sp4 (fun x e => (.inl (e ▸ lb2)))
 refine vv rfl (aE (.map (some b2)) rfl) ?_
 obtain ⟨h1,le1,g1,st5,kp1⟩ := M9.fz st4 lb2
 have M12 := M10.fr kp1 (Ne.symm (MpM.ne_mut M9 M10))
 have M13 := M11.fr kp1 (Ne.symm (MpM.ne_mut M9 M11))
 obtain ⟨r1,hr1,H⟩ := aK H
 refine aU [.pointer (some ⟨aS,0,none⟩),.func (.func 90) #[.pointer (some ⟨aS,0,none⟩)] #[],.map (some b2)] en89 rfl rfl rfl (ih.2.2.1 st5.has (SlR.mono le1 dY) M12 g1 hr1) ?_
 rintro _ w5 ⟨a1,c1,a2,c2,a3,c3,h2,rfl,sp5,R1,R2,R3,M14⟩
 have M15 := M13.call sp5 (fun e => ((Mut.ne_ty M13 M12 (by decide)) e))
 have st6 := st5.call sp5 (fun x e => (.inr e))
 refine aV (o := 0) (n := 5) [I r1.1.Op,I r1.1.N,.string r1.1.Name,.slice a1 r1.1.Index.length c1,.slice a2 r1.1.L.length c2] [I r1.1.Op,I r1.1.N,.string r1.1.Name,.slice a1 r1.1.Index.length c1,.slice a2 r1.1.L.length c2] (.agg #[I r1.1.Op,I r1.1.N,.string r1.1.Name,.slice a1 r1.1.Index.length c1,.slice a2 r1.1.L.length c2]) cX rfl rfl rfl rfl M15 rfl rfl rfl rfl rfl (fun w6 wr1 M16 => ?_)
 have sp6 := wr1.st st6.has M15.none
 have M17 := M14.call sp6 (fun e => ((Mut.ne_ty M14 M15 (by decide)) e))
 have st7 := st6.call sp6 (fun x e => (.inl (e ▸ lb1)))
 obtain ⟨h3,le2,g2,st8,kp2⟩ := M16.fz st7 lb1
 have M18 := M17.fr kp2 (Mut.ne_ty M17 M16 (by decide))
 refine aD ?_
 cases H
 exact aJ e76_4 (cG Try.results76 (eI [I r1.1.Op,I r1.1.N,.string r1.1.Name,.slice a1 r1.1.Index.length c1,.slice a2 r1.1.L.length c2] ag31 cX rfl rfl (aY (st8.has _ _ g2) rfl)) ⟨a1,c1,a2,c2,a3,c3,h3,rfl,st8,(SlR.mono le2 R1),(SlR.mono le2 R2),(SlR.mono le2 R3),M18⟩)
theorem S89_z : S89 0 := by
  unfold S89; intros; rename_i H; exact absurd H (by simp [m89])
theorem S89_s (k : Nat) (ih : ZS100 k) : S89 (k + 1) := by
 intro aS bW p2_b cJ bX cW p2 w0 h0 hh dY Mp0 gp2 r H
 rw [m89] at H
 refine aO (fn := Try.f89) Try.func89 rfl (Nat.le_of_ble_eq_true rfl) ?_
 show Run X89 [.code c89_0] (fun t => List.getD [.pointer (some ⟨aS,0,none⟩),.func (.func 90) #[.pointer (some ⟨aS,0,none⟩)] #[],.map (some p2_b)] t undef) w0 (.fn (Q89 w0 h0 aS r))
 have st0 := St.init hh (fun x => x = aS)
 refine aB e89_0<|aA e89_1<|cF (.agg #[I 0,I 0,.string ByteArray.empty,.slice none 0 0,.slice none 0 0]) zr31 rfl rfl (fun b1 w1 al1 => ?_)
 replace al1 : Al _ (.cells (List.toArray [I 0,I 0,.string ByteArray.empty,.slice none 0 0,.slice none 0 0]) 31 (0,0)) b1 w1 := al1
 have M1 := Mut.new st0 al1
 have lb1 := st0.alB al1
 have sp1 := al1.st st0.has
 have M2 := Mp0.call0 sp1
 have st1 := st0.call0 sp1
 refine aD<|aB e89_2<|aA e89_3<|vv rfl (aE (.func (.func 90) #[.pointer (some ⟨aS,0,none⟩)] #[]) rfl) ?_
 obtain ⟨r1,hr1,H⟩ := aK H
 refine dR [.pointer (some ⟨aS,0,none⟩)] [] [] [.pointer (some ⟨aS,0,none⟩)] en90 rfl rfl rfl rfl rfl (ih.2.2.2.2.1 st1.has dY M2 hr1) ?_
 rintro _ w2 ⟨a1,c1,a2,c2,a3,c3,h1,rfl,sp2,R1,R2,R3,M3⟩
 have M4 := M1.call sp2 (fun e => ((Mut.ne_ty M1 M2 (by decide)) e))
 have st2 := st1.call sp2 (fun x e => (.inr e))
 refine cF (.agg #[I 0,I 0,.string ByteArray.empty,.slice none 0 0,.slice none 0 0]) zr31 rfl rfl (fun b2 w3 al2 => ?_)
 replace al2 : Al _ (.cells (List.toArray [I 0,I 0,.string ByteArray.empty,.slice none 0 0,.slice none 0 0]) 31 (0,0)) b2 w3 := al2
 have ne1 := M4.ne_al al2
 have M5 := Mut.new st2 al2
 have lb2 := st2.alB al2
 have sp3 := al2.st st2.has
 have M6 := M3.call0 sp3
 have M7 := M4.call0 sp3
 have st3 := st2.call0 sp3
 refine aV (o := 0) (n := 5) [I r1.1.Op,I r1.1.N,.string r1.1.Name,.slice a1 r1.1.Index.length c1,.slice a2 r1.1.L.length c2] [I r1.1.Op,I r1.1.N,.string r1.1.Name,.slice a1 r1.1.Index.length c1,.slice a2 r1.1.L.length c2] (.agg #[I r1.1.Op,I r1.1.N,.string r1.1.Name,.slice a1 r1.1.Index.length c1,.slice a2 r1.1.L.length c2]) cX rfl rfl rfl rfl M5 rfl rfl rfl rfl rfl (fun w4 wr1 M8 => ?_)
 have sp4 := wr1.st st3.has M5.none
 have M9 := M6.call sp4 (fun e => ((Mut.ne_ty M6 M5 (by decide)) e))
 have M10 := M7.call sp4 (fun e => (ne1 e))
 have st4 := st3.call sp4 (fun x e => (.inl (e ▸ lb2)))
 refine aD<|aB e89_4<|aT e89_5<|cB e89_6 ?_
 exact ih.2.2.2.1 st4 rfl rfl rfl rfl rfl R3 M9 (MpF.mono sp2.le gp2) M10 lb1 R1 R2 M8 lb2 ne1 H
theorem SLl89_0_z : SLl89_0 0 := by
  unfold SLl89_0; intros; rename_i H; exact absurd H (by simp [l89_0])
theorem SLl89_0_s (k : Nat) (ih : ZS100 k) : SLl89_0 (k + 1) := by
 intro aS p2_b b1 b2 c4 c5 c6 p2 w0 w h0 h σ l1 a4 a5 a6 b3 i1 i2 str1 l2 l3 r st s0 s1 s2 s6 s7 R4 M11 g1 M12 lb3 R5 R6 M13 lb4 ne2 H
 rw [l89_0] at H
 refine aB e89_7<|aB e89_8<|aA e89_9<|vv rfl (aE (.pointer (some ⟨aS,0,none⟩)) s0)<|vv rfl (bG ⟨aS,0,none⟩ rfl)<|vv rfl (aF (b := aS) (o := 0) fl96_1 rfl)<|vv rfl (aL (.bool b3) sc4 rfl ((aQ M11.get).trans rfl))<|vv rfl (eA b3 4 rfl)<|aD ?_
 rcases aN H with ⟨hc1,H⟩ | ⟨hc1,H⟩
 · refine fa e89_10 (bL hc1) rfl<|bM e89_12 rfl<|aB e89_25<|aA e89_26<|vv rfl (bH [I i1,I i2,.string str1,.slice a5 l2.length c5,.slice a6 l3.length c6] ag31 cX s7 rfl (aY M13.get rfl))<|aV (o := 0) (n := 5) [I i1,I i2,.string str1,.slice a5 l2.length c5,.slice a6 l3.length c6] [I i1,I i2,.string str1,.slice a5 l2.length c5,.slice a6 l3.length c6] (.agg #[I i1,I i2,.string str1,.slice a5 l2.length c5,.slice a6 l3.length c6]) cX rfl rfl s6 rfl M12 rfl rfl rfl rfl rfl (fun w5 wr2 M14 => ?_)
   have sp5 := wr2.st st.has M12.none
   have M15 := M11.call sp5 (fun e => ((Mut.ne_ty M11 M12 (by decide)) e))
   have M16 := M13.call sp5 (fun e => ((Ne.symm ne2) e))
   have st5 := st.call sp5 (fun x e => (.inl (e ▸ lb3)))
   obtain ⟨h2,le1,g2,st6,kp1⟩ := M14.fz st5 lb3
   have M17 := M15.fr kp1 (Mut.ne_ty M15 M14 (by decide))
   have M18 := M16.fr kp1 (Ne.symm ne2)
   refine aD ?_
   cases H
   exact aJ e89_27 (cG Try.results89 (eI [I i1,I i2,.string str1,.slice a5 l2.length c5,.slice a6 l3.length c6] ag31 cX s6 rfl (aY (st6.has _ _ g2) rfl)) ⟨a5,c5,a6,c6,a4,c4,h2,rfl,st6,(SlR.mono le1 R5),(SlR.mono le1 R6),(SlR.mono le1 R4),M17⟩)
 refine tr e89_10 (bK (cA hc1)) rfl<|aM e89_11<|aT e89_13<|aB e89_14<|aA e89_15<|vv rfl (aE (.map (some p2_b)) s2)<|vv rfl (aE (.pointer (some ⟨aS,0,none⟩)) s0)<|vv rfl (bG ⟨aS,0,none⟩ rfl)<|vv rfl (aF (b := aS) (o := 0) fl96_0 rfl) ?_
 obtain ⟨r2,hr2,H⟩ := aK H
 refine aU [.pointer (some ⟨aS,0,none⟩)] en69 rfl rfl rfl (F69 st.has R4 M11 hr2) ?_
 rintro _ w6 ⟨a7,c7,h3,rfl,sp6,R7,M19⟩
 have M20 := M12.call sp6 (fun e => ((Mut.ne_ty M12 M11 (by decide)) e))
 have M21 := M13.call sp6 (fun e => ((Mut.ne_ty M13 M11 (by decide)) e))
 have st7 := st.call sp6 (fun x e => (.inr e))
 refine vv rfl (x_fS (.string r2.1.S) ft118_1 sc9 rfl rfl) ?_
 obtain ⟨v1,rp1,lk1⟩ := MpF.look (zv := (I 0)) (zu := 0) (MpF.mono sp6.le g1) mt148 zr3 rfl r2.1.S
 obtain rfl := rep_int rp1
 refine vv rfl (x_lookup (v := (I ((dV p2 r2.1.S).getD 0))) rfl rfl (lk1 w6 st7.has false))<|vv rfl (aC (I ((dV p2 r2.1.S).getD 0)) rfl)<|aD<|aB e89_16<|aB e89_17<|aA e89_18<|vv rfl (aE (I ((dV p2 r2.1.S).getD 0)) rfl)<|vv rfl (aP .eql .i64 ((dV p2 r2.1.S).getD 0) 0 (.bool (decide (((dV p2 r2.1.S).getD 0) = 0))) 3 3 rfl rfl rfl)<|vv rfl (aE (.bool (decide (((dV p2 r2.1.S).getD 0) = 0))) rfl) ?_
 rcases aN H with ⟨hc2,H⟩ | ⟨hc2,H⟩
 · refine aR (wf2 (dT hc2) rfl) rfl<|aR (wf2 (dT hc2) rfl) rfl<|aR (wf2 (dT hc2) rfl) rfl<|aR (wf2 (dT hc2) rfl) rfl<|aR (wf2 (dT hc2) rfl) rfl<|aR (wf2 (dT hc2) rfl) rfl<|vv rfl (dH (.bool true) (dT hc2) rfl rfl)<|aD<|cQ e89_19 (p := true) rfl rfl<|bM e89_20 rfl ?_
   refine aB e89_25<|aA e89_26<|vv rfl (bH [I i1,I i2,.string str1,.slice a5 l2.length c5,.slice a6 l3.length c6] ag31 cX s7 rfl (aY M21.get rfl))<|aV (o := 0) (n := 5) [I i1,I i2,.string str1,.slice a5 l2.length c5,.slice a6 l3.length c6] [I i1,I i2,.string str1,.slice a5 l2.length c5,.slice a6 l3.length c6] (.agg #[I i1,I i2,.string str1,.slice a5 l2.length c5,.slice a6 l3.length c6]) cX rfl rfl s6 rfl M20 rfl rfl rfl rfl rfl (fun w7 wr3 M22 => ?_)
   have sp7 := wr3.st st7.has M20.none
   have M23 := M19.call sp7 (fun e => ((Mut.ne_ty M19 M20 (by decide)) e))
   have M24 := M21.call sp7 (fun e => ((Ne.symm ne2) e))
   have st8 := st7.call sp7 (fun x e => (.inl (e ▸ lb3)))
   obtain ⟨h4,le2,g3,st9,kp2⟩ := M22.fz st8 lb3
   have M25 := M23.fr kp2 (Mut.ne_ty M23 M22 (by decide))
   have M26 := M24.fr kp2 (Ne.symm ne2)
   refine aD ?_
   cases H
   exact aJ e89_27 (cG Try.results89 (eI [I i1,I i2,.string str1,.slice a5 l2.length c5,.slice a6 l3.length c6] ag31 cX s6 rfl (aY (st9.has _ _ g3) rfl)) ⟨a5,c5,a6,c6,a7,c7,h4,rfl,st9,(SlR.mono (sp6.le.trans le2) R5),(SlR.mono (sp6.le.trans le2) R6),(SlR.mono le2 R7),M25⟩)
 refine aZ (wt2 (dF hc2) rfl) rfl (aE (.pointer (some ⟨aS,0,none⟩)) s0)<|aZ (wt2 (dF hc2) rfl) rfl (bG ⟨aS,0,none⟩ rfl)<|aZ (wt2 (dF hc2) rfl) rfl (aF (b := aS) (o := 0) fl96_0 rfl) ?_
 obtain ⟨r3,hr3,H⟩ := aK H
 refine aU [.pointer (some ⟨aS,0,none⟩)] en69 (wt2 (dF hc2) rfl) rfl rfl (F69 st7.has R7 M19 hr3) ?_
 rintro _ w8 ⟨a8,c8,h5,rfl,sp8,R8,M27⟩
 have M28 := M20.call sp8 (fun e => ((Mut.ne_ty M20 M19 (by decide)) e))
 have M29 := M21.call sp8 (fun e => ((Mut.ne_ty M21 M19 (by decide)) e))
 have st10 := st7.call sp8 (fun x e => (.inr e))
 refine aZ (wt2 (dF hc2) rfl) rfl (x_fS (I r3.1.Kind) ft118_0 sc3 rfl rfl)<|aZ (wt2 (dF hc2) rfl) rfl (aP .neq .i64 r3.1.Kind 3 (.bool (!decide (r3.1.Kind = 3))) 3 3 rfl rfl rfl)<|vv rfl (dI (.bool (!decide (r3.1.Kind = 3))) (dF hc2) rfl rfl)<|aD ?_
 rcases aN H with ⟨hc3,H⟩ | ⟨hc3,H⟩
 · refine fa e89_19 (bL (dT hc3)) rfl<|aM e89_21<|aB e89_22<|aA e89_23<|vv rfl (aE (.pointer (some ⟨aS,0,none⟩)) s0)<|vv rfl (aE (.pointer (some ⟨aS,0,none⟩)) s0)<|vv rfl (bG ⟨aS,0,none⟩ rfl)<|vv rfl (aF (b := aS) (o := 0) fl96_0 rfl)<|vv rfl (aF (b := aS) (o := 0) fl94_0 rfl)<|vv rfl (aL (.slice a8 r3.2.1.length c8) sc87 rfl ((aQ M27.get).trans rfl)) ?_
   obtain ⟨hs1,H⟩ := cD H
   obtain ⟨a9,c9,ha1,hc4,R9⟩ := SlR.slice2 (lo := 1) (hi := (r3.2.1.length : Int)) R8 hs1.1 hs1.2.1 hs1.2.2
   refine vv rfl (eY (l := 1) (h := (r3.2.1.length : Int)) (kl := .i64) (kh := .i64) r3.2.1 rfl u87 eH rfl rfl rfl hs1.1 hs1.2.1 hs1.2.2 R8.lc ha1 hc4)<|vv rfl (bG ⟨aS,0,none⟩ rfl)<|vv rfl (aF (b := aS) (o := 0) fl96_0 rfl)<|vv rfl (aF (b := aS) (o := 0) fl94_0 rfl)<|aV (o := 0) (n := 1) [.slice a9 (((r3.2.1.take ((r3.2.1.length : Int) : Int).toNat).drop (1 : Int).toNat).length) c9] [.slice a9 (((r3.2.1.take ((r3.2.1.length : Int) : Int).toNat).drop (1 : Int).toNat).length) c9,.bool r3.2.2] (.slice a9 (((r3.2.1.take ((r3.2.1.length : Int) : Int).toNat).drop (1 : Int).toNat).length) c9) sz87 rfl rfl rfl rfl M27 rfl rfl rfl rfl rfl (fun w10 wr5 M35 => ?_)
   have sp10 := wr5.st st10.has M27.none
   have M36 := M28.call sp10 (fun e => ((Mut.ne_ty M28 M27 (by decide)) e))
   have M37 := M29.call sp10 (fun e => ((Mut.ne_ty M29 M27 (by decide)) e))
   have st13 := st10.call sp10 (fun x e => (.inr e))
   refine aD ?_
   refine dW [[(0,false),(1,false),(2,false),(3,true),(4,true),(5,false),(6,true)]] [3,4,6] [0,1,2,3,4,5,6] [0,1,2,3,4,5,6] (fun w_ => Has h5 w_ ∧ w_.heap[b2]? = some (.cells (List.toArray [I i1,I i2,.string str1,.slice a5 l2.length c5,.slice a6 l3.length c6]) 31 (0,0)) ∧ True) e89_24 k89_24 m89_24 (fun w11 al3 => ?_)
   have sp11 := al3.st st13.has
   have M38 := M35.call0 sp11
   have M39 := M36.call0 sp11
   have M40 := M37.call0 sp11
   have st14 := st13.call0 sp11
   refine ⟨⟨Has.le (Le.refl _) st14.has,M40.get,trivial⟩,?_,trivial⟩
   refine bI rfl rfl (fun w_ ok_ => aE (I ((dV p2 r2.1.S).getD 0)) rfl)<|bI rfl rfl (fun w_ ok_ => bH [I i1,I i2,.string str1,.slice a5 l2.length c5,.slice a6 l3.length c6] ag31 cX s7 rfl (aY ok_.2.1 rfl))<|bI rfl rfl (fun w_ ok_ => aE (.func (.func 90) #[.pointer (some ⟨aS,0,none⟩)] #[]) s1) ?_
   obtain ⟨bU,hrd1_3_2,H⟩ := aK H
   refine dr_c rfl (od_callV [.pointer (some ⟨aS,0,none⟩)] [] [] [.pointer (some ⟨aS,0,none⟩)] en90 rfl rfl rfl rfl (ih.2.2.2.2.1 st14.has R9 M38 hrd1_3_2) ?_)
   rintro _ wd1_3_3 ⟨ad1_3_6,cd1_3_7,ad1_3_9,cd1_3_10,ad1_3_12,cd1_3_13,hd1_3_4,rfl,dC,Rd1_3_8,Rd1_3_11,Rd1_3_14,Md1_3_15⟩
   have Md1_3_16 := M39.call dC (fun e => ((Mut.ne_ty M39 M38 (by decide)) e))
   have Md1_3_17 := M40.call dC (fun e => ((Mut.ne_ty M40 M38 (by decide)) e))
   have std1_3_18 := st14.call dC (fun x e => (.inr e))
   refine ⟨.inr ⟨Has.le dC.le std1_3_18.has,Md1_3_17.get,trivial⟩,?_⟩
   refine dr_c rfl (dU [I 0,I 0,.string ByteArray.empty,.slice none 0 0,.slice none 0 0,I 0,I 0,.string ByteArray.empty,.slice none 0 0,.slice none 0 0] [I i1,I i2,.string str1,.slice a5 l2.length c5,.slice a6 l3.length c6,I bU.1.Op,I bU.1.N,.string bU.1.Name,.slice ad1_3_6 bU.1.Index.length cd1_3_7,.slice ad1_3_9 bU.1.L.length cd1_3_10] [(0,.agg #[I i1,I i2,.string str1,.slice a5 l2.length c5,.slice a6 l3.length c6]),(1,.agg #[I bU.1.Op,I bU.1.N,.string bU.1.Name,.slice ad1_3_6 bU.1.Index.length cd1_3_7,.slice ad1_3_9 bU.1.L.length cd1_3_10])] u29 cX zr31 rfl rfl rfl (by kernel_rfl) rfl (by kernel_rfl) (fun fT wd1_4_2 ald1_4_3 => ?_))
   have lid1_4_8 : Lits hd1_3_4 [[I i1,I i2,.string str1,.slice a5 l2.length c5,.slice a6 l3.length c6],[I bU.1.Op,I bU.1.N,.string bU.1.Name,.slice ad1_3_6 bU.1.Index.length cd1_3_7,.slice ad1_3_9 bU.1.L.length cd1_3_10]] ([(⟨i1,i2,str1,l2,l3⟩ : GNode),bU.1] : List GNode) := (Lits.cons (GNode.into (h := hd1_3_4) (x := (⟨i1,i2,str1,l2,l3⟩ : GNode)) (SlR.mono (sp6.le.trans (sp8.le.trans dC.le)) R5) (SlR.mono (sp6.le.trans (sp8.le.trans dC.le)) R6)) (Lits.cons (GNode.into (h := hd1_3_4) (x := bU.1) Rd1_3_8 Rd1_3_11) Lits.nil))
   obtain ⟨hd1_4_4,dA,gd1_4_6,dO⟩ := ald1_4_3.fz std1_3_18.has
   have Md1_4_9 := Md1_3_15.call0 dO
   have Md1_4_10 := Md1_3_16.call0 dO
   have Md1_4_11 := Md1_3_17.call0 dO
   have std1_4_12 := std1_3_18.call0 dO
   have Rd1_4_13 : SlR _ _ _ ([(⟨i1,i2,str1,l2,l3⟩ : GNode),bU.1] : List GNode) := Lits.sl (n := 2) (Lits.mono dA lid1_4_8) rfl rfl (by decide) gd1_4_6
   refine ⟨.inr ⟨Has.le (dC.le.trans dA) std1_4_12.has,Md1_4_11.get,trivial⟩,?_⟩
   refine bI rfl rfl (fun w_ ok_ => dK (vs := [I ((dV p2 r2.1.S).getD 0),I 0,.string ByteArray.empty,.slice none 0 0,.slice (some ⟨fT,0,none⟩) 2 2]) [(0,I ((dV p2 r2.1.S).getD 0)),(4,.slice (some ⟨fT,0,none⟩) 2 2)] bd31 rfl rfl)<|dr_c rfl (od_store (o := 0) (n := 5) [I ((dV p2 r2.1.S).getD 0),I 0,.string ByteArray.empty,.slice none 0 0,.slice (some ⟨fT,0,none⟩) 2 2] [I ((dV p2 r2.1.S).getD 0),I 0,.string ByteArray.empty,.slice none 0 0,.slice (some ⟨fT,0,none⟩) 2 2] (.agg #[I ((dV p2 r2.1.S).getD 0),I 0,.string ByteArray.empty,.slice none 0 0,.slice (some ⟨fT,0,none⟩) 2 2]) cX rfl s7 rfl Md1_4_11 rfl rfl rfl rfl rfl (fun wd1_6_1 wrd1_6_2 Md1_6_3 => ?_))
   have spd1_6_4 := wrd1_6_2.st std1_4_12.has Md1_4_11.none
   have Md1_6_5 := Md1_4_9.call spd1_6_4 (fun e => ((Mut.ne_ty Md1_4_9 Md1_4_11 (by decide)) e))
   have Md1_6_6 := Md1_4_10.call spd1_6_4 (fun e => (ne2 e))
   have std1_6_7 := std1_4_12.call spd1_6_4 (fun x e => (.inl (e ▸ lb4)))
   refine ⟨.inl rfl,?_⟩
   refine dZ<|aW<|bF ?_
   exact ih.2.2.2.1 std1_6_7 s0 s1 s2 s6 s7 (SlR.mono dA Rd1_3_14) Md1_6_5 (MpF.mono (sp6.le.trans (sp8.le.trans (dC.le.trans dA))) g1) Md1_6_6 lb3 (SlR.none _) Rd1_4_13 Md1_6_3 lb4 ne2 H
 refine tr e89_19 (bK (dF hc3)) rfl<|bM e89_20 rfl<|aB e89_25<|aA e89_26<|vv rfl (bH [I i1,I i2,.string str1,.slice a5 l2.length c5,.slice a6 l3.length c6] ag31 cX s7 rfl (aY M29.get rfl))<|aV (o := 0) (n := 5) [I i1,I i2,.string str1,.slice a5 l2.length c5,.slice a6 l3.length c6] [I i1,I i2,.string str1,.slice a5 l2.length c5,.slice a6 l3.length c6] (.agg #[I i1,I i2,.string str1,.slice a5 l2.length c5,.slice a6 l3.length c6]) cX rfl rfl s6 rfl M28 rfl rfl rfl rfl rfl (fun w9 wr4 M30 => ?_)
 have sp9 := wr4.st st10.has M28.none
 have M31 := M27.call sp9 (fun e => ((Mut.ne_ty M27 M28 (by decide)) e))
 have M32 := M29.call sp9 (fun e => ((Ne.symm ne2) e))
 have st11 := st10.call sp9 (fun x e => (.inl (e ▸ lb3)))
 obtain ⟨h6,le3,g4,st12,kp3⟩ := M30.fz st11 lb3
 have M33 := M31.fr kp3 (Mut.ne_ty M31 M30 (by decide))
 have M34 := M32.fr kp3 (Ne.symm ne2)
 refine aD ?_
 cases H
 exact aJ e89_27 (cG Try.results89 (eI [I i1,I i2,.string str1,.slice a5 l2.length c5,.slice a6 l3.length c6] ag31 cX s6 rfl (aY (st12.has _ _ g4) rfl)) ⟨a5,c5,a6,c6,a8,c8,h6,rfl,st12,(SlR.mono (sp6.le.trans (sp8.le.trans le3)) R5),(SlR.mono (sp6.le.trans (sp8.le.trans le3)) R6),(SlR.mono le3 R8),M33⟩)
theorem S90_z : S90 0 := by
  unfold S90; intros; rename_i H; exact absurd H (by simp [m90])
theorem S90_s (k : Nat) (ih : ZS100 k) : S90 (k + 1) := by
 intro aS bW cJ bX cW w0 h0 hh dY Mp0 r H
 rw [m90] at H
 refine aO (fn := Try.f90) Try.func90 rfl (Nat.le_of_ble_eq_true rfl) ?_
 show Run X90 [.code c90_0] (fun t => List.getD [.pointer (some ⟨aS,0,none⟩)] t undef) w0 (.fn (Q90 w0 h0 aS r))
 have st0 := St.init hh (fun x => x = aS)
 refine aB e90_0<|aA e90_1<|cF (.agg #[I 0,I 0,.string ByteArray.empty,.slice none 0 0,.slice none 0 0]) zr31 rfl rfl (fun b1 w1 al1 => ?_)
 replace al1 : Al _ (.cells (List.toArray [I 0,I 0,.string ByteArray.empty,.slice none 0 0,.slice none 0 0]) 31 (0,0)) b1 w1 := al1
 have M1 := Mut.new st0 al1
 have lb1 := st0.alB al1
 have sp1 := al1.st st0.has
 have M2 := Mp0.call0 sp1
 have st1 := st0.call0 sp1
 refine aD<|aB e90_2<|aA e90_3<|vv rfl (aE (.pointer (some ⟨aS,0,none⟩)) rfl)<|vv rfl (aE (.pointer (some ⟨aS,0,none⟩)) rfl)<|vv rfl (eT (.func (.func 96) #[.pointer (some ⟨aS,0,none⟩)] #[]) (mf rfl rfl))<|rr_makeMap rfl rfl (fun b2 w2 al2 => ?_)
 have M3 : MpM _ _ b2 ([] : (List (ByteArray × Int))) := MpM.new st1 al2
 have lb2 := st1.alB al2
 have sp2 := al2.st st1.has
 have M4 := M2.call0 sp2
 have M5 := M1.call0 sp2
 have st2 := st1.call0 sp2
 refine rr_insert (l := ([] : (List (ByteArray × Int)))) (key := (⟨#[42]⟩ : ByteArray)) (v := (I 5)) 5 mt148 rfl rfl rfl rfl rfl M3 rfl st2.has (fun w3 M6 sp3 => ?_)
 have M7 := M4.call sp3 (fun e => ((Ne.symm (MpM.ne_mut M3 M4)) e))
 have M8 := M5.call sp3 (fun e => ((Ne.symm (MpM.ne_mut M3 M5)) e))
 have st3 := st2.call sp3 (fun x e => (.inl (e ▸ lb2)))
 refine vv rfl (aE (.map (some b2)) rfl) ?_
 obtain ⟨h1,le1,g1,st4,kp1⟩ := M6.fz st3 lb2
 have M9 := M7.fr kp1 (Ne.symm (MpM.ne_mut M6 M7))
 have M10 := M8.fr kp1 (Ne.symm (MpM.ne_mut M6 M8))
 obtain ⟨r1,hr1,H⟩ := aK H
 refine aU [.pointer (some ⟨aS,0,none⟩),.func (.func 96) #[.pointer (some ⟨aS,0,none⟩)] #[],.map (some b2)] en89 rfl rfl rfl (ih.2.2.2.2.2.1 st4.has (SlR.mono le1 dY) M9 g1 hr1) ?_
 rintro _ w4 ⟨a1,c1,a2,c2,a3,c3,h2,rfl,sp4,R1,R2,R3,M11⟩
 have M12 := M10.call sp4 (fun e => ((Mut.ne_ty M10 M9 (by decide)) e))
 have st5 := st4.call sp4 (fun x e => (.inr e))
 refine aV (o := 0) (n := 5) [I r1.1.Op,I r1.1.N,.string r1.1.Name,.slice a1 r1.1.Index.length c1,.slice a2 r1.1.L.length c2] [I r1.1.Op,I r1.1.N,.string r1.1.Name,.slice a1 r1.1.Index.length c1,.slice a2 r1.1.L.length c2] (.agg #[I r1.1.Op,I r1.1.N,.string r1.1.Name,.slice a1 r1.1.Index.length c1,.slice a2 r1.1.L.length c2]) cX rfl rfl rfl rfl M12 rfl rfl rfl rfl rfl (fun w5 wr1 M13 => ?_)
 have sp5 := wr1.st st5.has M12.none
 have M14 := M11.call sp5 (fun e => ((Mut.ne_ty M11 M12 (by decide)) e))
 have st6 := st5.call sp5 (fun x e => (.inl (e ▸ lb1)))
 obtain ⟨h3,le2,g2,st7,kp2⟩ := M13.fz st6 lb1
 have M15 := M14.fr kp2 (Mut.ne_ty M14 M13 (by decide))
 refine aD ?_
 cases H
 exact aJ e90_4 (cG Try.results90 (eI [I r1.1.Op,I r1.1.N,.string r1.1.Name,.slice a1 r1.1.Index.length c1,.slice a2 r1.1.L.length c2] ag31 cX rfl rfl (aY (st7.has _ _ g2) rfl)) ⟨a1,c1,a2,c2,a3,c3,h3,rfl,st7,(SlR.mono le2 R1),(SlR.mono le2 R2),(SlR.mono le2 R3),M15⟩)
theorem S89_1_z : S89_1 0 := by
  unfold S89_1; intros; rename_i H; exact absurd H (by simp [m89_1])
theorem S89_1_s (k : Nat) (ih : ZS100 k) : S89_1 (k + 1) := by
 intro aS bW p2_b cJ bX cW p2 w0 h0 hh dY Mp0 gp2 r H
 rw [m89_1] at H
 refine aO (fn := Try.f89) Try.func89 rfl (Nat.le_of_ble_eq_true rfl) ?_
 show Run X89 [.code c89_0] (fun t => List.getD [.pointer (some ⟨aS,0,none⟩),.func (.func 96) #[.pointer (some ⟨aS,0,none⟩)] #[],.map (some p2_b)] t undef) w0 (.fn (Q89_1 w0 h0 aS r))
 have st0 := St.init hh (fun x => x = aS)
 refine aB e89_0<|aA e89_1<|cF (.agg #[I 0,I 0,.string ByteArray.empty,.slice none 0 0,.slice none 0 0]) zr31 rfl rfl (fun b1 w1 al1 => ?_)
 replace al1 : Al _ (.cells (List.toArray [I 0,I 0,.string ByteArray.empty,.slice none 0 0,.slice none 0 0]) 31 (0,0)) b1 w1 := al1
 have M1 := Mut.new st0 al1
 have lb1 := st0.alB al1
 have sp1 := al1.st st0.has
 have M2 := Mp0.call0 sp1
 have st1 := st0.call0 sp1
 refine aD<|aB e89_2<|aA e89_3<|vv rfl (aE (.func (.func 96) #[.pointer (some ⟨aS,0,none⟩)] #[]) rfl) ?_
 obtain ⟨r1,hr1,H⟩ := aK H
 refine dR [.pointer (some ⟨aS,0,none⟩)] [] [] [.pointer (some ⟨aS,0,none⟩)] en96 rfl rfl rfl rfl rfl (ih.2.2.2.2.2.2.2 st1.has dY M2 hr1) ?_
 rintro _ w2 ⟨a1,c1,a2,c2,a3,c3,h1,rfl,sp2,R1,R2,R3,M3⟩
 have M4 := M1.call sp2 (fun e => ((Mut.ne_ty M1 M2 (by decide)) e))
 have st2 := st1.call sp2 (fun x e => (.inr e))
 refine cF (.agg #[I 0,I 0,.string ByteArray.empty,.slice none 0 0,.slice none 0 0]) zr31 rfl rfl (fun b2 w3 al2 => ?_)
 replace al2 : Al _ (.cells (List.toArray [I 0,I 0,.string ByteArray.empty,.slice none 0 0,.slice none 0 0]) 31 (0,0)) b2 w3 := al2
 have ne1 := M4.ne_al al2
 have M5 := Mut.new st2 al2
 have lb2 := st2.alB al2
 have sp3 := al2.st st2.has
 have M6 := M3.call0 sp3
 have M7 := M4.call0 sp3
 have st3 := st2.call0 sp3
 refine aV (o := 0) (n := 5) [I r1.1.Op,I r1.1.N,.string r1.1.Name,.slice a1 r1.1.Index.length c1,.slice a2 r1.1.L.length c2] [I r1.1.Op,I r1.1.N,.string r1.1.Name,.slice a1 r1.1.Index.length c1,.slice a2 r1.1.L.length c2] (.agg #[I r1.1.Op,I r1.1.N,.string r1.1.Name,.slice a1 r1.1.Index.length c1,.slice a2 r1.1.L.length c2]) cX rfl rfl rfl rfl M5 rfl rfl rfl rfl rfl (fun w4 wr1 M8 => ?_)
 have sp4 := wr1.st st3.has M5.none
 have M9 := M6.call sp4 (fun e => ((Mut.ne_ty M6 M5 (by decide)) e))
 have M10 := M7.call sp4 (fun e => (ne1 e))
 have st4 := st3.call sp4 (fun x e => (.inl (e ▸ lb2)))
 refine aD<|aB e89_4<|aT e89_5<|cB e89_6 ?_
 exact ih.2.2.2.2.2.2.1 st4 rfl rfl rfl rfl rfl R3 M9 (MpF.mono sp2.le gp2) M10 lb1 R1 R2 M8 lb2 ne1 H
theorem SLl89_1_0_z : SLl89_1_0 0 := by
  unfold SLl89_1_0; intros; rename_i H; exact absurd H (by simp [l89_1_0])
theorem SLl89_1_0_s (k : Nat) (ih : ZS100 k) : SLl89_1_0 (k + 1) := by
 intro aS p2_b b1 b2 c4 c5 c6 p2 w0 w h0 h σ l1 a4 a5 a6 b3 i1 i2 str1 l2 l3 r st s0 s1 s2 s6 s7 R4 M11 g1 M12 lb3 R5 R6 M13 lb4 ne2 H
 rw [l89_1_0] at H
 refine aB e89_7<|aB e89_8<|aA e89_9<|vv rfl (aE (.pointer (some ⟨aS,0,none⟩)) s0)<|vv rfl (bG ⟨aS,0,none⟩ rfl)<|vv rfl (aF (b := aS) (o := 0) fl96_1 rfl)<|vv rfl (aL (.bool b3) sc4 rfl ((aQ M11.get).trans rfl))<|vv rfl (eA b3 4 rfl)<|aD ?_
 rcases aN H with ⟨hc1,H⟩ | ⟨hc1,H⟩
 · refine fa e89_10 (bL hc1) rfl<|bM e89_12 rfl<|aB e89_25<|aA e89_26<|vv rfl (bH [I i1,I i2,.string str1,.slice a5 l2.length c5,.slice a6 l3.length c6] ag31 cX s7 rfl (aY M13.get rfl))<|aV (o := 0) (n := 5) [I i1,I i2,.string str1,.slice a5 l2.length c5,.slice a6 l3.length c6] [I i1,I i2,.string str1,.slice a5 l2.length c5,.slice a6 l3.length c6] (.agg #[I i1,I i2,.string str1,.slice a5 l2.length c5,.slice a6 l3.length c6]) cX rfl rfl s6 rfl M12 rfl rfl rfl rfl rfl (fun w5 wr2 M14 => ?_)
   have sp5 := wr2.st st.has M12.none
   have M15 := M11.call sp5 (fun e => ((Mut.ne_ty M11 M12 (by decide)) e))
   have M16 := M13.call sp5 (fun e => ((Ne.symm ne2) e))
   have st5 := st.call sp5 (fun x e => (.inl (e ▸ lb3)))
   obtain ⟨h2,le1,g2,st6,kp1⟩ := M14.fz st5 lb3
   have M17 := M15.fr kp1 (Mut.ne_ty M15 M14 (by decide))
   have M18 := M16.fr kp1 (Ne.symm ne2)
   refine aD ?_
   cases H
   exact aJ e89_27 (cG Try.results89 (eI [I i1,I i2,.string str1,.slice a5 l2.length c5,.slice a6 l3.length c6] ag31 cX s6 rfl (aY (st6.has _ _ g2) rfl)) ⟨a5,c5,a6,c6,a4,c4,h2,rfl,st6,(SlR.mono le1 R5),(SlR.mono le1 R6),(SlR.mono le1 R4),M17⟩)
 refine tr e89_10 (bK (cA hc1)) rfl<|aM e89_11<|aT e89_13<|aB e89_14<|aA e89_15<|vv rfl (aE (.map (some p2_b)) s2)<|vv rfl (aE (.pointer (some ⟨aS,0,none⟩)) s0)<|vv rfl (bG ⟨aS,0,none⟩ rfl)<|vv rfl (aF (b := aS) (o := 0) fl96_0 rfl) ?_
 obtain ⟨r2,hr2,H⟩ := aK H
 refine aU [.pointer (some ⟨aS,0,none⟩)] en69 rfl rfl rfl (F69 st.has R4 M11 hr2) ?_
 rintro _ w6 ⟨a7,c7,h3,rfl,sp6,R7,M19⟩
 have M20 := M12.call sp6 (fun e => ((Mut.ne_ty M12 M11 (by decide)) e))
 have M21 := M13.call sp6 (fun e => ((Mut.ne_ty M13 M11 (by decide)) e))
 have st7 := st.call sp6 (fun x e => (.inr e))
 refine vv rfl (x_fS (.string r2.1.S) ft118_1 sc9 rfl rfl) ?_
 obtain ⟨v1,rp1,lk1⟩ := MpF.look (zv := (I 0)) (zu := 0) (MpF.mono sp6.le g1) mt148 zr3 rfl r2.1.S
 obtain rfl := rep_int rp1
 refine vv rfl (x_lookup (v := (I ((dV p2 r2.1.S).getD 0))) rfl rfl (lk1 w6 st7.has false))<|vv rfl (aC (I ((dV p2 r2.1.S).getD 0)) rfl)<|aD<|aB e89_16<|aB e89_17<|aA e89_18<|vv rfl (aE (I ((dV p2 r2.1.S).getD 0)) rfl)<|vv rfl (aP .eql .i64 ((dV p2 r2.1.S).getD 0) 0 (.bool (decide (((dV p2 r2.1.S).getD 0) = 0))) 3 3 rfl rfl rfl)<|vv rfl (aE (.bool (decide (((dV p2 r2.1.S).getD 0) = 0))) rfl) ?_
 rcases aN H with ⟨hc2,H⟩ | ⟨hc2,H⟩
 · refine aR (wf2 (dT hc2) rfl) rfl<|aR (wf2 (dT hc2) rfl) rfl<|aR (wf2 (dT hc2) rfl) rfl<|aR (wf2 (dT hc2) rfl) rfl<|aR (wf2 (dT hc2) rfl) rfl<|aR (wf2 (dT hc2) rfl) rfl<|vv rfl (dH (.bool true) (dT hc2) rfl rfl)<|aD<|cQ e89_19 (p := true) rfl rfl<|bM e89_20 rfl ?_
   refine aB e89_25<|aA e89_26<|vv rfl (bH [I i1,I i2,.string str1,.slice a5 l2.length c5,.slice a6 l3.length c6] ag31 cX s7 rfl (aY M21.get rfl))<|aV (o := 0) (n := 5) [I i1,I i2,.string str1,.slice a5 l2.length c5,.slice a6 l3.length c6] [I i1,I i2,.string str1,.slice a5 l2.length c5,.slice a6 l3.length c6] (.agg #[I i1,I i2,.string str1,.slice a5 l2.length c5,.slice a6 l3.length c6]) cX rfl rfl s6 rfl M20 rfl rfl rfl rfl rfl (fun w7 wr3 M22 => ?_)
   have sp7 := wr3.st st7.has M20.none
   have M23 := M19.call sp7 (fun e => ((Mut.ne_ty M19 M20 (by decide)) e))
   have M24 := M21.call sp7 (fun e => ((Ne.symm ne2) e))
   have st8 := st7.call sp7 (fun x e => (.inl (e ▸ lb3)))
   obtain ⟨h4,le2,g3,st9,kp2⟩ := M22.fz st8 lb3
   have M25 := M23.fr kp2 (Mut.ne_ty M23 M22 (by decide))
   have M26 := M24.fr kp2 (Ne.symm ne2)
   refine aD ?_
   cases H
   exact aJ e89_27 (cG Try.results89 (eI [I i1,I i2,.string str1,.slice a5 l2.length c5,.slice a6 l3.length c6] ag31 cX s6 rfl (aY (st9.has _ _ g3) rfl)) ⟨a5,c5,a6,c6,a7,c7,h4,rfl,st9,(SlR.mono (sp6.le.trans le2) R5),(SlR.mono (sp6.le.trans le2) R6),(SlR.mono le2 R7),M25⟩)
 refine aZ (wt2 (dF hc2) rfl) rfl (aE (.pointer (some ⟨aS,0,none⟩)) s0)<|aZ (wt2 (dF hc2) rfl) rfl (bG ⟨aS,0,none⟩ rfl)<|aZ (wt2 (dF hc2) rfl) rfl (aF (b := aS) (o := 0) fl96_0 rfl) ?_
 obtain ⟨r3,hr3,H⟩ := aK H
 refine aU [.pointer (some ⟨aS,0,none⟩)] en69 (wt2 (dF hc2) rfl) rfl rfl (F69 st7.has R7 M19 hr3) ?_
 rintro _ w8 ⟨a8,c8,h5,rfl,sp8,R8,M27⟩
 have M28 := M20.call sp8 (fun e => ((Mut.ne_ty M20 M19 (by decide)) e))
 have M29 := M21.call sp8 (fun e => ((Mut.ne_ty M21 M19 (by decide)) e))
 have st10 := st7.call sp8 (fun x e => (.inr e))
 refine aZ (wt2 (dF hc2) rfl) rfl (x_fS (I r3.1.Kind) ft118_0 sc3 rfl rfl)<|aZ (wt2 (dF hc2) rfl) rfl (aP .neq .i64 r3.1.Kind 3 (.bool (!decide (r3.1.Kind = 3))) 3 3 rfl rfl rfl)<|vv rfl (dI (.bool (!decide (r3.1.Kind = 3))) (dF hc2) rfl rfl)<|aD ?_
 rcases aN H with ⟨hc3,H⟩ | ⟨hc3,H⟩
 · refine fa e89_19 (bL (dT hc3)) rfl<|aM e89_21<|aB e89_22<|aA e89_23<|vv rfl (aE (.pointer (some ⟨aS,0,none⟩)) s0)<|vv rfl (aE (.pointer (some ⟨aS,0,none⟩)) s0)<|vv rfl (bG ⟨aS,0,none⟩ rfl)<|vv rfl (aF (b := aS) (o := 0) fl96_0 rfl)<|vv rfl (aF (b := aS) (o := 0) fl94_0 rfl)<|vv rfl (aL (.slice a8 r3.2.1.length c8) sc87 rfl ((aQ M27.get).trans rfl)) ?_
   obtain ⟨hs1,H⟩ := cD H
   obtain ⟨a9,c9,ha1,hc4,R9⟩ := SlR.slice2 (lo := 1) (hi := (r3.2.1.length : Int)) R8 hs1.1 hs1.2.1 hs1.2.2
   refine vv rfl (eY (l := 1) (h := (r3.2.1.length : Int)) (kl := .i64) (kh := .i64) r3.2.1 rfl u87 eH rfl rfl rfl hs1.1 hs1.2.1 hs1.2.2 R8.lc ha1 hc4)<|vv rfl (bG ⟨aS,0,none⟩ rfl)<|vv rfl (aF (b := aS) (o := 0) fl96_0 rfl)<|vv rfl (aF (b := aS) (o := 0) fl94_0 rfl)<|aV (o := 0) (n := 1) [.slice a9 (((r3.2.1.take ((r3.2.1.length : Int) : Int).toNat).drop (1 : Int).toNat).length) c9] [.slice a9 (((r3.2.1.take ((r3.2.1.length : Int) : Int).toNat).drop (1 : Int).toNat).length) c9,.bool r3.2.2] (.slice a9 (((r3.2.1.take ((r3.2.1.length : Int) : Int).toNat).drop (1 : Int).toNat).length) c9) sz87 rfl rfl rfl rfl M27 rfl rfl rfl rfl rfl (fun w10 wr5 M35 => ?_)
   have sp10 := wr5.st st10.has M27.none
   have M36 := M28.call sp10 (fun e => ((Mut.ne_ty M28 M27 (by decide)) e))
   have M37 := M29.call sp10 (fun e => ((Mut.ne_ty M29 M27 (by decide)) e))
   have st13 := st10.call sp10 (fun x e => (.inr e))
   refine aD ?_
   refine dW [[(0,false),(1,false),(2,false),(3,true),(4,true),(5,false),(6,true)]] [3,4,6] [0,1,2,3,4,5,6] [0,1,2,3,4,5,6] (fun w_ => Has h5 w_ ∧ w_.heap[b2]? = some (.cells (List.toArray [I i1,I i2,.string str1,.slice a5 l2.length c5,.slice a6 l3.length c6]) 31 (0,0)) ∧ True) e89_24 k89_24 m89_24 (fun w11 al3 => ?_)
   have sp11 := al3.st st13.has
   have M38 := M35.call0 sp11
   have M39 := M36.call0 sp11
   have M40 := M37.call0 sp11
   have st14 := st13.call0 sp11
   refine ⟨⟨Has.le (Le.refl _) st14.has,M40.get,trivial⟩,?_,trivial⟩
   refine bI rfl rfl (fun w_ ok_ => aE (I ((dV p2 r2.1.S).getD 0)) rfl)<|bI rfl rfl (fun w_ ok_ => bH [I i1,I i2,.string str1,.slice a5 l2.length c5,.slice a6 l3.length c6] ag31 cX s7 rfl (aY ok_.2.1 rfl))<|bI rfl rfl (fun w_ ok_ => aE (.func (.func 96) #[.pointer (some ⟨aS,0,none⟩)] #[]) s1) ?_
   obtain ⟨bU,hrd1_3_2,H⟩ := aK H
   refine dr_c rfl (od_callV [.pointer (some ⟨aS,0,none⟩)] [] [] [.pointer (some ⟨aS,0,none⟩)] en96 rfl rfl rfl rfl (ih.2.2.2.2.2.2.2 st14.has R9 M38 hrd1_3_2) ?_)
   rintro _ wd1_3_3 ⟨ad1_3_6,cd1_3_7,ad1_3_9,cd1_3_10,ad1_3_12,cd1_3_13,hd1_3_4,rfl,dC,Rd1_3_8,Rd1_3_11,Rd1_3_14,Md1_3_15⟩
   have Md1_3_16 := M39.call dC (fun e => ((Mut.ne_ty M39 M38 (by decide)) e))
   have Md1_3_17 := M40.call dC (fun e => ((Mut.ne_ty M40 M38 (by decide)) e))
   have std1_3_18 := st14.call dC (fun x e => (.inr e))
   refine ⟨.inr ⟨Has.le dC.le std1_3_18.has,Md1_3_17.get,trivial⟩,?_⟩
   refine dr_c rfl (dU [I 0,I 0,.string ByteArray.empty,.slice none 0 0,.slice none 0 0,I 0,I 0,.string ByteArray.empty,.slice none 0 0,.slice none 0 0] [I i1,I i2,.string str1,.slice a5 l2.length c5,.slice a6 l3.length c6,I bU.1.Op,I bU.1.N,.string bU.1.Name,.slice ad1_3_6 bU.1.Index.length cd1_3_7,.slice ad1_3_9 bU.1.L.length cd1_3_10] [(0,.agg #[I i1,I i2,.string str1,.slice a5 l2.length c5,.slice a6 l3.length c6]),(1,.agg #[I bU.1.Op,I bU.1.N,.string bU.1.Name,.slice ad1_3_6 bU.1.Index.length cd1_3_7,.slice ad1_3_9 bU.1.L.length cd1_3_10])] u29 cX zr31 rfl rfl rfl (by kernel_rfl) rfl (by kernel_rfl) (fun fT wd1_4_2 ald1_4_3 => ?_))
   have lid1_4_8 : Lits hd1_3_4 [[I i1,I i2,.string str1,.slice a5 l2.length c5,.slice a6 l3.length c6],[I bU.1.Op,I bU.1.N,.string bU.1.Name,.slice ad1_3_6 bU.1.Index.length cd1_3_7,.slice ad1_3_9 bU.1.L.length cd1_3_10]] ([(⟨i1,i2,str1,l2,l3⟩ : GNode),bU.1] : List GNode) := (Lits.cons (GNode.into (h := hd1_3_4) (x := (⟨i1,i2,str1,l2,l3⟩ : GNode)) (SlR.mono (sp6.le.trans (sp8.le.trans dC.le)) R5) (SlR.mono (sp6.le.trans (sp8.le.trans dC.le)) R6)) (Lits.cons (GNode.into (h := hd1_3_4) (x := bU.1) Rd1_3_8 Rd1_3_11) Lits.nil))
   obtain ⟨hd1_4_4,dA,gd1_4_6,dO⟩ := ald1_4_3.fz std1_3_18.has
   have Md1_4_9 := Md1_3_15.call0 dO
   have Md1_4_10 := Md1_3_16.call0 dO
   have Md1_4_11 := Md1_3_17.call0 dO
   have std1_4_12 := std1_3_18.call0 dO
   have Rd1_4_13 : SlR _ _ _ ([(⟨i1,i2,str1,l2,l3⟩ : GNode),bU.1] : List GNode) := Lits.sl (n := 2) (Lits.mono dA lid1_4_8) rfl rfl (by decide) gd1_4_6
   refine ⟨.inr ⟨Has.le (dC.le.trans dA) std1_4_12.has,Md1_4_11.get,trivial⟩,?_⟩
   refine bI rfl rfl (fun w_ ok_ => dK (vs := [I ((dV p2 r2.1.S).getD 0),I 0,.string ByteArray.empty,.slice none 0 0,.slice (some ⟨fT,0,none⟩) 2 2]) [(0,I ((dV p2 r2.1.S).getD 0)),(4,.slice (some ⟨fT,0,none⟩) 2 2)] bd31 rfl rfl)<|dr_c rfl (od_store (o := 0) (n := 5) [I ((dV p2 r2.1.S).getD 0),I 0,.string ByteArray.empty,.slice none 0 0,.slice (some ⟨fT,0,none⟩) 2 2] [I ((dV p2 r2.1.S).getD 0),I 0,.string ByteArray.empty,.slice none 0 0,.slice (some ⟨fT,0,none⟩) 2 2] (.agg #[I ((dV p2 r2.1.S).getD 0),I 0,.string ByteArray.empty,.slice none 0 0,.slice (some ⟨fT,0,none⟩) 2 2]) cX rfl s7 rfl Md1_4_11 rfl rfl rfl rfl rfl (fun wd1_6_1 wrd1_6_2 Md1_6_3 => ?_))
   have spd1_6_4 := wrd1_6_2.st std1_4_12.has Md1_4_11.none
   have Md1_6_5 := Md1_4_9.call spd1_6_4 (fun e => ((Mut.ne_ty Md1_4_9 Md1_4_11 (by decide)) e))
   have Md1_6_6 := Md1_4_10.call spd1_6_4 (fun e => (ne2 e))
   have std1_6_7 := std1_4_12.call spd1_6_4 (fun x e => (.inl (e ▸ lb4)))
   refine ⟨.inl rfl,?_⟩
   refine dZ<|aW<|bF ?_
   exact ih.2.2.2.2.2.2.1 std1_6_7 s0 s1 s2 s6 s7 (SlR.mono dA Rd1_3_14) Md1_6_5 (MpF.mono (sp6.le.trans (sp8.le.trans (dC.le.trans dA))) g1) Md1_6_6 lb3 (SlR.none _) Rd1_4_13 Md1_6_3 lb4 ne2 H
 refine tr e89_19 (bK (dF hc3)) rfl<|bM e89_20 rfl<|aB e89_25<|aA e89_26<|vv rfl (bH [I i1,I i2,.string str1,.slice a5 l2.length c5,.slice a6 l3.length c6] ag31 cX s7 rfl (aY M29.get rfl))<|aV (o := 0) (n := 5) [I i1,I i2,.string str1,.slice a5 l2.length c5,.slice a6 l3.length c6] [I i1,I i2,.string str1,.slice a5 l2.length c5,.slice a6 l3.length c6] (.agg #[I i1,I i2,.string str1,.slice a5 l2.length c5,.slice a6 l3.length c6]) cX rfl rfl s6 rfl M28 rfl rfl rfl rfl rfl (fun w9 wr4 M30 => ?_)
 have sp9 := wr4.st st10.has M28.none
 have M31 := M27.call sp9 (fun e => ((Mut.ne_ty M27 M28 (by decide)) e))
 have M32 := M29.call sp9 (fun e => ((Ne.symm ne2) e))
 have st11 := st10.call sp9 (fun x e => (.inl (e ▸ lb3)))
 obtain ⟨h6,le3,g4,st12,kp3⟩ := M30.fz st11 lb3
 have M33 := M31.fr kp3 (Mut.ne_ty M31 M30 (by decide))
 have M34 := M32.fr kp3 (Ne.symm ne2)
 refine aD ?_
 cases H
 exact aJ e89_27 (cG Try.results89 (eI [I i1,I i2,.string str1,.slice a5 l2.length c5,.slice a6 l3.length c6] ag31 cX s6 rfl (aY (st12.has _ _ g4) rfl)) ⟨a5,c5,a6,c6,a8,c8,h6,rfl,st12,(SlR.mono (sp6.le.trans (sp8.le.trans le3)) R5),(SlR.mono (sp6.le.trans (sp8.le.trans le3)) R6),(SlR.mono le3 R8),M33⟩)
theorem S96_z : S96 0 := by
  unfold S96; intros; rename_i H; exact absurd H (by simp [m96])
theorem S96_s (k : Nat) (ih : ZS100 k) : S96 (k + 1) := by
 intro aS bW cJ bX cW w0 h0 hh dY Mp0 r H
 rw [m96] at H
 refine aO (fn := Try.f96) Try.func96 rfl (Nat.le_of_ble_eq_true rfl) ?_
 show Run X96 [.code c96_0] (fun t => List.getD [.pointer (some ⟨aS,0,none⟩)] t undef) w0 (.fn (Q96 w0 h0 aS r))
 have st0 := St.init hh (fun x => x = aS)
 refine aB e96_0<|aA e96_1<|cF (.agg #[I 0,I 0,.string ByteArray.empty,.slice none 0 0,.slice none 0 0]) zr31 rfl rfl (fun b1 w1 al1 => ?_)
 replace al1 : Al _ (.cells (List.toArray [I 0,I 0,.string ByteArray.empty,.slice none 0 0,.slice none 0 0]) 31 (0,0)) b1 w1 := al1
 have M1 := Mut.new st0 al1
 have lb1 := st0.alB al1
 have sp1 := al1.st st0.has
 have M2 := Mp0.call0 sp1
 have st1 := st0.call0 sp1
 refine aD<|aB e96_2<|aT e96_3<|aB e96_4<|aA e96_5<|vv rfl (aE (.pointer (some ⟨aS,0,none⟩)) rfl)<|vv rfl (bG ⟨aS,0,none⟩ rfl)<|vv rfl (aF (b := aS) (o := 0) fl96_1 rfl)<|vv rfl (aL (.bool cW) sc4 rfl ((aQ M2.get).trans rfl))<|vv rfl (aC (.bool cW) rfl) ?_
 refine aD ?_
 obtain ⟨j1,hj1,H⟩ := dE H
 have Jj1 : ∀ {y1 : (List GToken)} {y2 : Bool} {y3 y4 : Int} {y5 : ByteArray} {y6 : (List ByteArray)} {y7 : (List GNode)} {a19 a20 a21 : OA} {c19 c20 c21 : Nat} {σ1 : Env} {w21 : World} {h13 : Sto},Le h0 h13 → St w0 (fun x => x = aS) h0 h13 w21 → σ1 2 = .pointer (some ⟨b1,0,none⟩) → SlR h13 a19 c19 y1 → Mut h13 w21 aS (.cells (List.toArray [.slice a19 y1.length c19,.bool y2]) 96 (0,0)) → SlR h13 a20 c20 y6 → SlR h13 a21 c21 y7 → Mut h13 w21 b1 (.cells (List.toArray [I y3,I y4,.string y5,.slice a20 y6.length c20,.slice a21 y7.length c21]) 31 (0,0)) → j1 y1 y2 y3 y4 y5 y6 y7 = some r → Run X96 [.inBlock 0,.code c96_29] σ1 w21 (.fn (Q96 w0 h0 aS r)) := by
  intro y1 y2 y3 y4 y5 y6 y7 a19 a20 a21 c19 c20 c21 σ1 w21 h13 le2 st21 s2_j1 R20 M41 R21 R22 M42 H
  rw [hj1] at H
  refine aW<|aB e96_29<|aA e96_30<|vv rfl (bH [I y3,I y4,.string y5,.slice a20 y6.length c20,.slice a21 y7.length c21] ag31 cX s2_j1 rfl (aY M42.get rfl))<|aV (o := 0) (n := 5) [I y3,I y4,.string y5,.slice a20 y6.length c20,.slice a21 y7.length c21] [I y3,I y4,.string y5,.slice a20 y6.length c20,.slice a21 y7.length c21] (.agg #[I y3,I y4,.string y5,.slice a20 y6.length c20,.slice a21 y7.length c21]) cX rfl rfl s2_j1 rfl M42 rfl rfl rfl rfl rfl (fun w22 wr8 M43 => ?_)
  have sp21 := wr8.st st21.has M42.none
  have M44 := M41.call sp21 (fun e => ((Mut.ne_ty M41 M42 (by decide)) e))
  have st22 := st21.call sp21 (fun x e => (.inl (e ▸ lb1)))
  refine aD ?_
  cases H
  exact aJ e96_31 (cG Try.results96 (eI [I y3,I y4,.string y5,.slice a20 y6.length c20,.slice a21 y7.length c21] ag31 cX s2_j1 rfl (aY M43.get rfl)) ⟨a20,c20,a21,c21,a19,c19,h13,rfl,st22,R21,R22,R20,M44⟩)
 rcases aN H with ⟨hc1,H⟩ | ⟨hc1,H⟩
 · refine tr e96_6 hc1 rfl<|aM e96_7 ?_
   exact Jj1 (Le.refl _) st1 rfl dY M2 (SlR.none _) (SlR.none _) M1 H
 refine fa e96_6 (cA hc1) rfl<|aB e96_8<|aA e96_9<|vv rfl (aE (.pointer (some ⟨aS,0,none⟩)) rfl) ?_
 obtain ⟨r1,hr1,H⟩ := aK H
 refine aU [.pointer (some ⟨aS,0,none⟩),.string (⟨#[45]⟩ : ByteArray)] en88 rfl rfl rfl (F88 st1.has dY M2 hr1) ?_
 rintro _ w2 ⟨a1,c1,h1,rfl,sp2,R1,M3⟩
 have M4 := M1.call sp2 (fun e => ((Mut.ne_ty M1 M2 (by decide)) e))
 have st2 := st1.call sp2 (fun x e => (.inr e))
 refine vv rfl (aC (.bool r1.1) rfl)<|aD ?_
 rcases aN H with ⟨hc2,H⟩ | ⟨hc2,H⟩
 · refine tr e96_10 hc2 rfl<|aA e96_11<|vv rfl (aE (.pointer (some ⟨aS,0,none⟩)) rfl) ?_
   obtain ⟨r2,hr2,H⟩ := aK H
   refine aU [.pointer (some ⟨aS,0,none⟩)] en96 rfl rfl rfl (ih.2.2.2.2.2.2.2 st2.has R1 M3 hr2) ?_
   rintro _ w3 ⟨a2,c2,a3,c3,a4,c4,h2,rfl,sp3,R2,R3,R4,M5⟩
   have M6 := M4.call sp3 (fun e => ((Mut.ne_ty M4 M3 (by decide)) e))
   have st3 := st2.call sp3 (fun x e => (.inr e))
   refine cH [I 0,I 0,.string ByteArray.empty,.slice none 0 0,.slice none 0 0] [I r2.1.Op,I r2.1.N,.string r2.1.Name,.slice a2 r2.1.Index.length c2,.slice a3 r2.1.L.length c3] [(0,.agg #[I r2.1.Op,I r2.1.N,.string r2.1.Name,.slice a2 r2.1.Index.length c2,.slice a3 r2.1.L.length c3])] u29 cX zr31 rfl rfl rfl rfl (by kernel_rfl) rfl (by kernel_rfl) (fun b2 w4 al2 => ?_)
   have li1 : Lits h2 [[I r2.1.Op,I r2.1.N,.string r2.1.Name,.slice a2 r2.1.Index.length c2,.slice a3 r2.1.L.length c3]] ([r2.1] : List GNode) := (Lits.cons (GNode.into (h := h2) (x := r2.1) R2 R3) Lits.nil)
   obtain ⟨h3,le1,g1,sp4⟩ := al2.fz st3.has
   have M7 := M5.call0 sp4
   have M8 := M6.call0 sp4
   have st4 := st3.call0 sp4
   have R5 : SlR _ _ _ ([r2.1] : List GNode) := Lits.sl (n := 1) (Lits.mono le1 li1) rfl rfl (by decide) g1
   refine vv rfl (dK (vs := [I 6,I 0,.string ByteArray.empty,.slice none 0 0,.slice (some ⟨b2,0,none⟩) 1 1]) [(0,I 6),(4,.slice (some ⟨b2,0,none⟩) 1 1)] bd31 rfl rfl)<|aV (o := 0) (n := 5) [I 6,I 0,.string ByteArray.empty,.slice none 0 0,.slice (some ⟨b2,0,none⟩) 1 1] [I 6,I 0,.string ByteArray.empty,.slice none 0 0,.slice (some ⟨b2,0,none⟩) 1 1] (.agg #[I 6,I 0,.string ByteArray.empty,.slice none 0 0,.slice (some ⟨b2,0,none⟩) 1 1]) cX rfl rfl rfl rfl M8 rfl rfl rfl rfl rfl (fun w5 wr1 M9 => ?_)
   have sp5 := wr1.st st4.has M8.none
   have M10 := M7.call sp5 (fun e => ((Mut.ne_ty M7 M8 (by decide)) e))
   have st5 := st4.call sp5 (fun x e => (.inl (e ▸ lb1)))
   refine aD ?_
   exact Jj1 (sp2.le.trans (sp3.le.trans le1)) st5 rfl (SlR.mono le1 R4) M10 (SlR.none _) R5 M9 H
 refine fa e96_10 (cA hc2) rfl<|aB e96_12<|aA e96_13<|vv rfl (aE (.pointer (some ⟨aS,0,none⟩)) rfl) ?_
 obtain ⟨r3,hr3,H⟩ := aK H
 refine aU [.pointer (some ⟨aS,0,none⟩),.string (⟨#[40]⟩ : ByteArray)] en88 rfl rfl rfl (F88 st2.has R1 M3 hr3) ?_
 rintro _ w6 ⟨a5,c5,h4,rfl,sp6,R6,M11⟩
 have M12 := M4.call sp6 (fun e => ((Mut.ne_ty M4 M3 (by decide)) e))
 have st6 := st2.call sp6 (fun x e => (.inr e))
 refine vv rfl (aC (.bool r3.1) rfl)<|aD ?_
 rcases aN H with ⟨hc3,H⟩ | ⟨hc3,H⟩
 · refine tr e96_14 hc3 rfl<|aB e96_15<|aA e96_16<|vv rfl (aE (.pointer (some ⟨aS,0,none⟩)) rfl) ?_
   obtain ⟨r4,hr4,H⟩ := aK H
   refine aU [.pointer (some ⟨aS,0,none⟩)] en76 rfl rfl rfl (ih.2.1 st6.has R6 M11 hr4) ?_
   rintro _ w7 ⟨a6,c6,a7,c7,a8,c8,h5,rfl,sp7,R7,R8,R9,M13⟩
   have M14 := M12.call sp7 (fun e => ((Mut.ne_ty M12 M11 (by decide)) e))
   have st7 := st6.call sp7 (fun x e => (.inr e))
   refine aV (o := 0) (n := 5) [I r4.1.Op,I r4.1.N,.string r4.1.Name,.slice a6 r4.1.Index.length c6,.slice a7 r4.1.L.length c7] [I r4.1.Op,I r4.1.N,.string r4.1.Name,.slice a6 r4.1.Index.length c6,.slice a7 r4.1.L.length c7] (.agg #[I r4.1.Op,I r4.1.N,.string r4.1.Name,.slice a6 r4.1.Index.length c6,.slice a7 r4.1.L.length c7]) cX rfl rfl rfl rfl M14 rfl rfl rfl rfl rfl (fun w8 wr2 M15 => ?_)
   have sp8 := wr2.st st7.has M14.none
   have M16 := M13.call sp8 (fun e => ((Mut.ne_ty M13 M14 (by decide)) e))
   have st8 := st7.call sp8 (fun x e => (.inl (e ▸ lb1)))
   refine aD<|aA e96_17<|vv rfl (aE (.pointer (some ⟨aS,0,none⟩)) rfl) ?_
   obtain ⟨r5,hr5,H⟩ := aK H
   refine aU [.pointer (some ⟨aS,0,none⟩),.string (⟨#[41]⟩ : ByteArray)] en70 rfl rfl rfl (F70 st8.has R9 M16 hr5) ?_
   rintro _ w9 ⟨a9,c9,h6,rfl,sp9,R10,M17⟩
   have M18 := M15.call sp9 (fun e => ((Mut.ne_ty M15 M16 (by decide)) e))
   have st9 := st8.call sp9 (fun x e => (.inr e))
   refine aD ?_
   exact Jj1 (sp2.le.trans (sp6.le.trans (sp7.le.trans sp9.le))) st9 rfl R10 M17 (SlR.mono sp9.le R7) (SlR.mono sp9.le R8) M18 H
 refine fa e96_14 (cA hc3) rfl<|aB e96_18<|aA e96_19<|vv rfl (aE (.pointer (some ⟨aS,0,none⟩)) rfl) ?_
 obtain ⟨r6,hr6,H⟩ := aK H
 refine aU [.pointer (some ⟨aS,0,none⟩),.string (⟨#[115,117,109]⟩ : ByteArray)] en88 rfl rfl rfl (F88 st6.has R6 M11 hr6) ?_
 rintro _ w10 ⟨a10,c10,h7,rfl,sp10,R11,M19⟩
 have M20 := M12.call sp10 (fun e => ((Mut.ne_ty M12 M11 (by decide)) e))
 have st10 := st6.call sp10 (fun x e => (.inr e))
 refine vv rfl (aC (.bool r6.1) rfl)<|aD ?_
 rcases aN H with ⟨hc4,H⟩ | ⟨hc4,H⟩
 · refine tr e96_20 hc4 rfl<|aA e96_21<|vv rfl (aE (.pointer (some ⟨aS,0,none⟩)) rfl) ?_
   obtain ⟨r7,hr7,H⟩ := aK H
   refine aU [.pointer (some ⟨aS,0,none⟩)] en100 rfl rfl rfl (ih.1 st10.has R11 M19 hr7) ?_
   rintro _ w11 ⟨a11,c11,a12,c12,a13,c13,h8,rfl,sp11,R12,R13,R14,M21⟩
   have M22 := M20.call sp11 (fun e => ((Mut.ne_ty M20 M19 (by decide)) e))
   have st11 := st10.call sp11 (fun x e => (.inr e))
   refine aV (o := 0) (n := 5) [I r7.1.Op,I r7.1.N,.string r7.1.Name,.slice a11 r7.1.Index.length c11,.slice a12 r7.1.L.length c12] [I r7.1.Op,I r7.1.N,.string r7.1.Name,.slice a11 r7.1.Index.length c11,.slice a12 r7.1.L.length c12] (.agg #[I r7.1.Op,I r7.1.N,.string r7.1.Name,.slice a11 r7.1.Index.length c11,.slice a12 r7.1.L.length c12]) cX rfl rfl rfl rfl M22 rfl rfl rfl rfl rfl (fun w12 wr3 M23 => ?_)
   have sp12 := wr3.st st11.has M22.none
   have M24 := M21.call sp12 (fun e => ((Mut.ne_ty M21 M22 (by decide)) e))
   have st12 := st11.call sp12 (fun x e => (.inl (e ▸ lb1)))
   refine aD ?_
   exact Jj1 (sp2.le.trans (sp6.le.trans (sp10.le.trans sp11.le))) st12 rfl R14 M24 R12 R13 M23 H
 refine fa e96_20 (cA hc4) rfl<|aB e96_22<|aA e96_23<|vv rfl (aE (.pointer (some ⟨aS,0,none⟩)) rfl)<|vv rfl (bG ⟨aS,0,none⟩ rfl)<|vv rfl (aF (b := aS) (o := 0) fl96_0 rfl) ?_
 obtain ⟨r8,hr8,H⟩ := aK H
 refine aU [.pointer (some ⟨aS,0,none⟩)] en69 rfl rfl rfl (F69 st10.has R11 M19 hr8) ?_
 rintro _ w13 ⟨a14,c14,h9,rfl,sp13,R15,M25⟩
 have M26 := M20.call sp13 (fun e => ((Mut.ne_ty M20 M19 (by decide)) e))
 have st13 := st10.call sp13 (fun x e => (.inr e))
 refine vv rfl (x_fS (I r8.1.Kind) ft118_0 sc3 rfl rfl)<|vv rfl (aP .eql .i64 r8.1.Kind 2 (.bool (decide (r8.1.Kind = 2))) 3 3 rfl rfl rfl)<|vv rfl (aC (.bool (decide (r8.1.Kind = 2))) rfl)<|aD ?_
 rcases aN H with ⟨hc5,H⟩ | ⟨hc5,H⟩
 · refine tr e96_24 (dT hc5) rfl<|aA e96_25<|vv rfl (aE (.pointer (some ⟨aS,0,none⟩)) rfl) ?_
   obtain ⟨r9,hr9,H⟩ := aK H
   refine aU [.pointer (some ⟨aS,0,none⟩),I 2] en74 rfl rfl rfl (F74 st13.has R15 M25 hr9) ?_
   rintro _ w14 ⟨a15,c15,h10,rfl,sp14,R16,M27⟩
   have M28 := M26.call sp14 (fun e => ((Mut.ne_ty M26 M25 (by decide)) e))
   have st14 := st13.call sp14 (fun x e => (.inr e))
   refine vv rfl (x_fS (I r9.1.N) ft118_2 sc2 rfl rfl)<|vv rfl (dK (vs := [I 1,I r9.1.N,.string ByteArray.empty,.slice none 0 0,.slice none 0 0]) [(0,I 1),(1,I r9.1.N)] bd31 rfl rfl)<|aV (o := 0) (n := 5) [I 1,I r9.1.N,.string ByteArray.empty,.slice none 0 0,.slice none 0 0] [I 1,I r9.1.N,.string ByteArray.empty,.slice none 0 0,.slice none 0 0] (.agg #[I 1,I r9.1.N,.string ByteArray.empty,.slice none 0 0,.slice none 0 0]) cX rfl rfl rfl rfl M28 rfl rfl rfl rfl rfl (fun w15 wr4 M29 => ?_)
   have sp15 := wr4.st st14.has M28.none
   have M30 := M27.call sp15 (fun e => ((Mut.ne_ty M27 M28 (by decide)) e))
   have st15 := st14.call sp15 (fun x e => (.inl (e ▸ lb1)))
   refine aD ?_
   exact Jj1 (sp2.le.trans (sp6.le.trans (sp10.le.trans (sp13.le.trans sp14.le)))) st15 rfl R16 M30 (SlR.none _) (SlR.none _) M29 H
 refine fa e96_24 (dF hc5) rfl<|aB e96_26<|aA e96_27<|vv rfl (aE (.pointer (some ⟨aS,0,none⟩)) rfl) ?_
 obtain ⟨r10,hr10,H⟩ := aK H
 refine aU [.pointer (some ⟨aS,0,none⟩)] en71 rfl rfl rfl (F71 k st13.has R15 M25 hr10) ?_
 rintro _ w16 ⟨a16,c16,h11,rfl,sp16,R17,M31⟩
 have M32 := M26.call sp16 (fun e => ((Mut.ne_ty M26 M25 (by decide)) e))
 have st16 := st13.call sp16 (fun x e => (.inr e))
 refine vv rfl (aF (b := b1) (o := 0) fl31_0 rfl)<|aV (o := 0) (n := 1) [I 2] [I 2,I 0,.string ByteArray.empty,.slice none 0 0,.slice none 0 0] (I 2) sz3 rfl rfl rfl rfl M32 rfl rfl rfl rfl rfl (fun w17 wr5 M33 => ?_)
 have sp17 := wr5.st st16.has M32.none
 have M34 := M31.call sp17 (fun e => ((Mut.ne_ty M31 M32 (by decide)) e))
 have st17 := st16.call sp17 (fun x e => (.inl (e ▸ lb1)))
 refine vv rfl (aF (b := b1) (o := 0) fl31_2 rfl)<|aV (o := 2) (n := 1) [.string r10.1] [I 2,I 0,.string r10.1,.slice none 0 0,.slice none 0 0] (.string r10.1) sz9 rfl rfl rfl rfl M33 rfl rfl rfl rfl rfl (fun w18 wr6 M35 => ?_)
 have sp18 := wr6.st st17.has M33.none
 have M36 := M34.call sp18 (fun e => ((Mut.ne_ty M34 M33 (by decide)) e))
 have st18 := st17.call sp18 (fun x e => (.inl (e ▸ lb1)))
 refine aD<|aA e96_28<|vv rfl (aE (.pointer (some ⟨aS,0,none⟩)) rfl)<|vv rfl (aE (.pointer (some ⟨aS,0,none⟩)) rfl)<|vv rfl (eT (.func (.func 71) #[.pointer (some ⟨aS,0,none⟩)] #[]) (mf rfl rfl)) ?_
 obtain ⟨r11,hr11,H⟩ := aK H
 refine aU [.pointer (some ⟨aS,0,none⟩),.func (.func 71) #[.pointer (some ⟨aS,0,none⟩)] #[]] en75 rfl rfl rfl (F75 k st18.has R17 M36 hr11) ?_
 rintro _ w19 ⟨a17,c17,a18,c18,h12,rfl,sp19,R18,R19,M37⟩
 have M38 := M35.call sp19 (fun e => ((Mut.ne_ty M35 M36 (by decide)) e))
 have st19 := st18.call sp19 (fun x e => (.inr e))
 refine vv rfl (aF (b := b1) (o := 0) fl31_3 rfl)<|aV (o := 3) (n := 1) [.slice a17 r11.1.length c17] [I 2,I 0,.string r10.1,.slice a17 r11.1.length c17,.slice none 0 0] (.slice a17 r11.1.length c17) sz28 rfl rfl rfl rfl M38 rfl rfl rfl rfl rfl (fun w20 wr7 M39 => ?_)
 have sp20 := wr7.st st19.has M38.none
 have M40 := M37.call sp20 (fun e => ((Mut.ne_ty M37 M38 (by decide)) e))
 have st20 := st19.call sp20 (fun x e => (.inl (e ▸ lb1)))
 refine aD ?_
 exact Jj1 (sp2.le.trans (sp6.le.trans (sp10.le.trans (sp13.le.trans (sp16.le.trans sp19.le))))) st20 rfl R19 M40 R18 (SlR.none _) M39 H
theorem fX : ∀ k,ZS100 k
  | 0 => ⟨S100_z,S76_z,S89_z,SLl89_0_z,S90_z,S89_1_z,SLl89_1_0_z,S96_z⟩
  | k + 1 => ⟨S100_s k (fX k),S76_s k (fX k),S89_s k (fX k),SLl89_0_s k (fX k),S90_s k (fX k),S89_1_s k (fX k),SLl89_1_0_s k (fX k),S96_s k (fX k)⟩
theorem F76 (k : Nat) : S76 k := (fX k).2.1
theorem F44 (k : Nat) : S44 k := by
 intro aS bW cJ bX cW w0 h0 hh dY Mp0 r H
 unfold m44 at H
 refine aO (fn := Try.f44) Try.func44 rfl (Nat.le_of_ble_eq_true rfl) ?_
 show Run X44 [.code c44_0] (fun t => List.getD [.pointer (some ⟨aS,0,none⟩)] t undef) w0 (.fn (Q44 w0 h0 aS r))
 have st0 := St.init hh (fun x => x = aS)
 refine aB e44_0<|aA e44_1<|cF (.agg #[.string ByteArray.empty,.slice none 0 0,I 0,I 0,.string ByteArray.empty,.slice none 0 0,.slice none 0 0]) zr33 rfl rfl (fun b1 w1 al1 => ?_)
 replace al1 : Al _ (.cells (List.toArray [.string ByteArray.empty,.slice none 0 0,I 0,I 0,.string ByteArray.empty,.slice none 0 0,.slice none 0 0]) 33 (0,0)) b1 w1 := al1
 have M1 := Mut.new st0 al1
 have lb1 := st0.alB al1
 have sp1 := al1.st st0.has
 have M2 := Mp0.call0 sp1
 have st1 := st0.call0 sp1
 refine aD<|aB e44_2<|aA e44_3<|vv rfl (aE (.pointer (some ⟨aS,0,none⟩)) rfl) ?_
 obtain ⟨r1,hr1,H⟩ := aK H
 refine aU [.pointer (some ⟨aS,0,none⟩)] en71 rfl rfl rfl (F71 k st1.has dY M2 hr1) ?_
 rintro _ w2 ⟨a1,c1,h1,rfl,sp2,R1,M3⟩
 have M4 := M1.call sp2 (fun e => ((Mut.ne_ty M1 M2 (by decide)) e))
 have st2 := st1.call sp2 (fun x e => (.inr e))
 refine vv rfl (aF (b := b1) (o := 0) fl33_0 rfl)<|aV (o := 0) (n := 1) [.string r1.1] [.string r1.1,.slice none 0 0,I 0,I 0,.string ByteArray.empty,.slice none 0 0,.slice none 0 0] (.string r1.1) sz9 rfl rfl rfl rfl M4 rfl rfl rfl rfl rfl (fun w3 wr1 M5 => ?_)
 have sp3 := wr1.st st2.has M4.none
 have M6 := M3.call sp3 (fun e => ((Mut.ne_ty M3 M4 (by decide)) e))
 have st3 := st2.call sp3 (fun x e => (.inl (e ▸ lb1)))
 refine aD<|aB e44_4<|aA e44_5<|vv rfl (aE (.pointer (some ⟨aS,0,none⟩)) rfl)<|vv rfl (aE (.pointer (some ⟨aS,0,none⟩)) rfl)<|vv rfl (eT (.func (.func 71) #[.pointer (some ⟨aS,0,none⟩)] #[]) (mf rfl rfl)) ?_
 obtain ⟨r2,hr2,H⟩ := aK H
 refine aU [.pointer (some ⟨aS,0,none⟩),.func (.func 71) #[.pointer (some ⟨aS,0,none⟩)] #[]] en75 rfl rfl rfl (F75 k st3.has R1 M6 hr2) ?_
 rintro _ w4 ⟨a2,c2,a3,c3,h2,rfl,sp4,R2,R3,M7⟩
 have M8 := M5.call sp4 (fun e => ((Mut.ne_ty M5 M6 (by decide)) e))
 have st4 := st3.call sp4 (fun x e => (.inr e))
 refine vv rfl (aF (b := b1) (o := 0) fl33_1 rfl)<|aV (o := 1) (n := 1) [.slice a2 r2.1.length c2] [.string r1.1,.slice a2 r2.1.length c2,I 0,I 0,.string ByteArray.empty,.slice none 0 0,.slice none 0 0] (.slice a2 r2.1.length c2) sz28 rfl rfl rfl rfl M8 rfl rfl rfl rfl rfl (fun w5 wr2 M9 => ?_)
 have sp5 := wr2.st st4.has M8.none
 have M10 := M7.call sp5 (fun e => ((Mut.ne_ty M7 M8 (by decide)) e))
 have st5 := st4.call sp5 (fun x e => (.inl (e ▸ lb1)))
 refine aD<|aB e44_6<|aA e44_7<|vv rfl (aE (.pointer (some ⟨aS,0,none⟩)) rfl) ?_
 obtain ⟨r3,hr3,H⟩ := aK H
 refine aU [.pointer (some ⟨aS,0,none⟩),.string (⟨#[61]⟩ : ByteArray)] en70 rfl rfl rfl (F70 st5.has R3 M10 hr3) ?_
 rintro _ w6 ⟨a4,c4,h3,rfl,sp6,R4,M11⟩
 have M12 := M9.call sp6 (fun e => ((Mut.ne_ty M9 M10 (by decide)) e))
 have st6 := st5.call sp6 (fun x e => (.inr e))
 refine aD<|aB e44_8<|aA e44_9<|vv rfl (aE (.pointer (some ⟨aS,0,none⟩)) rfl) ?_
 obtain ⟨r4,hr4,H⟩ := aK H
 refine aU [.pointer (some ⟨aS,0,none⟩)] en76 rfl rfl rfl (F76 k st6.has R4 M11 hr4) ?_
 rintro _ w7 ⟨a5,c5,a6,c6,a7,c7,h4,rfl,sp7,R5,R6,R7,M13⟩
 have M14 := M12.call sp7 (fun e => ((Mut.ne_ty M12 M11 (by decide)) e))
 have st7 := st6.call sp7 (fun x e => (.inr e))
 refine vv rfl (aF (b := b1) (o := 0) fl33_2 rfl)<|aV (o := 2) (n := 5) [I r4.1.Op,I r4.1.N,.string r4.1.Name,.slice a5 r4.1.Index.length c5,.slice a6 r4.1.L.length c6] [.string r1.1,.slice a2 r2.1.length c2,I r4.1.Op,I r4.1.N,.string r4.1.Name,.slice a5 r4.1.Index.length c5,.slice a6 r4.1.L.length c6] (.agg #[I r4.1.Op,I r4.1.N,.string r4.1.Name,.slice a5 r4.1.Index.length c5,.slice a6 r4.1.L.length c6]) cX rfl rfl rfl rfl M14 rfl rfl rfl rfl rfl (fun w8 wr3 M15 => ?_)
 have sp8 := wr3.st st7.has M14.none
 have M16 := M13.call sp8 (fun e => ((Mut.ne_ty M13 M14 (by decide)) e))
 have st8 := st7.call sp8 (fun x e => (.inl (e ▸ lb1)))
 refine aD<|aB e44_10<|aA e44_11<|vv rfl (bH [.string r1.1,.slice a2 r2.1.length c2,I r4.1.Op,I r4.1.N,.string r4.1.Name,.slice a5 r4.1.Index.length c5,.slice a6 r4.1.L.length c6] ag33 sz33 rfl rfl (aY M15.get rfl))<|aV (o := 0) (n := 7) [.string r1.1,.slice a2 r2.1.length c2,I r4.1.Op,I r4.1.N,.string r4.1.Name,.slice a5 r4.1.Index.length c5,.slice a6 r4.1.L.length c6] [.string r1.1,.slice a2 r2.1.length c2,I r4.1.Op,I r4.1.N,.string r4.1.Name,.slice a5 r4.1.Index.length c5,.slice a6 r4.1.L.length c6] (.agg #[.string r1.1,.slice a2 r2.1.length c2,I r4.1.Op,I r4.1.N,.string r4.1.Name,.slice a5 r4.1.Index.length c5,.slice a6 r4.1.L.length c6]) sz33 rfl rfl rfl rfl M15 rfl rfl rfl rfl rfl (fun w9 wr4 M17 => ?_)
 have sp9 := wr4.st st8.has M15.none
 have M18 := M16.call sp9 (fun e => ((Mut.ne_ty M16 M15 (by decide)) e))
 have st9 := st8.call sp9 (fun x e => (.inl (e ▸ lb1)))
 refine aD ?_
 cases H
 exact aJ e44_12 (cG Try.results44 (eI [.string r1.1,.slice a2 r2.1.length c2,I r4.1.Op,I r4.1.N,.string r4.1.Name,.slice a5 r4.1.Index.length c5,.slice a6 r4.1.L.length c6] ag33 sz33 rfl rfl (aY M17.get rfl)) ⟨a2,c2,a5,c5,a6,c6,a7,c7,h4,rfl,st9,(SlR.mono (sp6.le.trans sp7.le) R2),R5,R6,R7,M18⟩)
theorem F45 : S45 := by
 intro aS bW cJ bX cW w0 h0 hh dY Mp0 r H
 unfold m45 at H
 refine aO (fn := Try.f45) Try.func45 rfl (Nat.le_of_ble_eq_true rfl) ?_
 show Run X45 [.code c45_0] (fun t => List.getD [.pointer (some ⟨aS,0,none⟩)] t undef) w0 (.fn (Q45 w0 h0 aS r))
 have st0 := St.init hh (fun x => x = aS)
 refine aB e45_0<|aA e45_1<|vv rfl (aC (.bool false) rfl)<|aD<|aB e45_2<|aA e45_3 ?_
 obtain ⟨j1,hj1,H⟩ := dE H
 have Jj1 : ∀ {y1 : Bool} {σ1 : Env} {w1 : World} {h1 : Sto},Le h0 h1 → St w0 (fun x => x = aS) h0 h1 w1 → σ1 2 = .bool y1 → SlR h1 bX bW cJ → Mut h1 w1 aS (.cells (List.toArray [.slice bX cJ.length bW,.bool cW]) 96 (0,0)) → j1 y1 = some r → Run X45 [.code c45_4] σ1 w1 (.fn (Q45 w0 h0 aS r)) := by
  intro y1 σ1 w1 h1 le1 st1 s2_j1 R1 M1 H
  rw [hj1] at H
  cases H
  exact aJ e45_4 (cG Try.results45 s2_j1 ⟨bX,bW,h1,rfl,st1,R1,M1⟩)
 refine vv rfl (aE (.pointer (some ⟨aS,0,none⟩)) rfl)<|vv rfl (bG ⟨aS,0,none⟩ rfl)<|vv rfl (aF (b := aS) (o := 0) fl96_1 rfl)<|vv rfl (aL (.bool cW) sc4 rfl ((aQ Mp0.get).trans rfl))<|vv rfl (eA cW 4 rfl)<|vv rfl (aE (.bool (!cW)) rfl) ?_
 rcases aN H with ⟨hc1,H⟩ | ⟨hc1,H⟩
 · refine aR (wf2 (bL hc1) rfl) rfl<|aR (wf2 (bL hc1) rfl) rfl<|aR (wf2 (bL hc1) rfl) rfl<|aR (wf2 (bL hc1) rfl) rfl<|aR (wf2 (bL hc1) rfl) rfl<|aR (wf2 (bL hc1) rfl) rfl<|aR (wf2 (bL hc1) rfl) rfl<|vv rfl (dI (.bool false) (bL hc1) rfl rfl)<|vv rfl (aC (.bool false) rfl)<|aD ?_
   exact Jj1 (Le.refl _) st0 rfl dY Mp0 H
 refine aZ (wt2 (bK (cA hc1)) rfl) rfl (aE (.pointer (some ⟨aS,0,none⟩)) rfl)<|aZ (wt2 (bK (cA hc1)) rfl) rfl (bG ⟨aS,0,none⟩ rfl)<|aZ (wt2 (bK (cA hc1)) rfl) rfl (aF (b := aS) (o := 0) fl96_0 rfl)<|aZ (wt2 (bK (cA hc1)) rfl) rfl (aF (b := aS) (o := 0) fl94_0 rfl)<|aZ (wt2 (bK (cA hc1)) rfl) rfl (aL (.slice bX cJ.length bW) sc87 rfl ((aQ Mp0.get).trans rfl))<|aZ (wt2 (bK (cA hc1)) rfl) rfl (bN u87 rfl)<|aZ (wt2 (bK (cA hc1)) rfl) rfl (aP .eql .i64 (cJ.length : Int) 0 (.bool (decide ((cJ.length : Int) = 0))) 3 3 rfl rfl rfl)<|vv rfl (dH (.bool (decide ((cJ.length : Int) = 0))) (bK (cA hc1)) rfl rfl)<|vv rfl (aC (.bool (decide ((cJ.length : Int) = 0))) rfl)<|aD ?_
 exact Jj1 (Le.refl _) st0 rfl dY Mp0 H
abbrev ZSLl24_0 (k : Nat) : Prop := SLl24_0 k
theorem SLl24_0_z : SLl24_0 0 := by
  unfold SLl24_0; intros; rename_i H; exact absurd H (by simp [l24_0])
theorem SLl24_0_s (k : Nat) (ih : ZSLl24_0 k) : SLl24_0 (k + 1) := by
 intro w0 w h0 h b1 c2 c3 c4 j2 r2 a2 a3 a4 σ l1 l2 xs1 r st s2 s8 s26 s27 s28 O1 O2 M5 lb2 R3 hd1 H
 cases xs1 with
 | nil =>
  rw [l24_0] at H
  have hk1 := cV hd1
  refine aB e24_19<|aA e24_20<|vv rfl (aP .lss .i64 (j2 : Int) (r2.length : Int) (.bool (decide ((j2 : Int) < (r2.length : Int)))) 3 3 s28 s27 rfl)<|aD<|aB e24_21<|fa e24_22 hk1 rfl<|bM e24_24 rfl<|aB e24_56<|aA e24_57<|vv rfl (bH [.slice a3 l1.length c3,.slice a4 l2.length c4] ag25 sz25 s2 rfl (aY M5.get rfl)) ?_
  refine vv rfl (aE (.slice a2 r2.length c2) s8)<|vv rfl (bN u90 rfl)<|aV (o := 0) (n := 2) [.slice a3 l1.length c3,.slice a4 l2.length c4] [.slice a3 l1.length c3,.slice a4 l2.length c4] (.agg #[.slice a3 l1.length c3,.slice a4 l2.length c4]) sz25 rfl rfl s2 rfl M5 rfl rfl rfl rfl rfl (fun w5 wr2 M6 => ?_)
  have sp5 := wr2.st st.has M5.none
  have O3 := O1.call sp5 (fun x hx e => (absurd (e ▸ hx) (O1.ne_mut M5 (by decide))))
  have O4 := O2.call sp5 (fun x hx e => (absurd (e ▸ hx) (O2.ne_mut M5 (by decide))))
  have st5 := st.call sp5 (fun x e => (.inl (e ▸ lb2)))
  refine vv rfl (aC (I (r2.length : Int)) rfl)<|vv rfl (aC (I 0) rfl)<|aD ?_
  obtain ⟨h3,le1,st6,R4,kp1⟩ := O3.frz st5 (Nat.le_refl _)
  have M7 := M6.frB kp1 (O3.ne_mut M6 (by decide))
  have O5 := O4.frB le1 kp1 (O4.ne_own O3 (by decide))
  obtain ⟨h4,le2,st7,R5,kp2⟩ := O5.frz st6 (Nat.le_refl _)
  have M8 := M7.frB kp2 (O5.ne_mut M7 (by decide))
  cases H
  exact aJ e24_58 (res3 Try.results24 (eI [.slice a3 l1.length c3,.slice a4 l2.length c4] ag25 sz25 s2 rfl (aY M8.get rfl)) rfl rfl ⟨a3,c3,a4,c4,h4,rfl,st7,(SlR.mono le2 R4),R5⟩)
 | cons x1 xs2 =>
  rw [l24_0] at H
  obtain ⟨hk2,hj1,hx1,hd2⟩ := cL hd1
  refine aB e24_19<|aA e24_20<|vv rfl (aP .lss .i64 (j2 : Int) (r2.length : Int) (.bool (decide ((j2 : Int) < (r2.length : Int)))) 3 3 s28 s27 rfl)<|aD<|aB e24_21<|tr e24_22 hk2 rfl<|aM e24_23<|aB e24_25<|aT e24_26<|aB e24_27 ?_
  refine aA e24_28<|vv rfl (aE (I (j2 : Int)) s28) ?_
  obtain ⟨b2,o1,vs1,ea1,rp1,cl1⟩ := SlR.at R3 hx1
  obtain ⟨a5,c5,rfl,R6⟩ := rp1
  refine vv rfl (aX u90 sz87 s26 s28 ea1 (Int.natCast_nonneg _) (Int.ofNat_lt.2 hj1))<|vv rfl (aL (.slice a5 x1.length c5) sc87 rfl (((cl1 _ (Has.le (Le.refl _) st.has)) 0 (by decide)).trans rfl))<|vv rfl (aC (I (j2 : Int)) rfl)<|vv rfl (aC (.slice a5 x1.length c5) rfl)<|aD<|aB e24_29<|aA e24_30<|vv rfl (aE (.slice a5 x1.length c5) rfl)<|vv rfl (dK (vs := [.slice a5 x1.length c5]) [(0,.slice a5 x1.length c5)] bd94 rfl rfl)<|vv rfl (dK (vs := [.slice a5 x1.length c5,.bool false]) [(0,.agg #[.slice a5 x1.length c5])] bd96 rfl rfl) ?_
  refine eF (.agg #[.slice a5 x1.length c5,.bool false]) rfl rfl rfl (fun b3 w6 al2 => ?_)
  replace al2 : Al _ (.cells (List.toArray [.slice a5 x1.length c5,.bool false]) 96 (0,0)) b3 w6 := al2
  have M9 := Mut.new st al2
  have lb3 := st.alB al2
  have sp6 := al2.st st.has
  have M10 := M5.call0 sp6
  have O6 := O1.call0 sp6
  have O7 := O2.call0 sp6
  have st8 := st.call0 sp6
  refine vv rfl (aC (.pointer (some ⟨b3,0,none⟩)) rfl)<|aD<|aB e24_31<|aA e24_32<|vv rfl (aC (.bool false) rfl)<|aD<|aB e24_33<|aB e24_34<|aA e24_35<|vv rfl (aE (.pointer (some ⟨b3,0,none⟩)) rfl) ?_
  obtain ⟨r3,hr3,H⟩ := aK H
  refine aU [.pointer (some ⟨b3,0,none⟩),.string (⟨#[116,101,110,115,111,114]⟩ : ByteArray)] en42 rfl rfl rfl (F42 st8.has R6 M9 hr3) ?_
  rintro _ w7 ⟨a6,c6,h5,rfl,sp7,R7,M11⟩
  have M12 := M10.call sp7 (fun e => ((Mut.ne_ty M10 M9 (by decide)) e))
  have O8 := O6.call sp7 (fun x hx e => (absurd (e ▸ hx) (O6.ne_mut M9 (by decide))))
  have O9 := O7.call sp7 (fun x hx e => (absurd (e ▸ hx) (O7.ne_mut M9 (by decide))))
  have st9 := st8.call sp7 (fun x e => (.inl (e ▸ lb3)))
  refine aD ?_
  obtain ⟨j3,hj3,H⟩ := dE H
  have Jj3 : ∀ {y1 y5 : Bool} {y2 : (List GDecl)} {y3 : (List GStmt)} {y4 : (List GToken)} {a7 a8 a9 : OA} {c7 c8 c9 : Nat} {σ1 : Env} {w10 : World} {h6 : Sto},Le h5 h6 → St w0 noM h0 h6 w10 → σ1 2 = .pointer (some ⟨b1,0,none⟩) → σ1 8 = .slice a2 r2.length c2 → σ1 9 = I (j2 : Int) → σ1 11 = .pointer (some ⟨b3,0,none⟩) → σ1 12 = .bool y1 → σ1 26 = .slice a2 r2.length c2 → σ1 27 = I (r2.length : Int) → σ1 28 = I (j2 : Int) → SlR h6 a2 c2 r2 → SlR h6 a2 c2 r2 → Own 45 w0.heap.size h6 w10 a7 c7 y2 → Own 33 w0.heap.size h6 w10 a8 c8 y3 → Mut h6 w10 b1 (.cells (List.toArray [.slice a7 y2.length c7,.slice a8 y3.length c8]) 25 (0,0)) → SlR h6 a9 c9 y4 → Mut h6 w10 b3 (.cells (List.toArray [.slice a9 y4.length c9,.bool y5]) 96 (0,0)) → j3 y1 y2 y3 y4 y5 = some r → Run X24 [.code c24_41,.inBlock 1,.code c24_55,.inLoop c24_19,.inBlock 0,.code c24_56] σ1 w10 (.fn (Q24 w0 h0 r)) := by
   intro y1 y5 y2 y3 y4 a7 a8 a9 c7 c8 c9 σ1 w10 h6 le3 st12 s2_j3 s8_j3 s9_j3 s11_j3 s12_j3 s26_j3 s27_j3 s28_j3 R8 R9 O14 O15 M17 R10 M18 H
   rw [hj3] at H
   refine aT e24_41<|aB e24_42<|aA e24_43<|vv rfl (aE (.pointer (some ⟨b3,0,none⟩)) s11_j3) ?_
   obtain ⟨r4,hr4,H⟩ := aK H
   refine aU [.pointer (some ⟨b3,0,none⟩)] en45 rfl rfl rfl (F45 st12.has R10 M18 hr4) ?_
   rintro _ w11 ⟨a10,c10,h7,rfl,sp10,R11,M19⟩
   have M20 := M17.call sp10 (fun e => ((Mut.ne_ty M17 M18 (by decide)) e))
   have O16 := O14.call sp10 (fun x hx e => (absurd (e ▸ hx) (O14.ne_mut M18 (by decide))))
   have O17 := O15.call sp10 (fun x hx e => (absurd (e ▸ hx) (O15.ne_mut M18 (by decide))))
   have st13 := st12.call sp10 (fun x e => (.inl (e ▸ lb3)))
   refine vv rfl (eA r4.1 4 rfl)<|vv rfl (aE (.bool (!r4.1)) rfl) ?_
   rcases aN H with ⟨hc3,H⟩ | ⟨hc3,H⟩
   · refine aZ (wt2 (bL hc3) rfl) rfl (aE (.bool y1) s12_j3)<|vv rfl (dI (.bool y1) (bL hc3) rfl rfl)<|vv rfl (aC (.bool y1) rfl)<|aD ?_
     rcases aN H with ⟨hc4,H⟩ | ⟨hc4,H⟩
     · refine tr e24_44 hc4 rfl<|aB e24_45<|aA e24_46<|vv rfl (dK (vs := [.slice none 0 0,.slice none 0 0]) [] bd25 rfl rfl)<|vv rfl (aE (I (j2 : Int)) s9_j3)<|aV (o := 0) (n := 2) [.slice none 0 0,.slice none 0 0] [.slice none 0 0,.slice none 0 0] (.agg #[.slice none 0 0,.slice none 0 0]) sz25 rfl rfl s2_j3 rfl M20 rfl rfl rfl rfl rfl (fun w12 wr3 M21 => ?_)
       have sp11 := wr3.st st13.has M20.none
       have M22 := M19.call sp11 (fun e => ((Mut.ne_ty M19 M20 (by decide)) e))
       have O18 := O16.call sp11 (fun x hx e => (absurd (e ▸ hx) (O16.ne_mut M20 (by decide))))
       have O19 := O17.call sp11 (fun x hx e => (absurd (e ▸ hx) (O17.ne_mut M20 (by decide))))
       have st14 := st13.call sp11 (fun x e => (.inl (e ▸ lb2)))
       refine vv rfl (aC (I (j2 : Int)) rfl)<|vv rfl (aC (I 6) rfl)<|aD ?_
       cases H
       exact aJ e24_47 (res3 Try.results24 (eI [.slice none 0 0,.slice none 0 0] ag25 sz25 s2_j3 rfl (aY M21.get rfl)) rfl rfl ⟨none,0,none,0,h7,rfl,st14,(SlR.none _),(SlR.none _)⟩)
     refine fa e24_44 (cA hc4) rfl<|aB e24_48<|aA e24_49<|vv rfl (bH [.slice a7 y2.length c7,.slice a8 y3.length c8] ag25 sz25 s2_j3 rfl (aY M20.get rfl)) ?_
     obtain ⟨h8,le4,R12,hh1,kp3⟩ := Own.lend O16 st13.has
     obtain ⟨h9,le5,R13,hh2,kp4⟩ := Own.lend (Own.frB O17 le4 kp3 (Own.ne_own O17 O16 (by decide))) hh1
     obtain ⟨r5,hr5,H⟩ := aK H
     refine aU [.agg #[.slice a7 y2.length c7,.slice a8 y3.length c8]] en26 rfl rfl rfl (F26 k (p0 := (⟨y2,y3⟩ : GProg)) hh2 (SlR.mono le5 R12) R13 hr5) ?_
     rintro _ w13 ⟨h10,rfl,sp12⟩
     have sp13 := St.lend sp12 (le4.trans le5)
     have M23 := M20.call0 sp13
     have M24 := M19.call0 sp13
     have O20 := O16.call0 sp13
     have O21 := O17.call0 sp13
     have st15 := st13.call0 sp13
     refine vv rfl (aP .neq .i64 r5 0 (.bool (!decide (r5 = 0))) 35 35 rfl rfl rfl)<|vv rfl (aC (.bool (!decide (r5 = 0))) rfl)<|aD ?_
     rcases aN H with ⟨hc5,H⟩ | ⟨hc5,H⟩
     · refine fa e24_50 (bL (dT hc5)) rfl<|aM e24_54<|aW<|aW<|aA e24_55<|vv rfl (aP .add .i64 (j2 : Int) 1 (I ((j2 + 1 : Nat) : Int)) 3 3 s28_j3 rfl (dL hj1 (SlR.mono sp10.le R8).mx))<|vv rfl (aE (I ((j2 + 1 : Nat) : Int)) rfl)<|aD<|bF ?_
       exact ih (j2 := (j2 + 1)) st15 s2_j3 s8_j3 s26_j3 s27_j3 rfl O20 O21 M23 lb2 (SlR.mono sp10.le R8) hd2 H
     refine tr e24_50 (bK (dF hc5)) rfl<|aB e24_51<|aA e24_52<|vv rfl (dK (vs := [.slice none 0 0,.slice none 0 0]) [] bd25 rfl rfl)<|vv rfl (aE (I (j2 : Int)) s9_j3)<|aV (o := 0) (n := 2) [.slice none 0 0,.slice none 0 0] [.slice none 0 0,.slice none 0 0] (.agg #[.slice none 0 0,.slice none 0 0]) sz25 rfl rfl s2_j3 rfl M23 rfl rfl rfl rfl rfl (fun w14 wr4 M25 => ?_)
     have sp14 := wr4.st st15.has M23.none
     have M26 := M24.call sp14 (fun e => ((Mut.ne_ty M24 M23 (by decide)) e))
     have O22 := O20.call sp14 (fun x hx e => (absurd (e ▸ hx) (O20.ne_mut M23 (by decide))))
     have O23 := O21.call sp14 (fun x hx e => (absurd (e ▸ hx) (O21.ne_mut M23 (by decide))))
     have st16 := st15.call sp14 (fun x e => (.inl (e ▸ lb2)))
     refine vv rfl (aC (I (j2 : Int)) rfl)<|vv rfl (aC (I 2) rfl)<|aD ?_
     cases H
     exact aJ e24_53 (res3 Try.results24 (eI [.slice none 0 0,.slice none 0 0] ag25 sz25 s2_j3 rfl (aY M25.get rfl)) rfl rfl ⟨none,0,none,0,h7,rfl,st16,(SlR.none _),(SlR.none _)⟩)
   refine aR (wf2 (bK (cA hc3)) rfl) rfl<|vv rfl (dH (.bool true) (bK (cA hc3)) rfl rfl)<|vv rfl (aC (.bool true) rfl)<|aD<|cQ e24_44 (p := true) rfl rfl<|aB e24_45<|aA e24_46<|vv rfl (dK (vs := [.slice none 0 0,.slice none 0 0]) [] bd25 rfl rfl)<|vv rfl (aE (I (j2 : Int)) s9_j3)<|aV (o := 0) (n := 2) [.slice none 0 0,.slice none 0 0] [.slice none 0 0,.slice none 0 0] (.agg #[.slice none 0 0,.slice none 0 0]) sz25 rfl rfl s2_j3 rfl M20 rfl rfl rfl rfl rfl (fun w15 wr5 M27 => ?_)
   have sp15 := wr5.st st13.has M20.none
   have M28 := M19.call sp15 (fun e => ((Mut.ne_ty M19 M20 (by decide)) e))
   have O24 := O16.call sp15 (fun x hx e => (absurd (e ▸ hx) (O16.ne_mut M20 (by decide))))
   have O25 := O17.call sp15 (fun x hx e => (absurd (e ▸ hx) (O17.ne_mut M20 (by decide))))
   have st17 := st13.call sp15 (fun x e => (.inl (e ▸ lb2)))
   refine vv rfl (aC (I (j2 : Int)) rfl)<|vv rfl (aC (I 6) rfl)<|aD ?_
   cases H
   exact aJ e24_47 (res3 Try.results24 (eI [.slice none 0 0,.slice none 0 0] ag25 sz25 s2_j3 rfl (aY M27.get rfl)) rfl rfl ⟨none,0,none,0,h7,rfl,st17,(SlR.none _),(SlR.none _)⟩)
  rcases aN H with ⟨hc2,H⟩ | ⟨hc2,H⟩
  · refine tr e24_36 hc2 rfl<|aB e24_37<|aA e24_38<|vv rfl (aF (b := b1) (o := 0) fl25_1 s2)<|vv rfl (aL (.slice a4 l2.length c4) sc23 rfl ((aQ M12.get).trans rfl))<|vv rfl (bN u23 rfl)<|vv rfl (aP .gtr .i64 (l2.length : Int) 0 (.bool (decide (0 < (l2.length : Int)))) 3 3 rfl rfl rfl)<|vv rfl (aC (.bool (decide (0 < (l2.length : Int)))) rfl)<|aD ?_
    refine dW [[(0,false),(1,false),(2,false),(3,true),(4,true),(5,true),(6,false),(7,true)]] [3,4,5,7] [0,1,2,3,4,5,6,7] [0,1,2,3,4,5,6,7] (fun w_ => Has h5 w_ ∧ w_.heap[b1]? = some (.cells (List.toArray [.slice a3 l1.length c3,.slice a4 l2.length c4]) 25 (0,0)) ∧ True) e24_39 k24_39 m24_39 (fun w8 al3 => ?_)
    have sp8 := al3.st st9.has
    have M13 := M12.call0 sp8
    have M14 := M11.call0 sp8
    have O10 := O8.call0 sp8
    have O11 := O9.call0 sp8
    have st10 := st9.call0 sp8
    refine ⟨⟨Has.le (Le.refl _) st10.has,M13.get,trivial⟩,?_,trivial⟩
    refine bI rfl rfl (fun w_ ok_ => aF (b := b1) (o := 0) fl25_0 s2)<|bI rfl rfl (fun w_ ok_ => aL (.slice a3 l1.length c3) sc22 rfl ((aQ ok_.2.1).trans rfl))<|bI rfl rfl (fun w_ ok_ => aE (.pointer (some ⟨b3,0,none⟩)) rfl) ?_
    obtain ⟨bU,hrd1_3_2,H⟩ := aK H
    refine dr_c rfl (fJ [.pointer (some ⟨b3,0,none⟩)] en43 rfl rfl (F43 k st10.has R7 M14 hrd1_3_2) ?_)
    rintro _ wd1_3_3 ⟨ad1_3_6,cd1_3_7,ad1_3_9,cd1_3_10,hd1_3_4,rfl,dC,Rd1_3_8,Rd1_3_11,Md1_3_12⟩
    have Md1_3_13 := M13.call dC (fun e => ((Mut.ne_ty M13 M14 (by decide)) e))
    have Od1_3_14 := O10.call dC (fun x hx e => (absurd (e ▸ hx) (O10.ne_mut M14 (by decide))))
    have Od1_3_15 := O11.call dC (fun x hx e => (absurd (e ▸ hx) (O11.ne_mut M14 (by decide))))
    have std1_3_16 := st10.call dC (fun x e => (.inl (e ▸ lb3)))
    refine ⟨.inr ⟨Has.le dC.le std1_3_16.has,Md1_3_13.get,trivial⟩,?_⟩
    refine dr_c rfl (dU [.string ByteArray.empty,.slice none 0 0,.string ByteArray.empty,I 0] [.string bU.1.Name,.slice ad1_3_6 bU.1.Shape.length cd1_3_7,.string bU.1.Form,I bU.1.Block] [(0,.agg #[.string bU.1.Name,.slice ad1_3_6 bU.1.Shape.length cd1_3_7,.string bU.1.Form,I bU.1.Block])] u22 sz45 zr45 rfl rfl rfl (by kernel_rfl) rfl (by kernel_rfl) (fun fT wd1_4_2 ald1_4_3 => ?_))
    have lid1_4_8 : Lits hd1_3_4 [[.string bU.1.Name,.slice ad1_3_6 bU.1.Shape.length cd1_3_7,.string bU.1.Form,I bU.1.Block]] ([bU.1] : List GDecl) := (Lits.cons (GDecl.into (h := hd1_3_4) (x := bU.1) Rd1_3_8) Lits.nil)
    obtain ⟨hd1_4_4,dA,gd1_4_6,dO⟩ := ald1_4_3.fz std1_3_16.has
    have Md1_4_9 := Md1_3_13.call0 dO
    have Md1_4_10 := Md1_3_12.call0 dO
    have Od1_4_11 := Od1_3_14.call0 dO
    have Od1_4_12 := Od1_3_15.call0 dO
    have std1_4_13 := std1_3_16.call0 dO
    have Rd1_4_14 : SlR _ _ _ ([bU.1] : List GDecl) := Lits.sl (n := 1) (Lits.mono dA lid1_4_8) rfl rfl (by decide) gd1_4_6
    refine ⟨.inr ⟨Has.le (dC.le.trans dA) std1_4_13.has,Md1_4_9.get,trivial⟩,?_⟩
    obtain ⟨hsd1_5_1,H⟩ := cD H
    refine dr_c rfl (od_append (α := GDecl) (B := w0.heap.size) (l := l1) (l2 := ([bU.1] : List GDecl)) u22 u22 ap45 rfl rfl rfl std1_4_13.has std1_4_13.sp.size Od1_4_11 Rd1_4_14 rfl rfl hsd1_5_1 (fun ad1_5_2 cd1_5_3 wd1_5_4 Od1_5_5 spd1_5_6 bld1_5_7 => ?_))
    have Md1_5_8 := Md1_4_9.call spd1_5_6 (fun e => ((Od1_4_11.ne_mut Md1_4_9 (by decide)) e))
    have Md1_5_9 := Md1_4_10.call spd1_5_6 (fun e => ((Od1_4_11.ne_mut Md1_4_10 (by decide)) e))
    have Od1_5_10 := Od1_4_12.call spd1_5_6 (fun x hx e => ((Od1_4_12.ne_own Od1_4_11 (by decide)) x hx e))
    have std1_5_11 := std1_4_13.call spd1_5_6 (fun x e => (.inl (Od1_4_11.lbs x e)))
    refine ⟨.inr ⟨Has.le (dC.le.trans dA) std1_5_11.has,Md1_5_8.get,trivial⟩,?_⟩
    refine bI rfl rfl (fun w_ ok_ => aF (b := b1) (o := 0) fl25_0 s2)<|dr_c rfl (od_store (o := 0) (n := 1) [.slice ad1_5_2 ((l1 ++ ([bU.1] : List GDecl)).length) cd1_5_3] [.slice ad1_5_2 ((l1 ++ ([bU.1] : List GDecl)).length) cd1_5_3,.slice a4 l2.length c4] (.slice ad1_5_2 ((l1 ++ ([bU.1] : List GDecl)).length) cd1_5_3) sz22 rfl rfl rfl Md1_5_8 rfl rfl rfl rfl rfl (fun wd1_7_1 wrd1_7_2 Md1_7_3 => ?_))
    have spd1_7_4 := wrd1_7_2.st std1_5_11.has Md1_5_8.none
    have Md1_7_5 := Md1_5_9.call spd1_7_4 (fun e => ((Mut.ne_ty Md1_5_9 Md1_5_8 (by decide)) e))
    have Od1_7_6 := Od1_5_10.call spd1_7_4 (fun x hx e => (absurd (e ▸ hx) (Od1_5_10.ne_mut Md1_5_8 (by decide))))
    have Od1_7_7 := Od1_5_5.call spd1_7_4 (fun x hx e => (absurd (e ▸ hx) (Od1_5_5.ne_mut Md1_5_8 (by decide))))
    have std1_7_8 := std1_5_11.call spd1_7_4 (fun x e => (.inl (e ▸ lb2)))
    refine ⟨.inl rfl,?_⟩
    refine dZ ?_
    exact Jj3 (dC.le.trans dA) std1_7_8 s2 s8 rfl rfl rfl s26 s27 s28 (SlR.mono (sp7.le.trans (dC.le.trans dA)) R3) (SlR.mono (sp7.le.trans (dC.le.trans dA)) R3) Od1_7_7 Od1_7_6 Md1_7_3 (SlR.mono dA Rd1_3_11) Md1_7_5 H
  refine fa e24_36 (cA hc2) rfl ?_
  refine dW [[(0,false),(1,false),(2,false),(3,true),(4,true),(5,true),(6,false),(7,true)]] [3,4,5,7] [0,1,2,3,4,5,6,7] [0,1,2,3,4,5,6,7] (fun w_ => Has h5 w_ ∧ w_.heap[b1]? = some (.cells (List.toArray [.slice a3 l1.length c3,.slice a4 l2.length c4]) 25 (0,0)) ∧ True) e24_40 k24_40 m24_40 (fun w9 al4 => ?_)
  have sp9 := al4.st st9.has
  have M15 := M12.call0 sp9
  have M16 := M11.call0 sp9
  have O12 := O8.call0 sp9
  have O13 := O9.call0 sp9
  have st11 := st9.call0 sp9
  refine ⟨⟨Has.le (Le.refl _) st11.has,M15.get,trivial⟩,?_,trivial⟩
  refine bI rfl rfl (fun w_ ok_ => aF (b := b1) (o := 0) fl25_1 s2)<|bI rfl rfl (fun w_ ok_ => aL (.slice a4 l2.length c4) sc23 rfl ((aQ ok_.2.1).trans rfl))<|bI rfl rfl (fun w_ ok_ => aE (.pointer (some ⟨b3,0,none⟩)) rfl) ?_
  obtain ⟨dD,hrd2_3_2,H⟩ := aK H
  refine dr_c rfl (fJ [.pointer (some ⟨b3,0,none⟩)] en44 rfl rfl (F44 k st11.has R7 M16 hrd2_3_2) ?_)
  rintro _ wd2_3_3 ⟨ad2_3_6,cd2_3_7,ad2_3_9,cd2_3_10,ad2_3_12,cd2_3_13,ad2_3_15,cd2_3_16,hd2_3_4,rfl,spd2_3_5,Rd2_3_8,Rd2_3_11,Rd2_3_14,Rd2_3_17,Md2_3_18⟩
  have Md2_3_19 := M15.call spd2_3_5 (fun e => ((Mut.ne_ty M15 M16 (by decide)) e))
  have Od2_3_20 := O12.call spd2_3_5 (fun x hx e => (absurd (e ▸ hx) (O12.ne_mut M16 (by decide))))
  have Od2_3_21 := O13.call spd2_3_5 (fun x hx e => (absurd (e ▸ hx) (O13.ne_mut M16 (by decide))))
  have std2_3_22 := st11.call spd2_3_5 (fun x e => (.inl (e ▸ lb3)))
  refine ⟨.inr ⟨Has.le spd2_3_5.le std2_3_22.has,Md2_3_19.get,trivial⟩,?_⟩
  refine dr_c rfl (dU [.string ByteArray.empty,.slice none 0 0,I 0,I 0,.string ByteArray.empty,.slice none 0 0,.slice none 0 0] [.string dD.1.Name,.slice ad2_3_6 dD.1.Index.length cd2_3_7,I dD.1.E.Op,I dD.1.E.N,.string dD.1.E.Name,.slice ad2_3_9 dD.1.E.Index.length cd2_3_10,.slice ad2_3_12 dD.1.E.L.length cd2_3_13] [(0,.agg #[.string dD.1.Name,.slice ad2_3_6 dD.1.Index.length cd2_3_7,I dD.1.E.Op,I dD.1.E.N,.string dD.1.E.Name,.slice ad2_3_9 dD.1.E.Index.length cd2_3_10,.slice ad2_3_12 dD.1.E.L.length cd2_3_13])] u23 sz33 zr33 rfl rfl rfl (by kernel_rfl) rfl (by kernel_rfl) (fun bd2_4_1 wd2_4_2 ald2_4_3 => ?_))
  have lid2_4_8 : Lits hd2_3_4 [[.string dD.1.Name,.slice ad2_3_6 dD.1.Index.length cd2_3_7,I dD.1.E.Op,I dD.1.E.N,.string dD.1.E.Name,.slice ad2_3_9 dD.1.E.Index.length cd2_3_10,.slice ad2_3_12 dD.1.E.L.length cd2_3_13]] ([dD.1] : List GStmt) := (Lits.cons (GStmt.into (h := hd2_3_4) (x := dD.1) Rd2_3_8 Rd2_3_11 Rd2_3_14) Lits.nil)
  obtain ⟨hd2_4_4,led2_4_5,gd2_4_6,spd2_4_7⟩ := ald2_4_3.fz std2_3_22.has
  have Md2_4_9 := Md2_3_19.call0 spd2_4_7
  have Md2_4_10 := Md2_3_18.call0 spd2_4_7
  have Od2_4_11 := Od2_3_20.call0 spd2_4_7
  have Od2_4_12 := Od2_3_21.call0 spd2_4_7
  have std2_4_13 := std2_3_22.call0 spd2_4_7
  have Rd2_4_14 : SlR _ _ _ ([dD.1] : List GStmt) := Lits.sl (n := 1) (Lits.mono led2_4_5 lid2_4_8) rfl rfl (by decide) gd2_4_6
  refine ⟨.inr ⟨Has.le (spd2_3_5.le.trans led2_4_5) std2_4_13.has,Md2_4_9.get,trivial⟩,?_⟩
  obtain ⟨hsd2_5_1,H⟩ := cD H
  refine dr_c rfl (od_append (α := GStmt) (B := w0.heap.size) (l := l2) (l2 := ([dD.1] : List GStmt)) u23 u23 ap33 rfl rfl rfl std2_4_13.has std2_4_13.sp.size Od2_4_12 Rd2_4_14 rfl rfl hsd2_5_1 (fun ad2_5_2 cd2_5_3 wd2_5_4 Od2_5_5 spd2_5_6 bld2_5_7 => ?_))
  have Md2_5_8 := Md2_4_9.call spd2_5_6 (fun e => ((Od2_4_12.ne_mut Md2_4_9 (by decide)) e))
  have Md2_5_9 := Md2_4_10.call spd2_5_6 (fun e => ((Od2_4_12.ne_mut Md2_4_10 (by decide)) e))
  have Od2_5_10 := Od2_4_11.call spd2_5_6 (fun x hx e => ((Od2_4_11.ne_own Od2_4_12 (by decide)) x hx e))
  have std2_5_11 := std2_4_13.call spd2_5_6 (fun x e => (.inl (Od2_4_12.lbs x e)))
  refine ⟨.inr ⟨Has.le (spd2_3_5.le.trans led2_4_5) std2_5_11.has,Md2_5_8.get,trivial⟩,?_⟩
  refine bI rfl rfl (fun w_ ok_ => aF (b := b1) (o := 0) fl25_1 s2)<|dr_c rfl (od_store (o := 1) (n := 1) [.slice ad2_5_2 ((l2 ++ ([dD.1] : List GStmt)).length) cd2_5_3] [.slice a3 l1.length c3,.slice ad2_5_2 ((l2 ++ ([dD.1] : List GStmt)).length) cd2_5_3] (.slice ad2_5_2 ((l2 ++ ([dD.1] : List GStmt)).length) cd2_5_3) sz23 rfl rfl rfl Md2_5_8 rfl rfl rfl rfl rfl (fun wd2_7_1 wrd2_7_2 Md2_7_3 => ?_))
  have spd2_7_4 := wrd2_7_2.st std2_5_11.has Md2_5_8.none
  have Md2_7_5 := Md2_5_9.call spd2_7_4 (fun e => ((Mut.ne_ty Md2_5_9 Md2_5_8 (by decide)) e))
  have Od2_7_6 := Od2_5_10.call spd2_7_4 (fun x hx e => (absurd (e ▸ hx) (Od2_5_10.ne_mut Md2_5_8 (by decide))))
  have Od2_7_7 := Od2_5_5.call spd2_7_4 (fun x hx e => (absurd (e ▸ hx) (Od2_5_5.ne_mut Md2_5_8 (by decide))))
  have std2_7_8 := std2_5_11.call spd2_7_4 (fun x e => (.inl (e ▸ lb2)))
  refine ⟨.inl rfl,?_⟩
  refine dZ ?_
  exact Jj3 (spd2_3_5.le.trans led2_4_5) std2_7_8 s2 s8 rfl rfl rfl s26 s27 s28 (SlR.mono (sp7.le.trans (spd2_3_5.le.trans led2_4_5)) R3) (SlR.mono (sp7.le.trans (spd2_3_5.le.trans led2_4_5)) R3) Od2_7_6 Od2_7_7 Md2_7_3 (SlR.mono led2_4_5 Rd2_3_17) Md2_7_5 H
theorem ZSLl24_0_all : ∀ k,ZSLl24_0 k
  | 0 => SLl24_0_z
  | k + 1 => SLl24_0_s k (ZSLl24_0_all k)
theorem Fl24_0 (k : Nat) : SLl24_0 k := (ZSLl24_0_all k)
theorem F24 (k : Nat) : S24 k := by
 intro p0 w0 h0 hh r H
 unfold m24 at H
 refine aO (fn := Try.f24) Try.func24 rfl (Nat.le_of_ble_eq_true rfl) ?_
 show Run X24 [.code c24_0] (fun t => List.getD [.string p0] t undef) w0 (.fn (Q24 w0 h0 r))
 have st0 := St.init hh noM
 refine aB e24_0<|aA e24_1<|cF (.agg #[.slice none 0 0,.slice none 0 0]) zr25 rfl rfl (fun b1 w1 al1 => ?_)
 replace al1 : Al _ (.cells (List.toArray [.slice none 0 0,.slice none 0 0]) 25 (0,0)) b1 w1 := al1
 have M1 := Mut.new st0 al1
 have lb1 := st0.alB al1
 have sp1 := al1.st st0.has
 have st1 := st0.call0 sp1
 refine vv rfl (aC (I 0) rfl)<|vv rfl (aC (I 0) rfl)<|aD<|aB e24_2<|aA e24_3<|vv rfl (aE (.string p0) rfl) ?_
 obtain ⟨r1,hr1,H⟩ := aK H
 refine aU [.string p0] en40 rfl rfl rfl (F40 k st1.has hr1) ?_
 rintro _ w2 ⟨a1,c1,h1,rfl,sp2,R1⟩
 have M2 := M1.call0 sp2
 have st2 := st1.call0 sp2
 refine vv rfl (aE (.tuple #[.slice a1 r1.1.length c1,I r1.2.1,I r1.2.2]) rfl)<|vv rfl (bJ (.slice a1 r1.1.length c1) rfl rfl)<|vv rfl (bJ (I r1.2.1) rfl rfl)<|vv rfl (bJ (I r1.2.2) rfl rfl)<|vv rfl (aC (.slice a1 r1.1.length c1) rfl)<|vv rfl (aC (I r1.2.1) rfl)<|vv rfl (aC (I r1.2.2) rfl)<|aD<|aB e24_4<|aB e24_5 ?_
 refine aA e24_6<|vv rfl (aE (I r1.2.2) rfl)<|vv rfl (aP .neq .i64 r1.2.2 0 (.bool (!decide (r1.2.2 = 0))) 35 35 rfl rfl rfl)<|aD ?_
 rcases aN H with ⟨hc1,H⟩ | ⟨hc1,H⟩
 · refine fa e24_7 (bL (dT hc1)) rfl<|aM e24_11<|aB e24_12<|aA e24_13<|vv rfl (aE (.slice a1 r1.1.length c1) rfl) ?_
   obtain ⟨r2,hr2,H⟩ := aK H
   refine aU [.slice a1 r1.1.length c1] en41 rfl rfl rfl (F41 k st2.has R1 hr2) ?_
   rintro _ w4 ⟨a2,c2,h2,rfl,sp4,R2⟩
   have M4 := M2.call0 sp4
   have st4 := st2.call0 sp4
   refine vv rfl (aC (.slice a2 r2.length c2) rfl)<|aD<|aB e24_14<|aB e24_15<|aA e24_16<|vv rfl (aE (.slice a2 r2.length c2) rfl)<|vv rfl (bN u90 rfl)<|vv rfl (aE (I 0) rfl)<|aD<|aT e24_17 ?_
   refine cB e24_18 ?_
   exact Fl24_0 k (j2 := 0) st4 rfl rfl rfl rfl rfl (Own.nil _ _ _ _) (Own.nil _ _ _ _) M4 lb1 R2 rfl H
 refine tr e24_7 (bK (dF hc1)) rfl<|aB e24_8<|aA e24_9<|vv rfl (bH [.slice none 0 0,.slice none 0 0] ag25 sz25 rfl rfl (aY M2.get rfl))<|vv rfl (aE (I r1.2.1) rfl)<|vv rfl (aE (I r1.2.2) rfl)<|aV (o := 0) (n := 2) [.slice none 0 0,.slice none 0 0] [.slice none 0 0,.slice none 0 0] (.agg #[.slice none 0 0,.slice none 0 0]) sz25 rfl rfl rfl rfl M2 rfl rfl rfl rfl rfl (fun w3 wr1 M3 => ?_)
 have sp3 := wr1.st st2.has M2.none
 have st3 := st2.call sp3 (fun x e => (.inl (e ▸ lb1)))
 refine vv rfl (aC (I r1.2.1) rfl)<|vv rfl (aC (I r1.2.2) rfl)<|aD ?_
 cases H
 exact aJ e24_10 (res3 Try.results24 (eI [.slice none 0 0,.slice none 0 0] ag25 sz25 rfl rfl (aY M3.get rfl)) rfl rfl ⟨none,0,none,0,h1,rfl,st3,(SlR.none _),(SlR.none _)⟩)
theorem F8 (k : Nat) : S8 k := by
 intro  w0 h0 hh r H
 unfold m8 at H
 refine aO (fn := Try.f8) Try.func8 rfl (Nat.le_of_ble_eq_true rfl) ?_
 show Run X8 [.code c8_0] (fun t => List.getD [] t undef) w0 (.fn (Q8 w0 h0 r))
 have st0 := St.init hh noM
 refine aB e8_0<|aA e8_1<|vv rfl (aC (.bool false) rfl)<|aD<|aB e8_2<|aA e8_3 ?_
 obtain ⟨r1,hr1,H⟩ := aK H
 refine aU [.string (⟨#[116,101,110,115,111,114,32,97,91,50,93,58,32,100,101,110,115,101,10,116,101,110,115,111,114,32,98,91,50,44,51,93,58,32,99,115,114,10,116,101,110,115,111,114,32,99,91,51,93,58,32,99,115,102,10,97,91,105,93,32,61,32,98,91,105,44,32,107,93,32,42,32,99,91,107,93,32,43,32,97,91,105,93]⟩ : ByteArray)] en24 rfl rfl rfl (F24 k st0.has hr1) ?_
 rintro _ w1 ⟨a1,c1,a2,c2,h1,rfl,sp1,R1,R2⟩
 have st1 := st0.call0 sp1
 refine vv rfl (aE (.tuple #[.agg #[.slice a1 r1.1.D.length c1,.slice a2 r1.1.S.length c2],I r1.2.1,I r1.2.2]) rfl)<|vv rfl (bJ (.agg #[.slice a1 r1.1.D.length c1,.slice a2 r1.1.S.length c2]) rfl rfl)<|vv rfl (bJ (I r1.2.1) rfl rfl)<|vv rfl (bJ (I r1.2.2) rfl rfl)<|cF (.agg #[.slice none 0 0,.slice none 0 0]) zr25 rfl rfl (fun b1 w2 al1 => ?_)
 replace al1 : Al _ (.cells (List.toArray [.slice none 0 0,.slice none 0 0]) 25 (0,0)) b1 w2 := al1
 have M1 := Mut.new st1 al1
 have lb1 := st1.alB al1
 have sp2 := al1.st st1.has
 have st2 := st1.call0 sp2
 refine aV (o := 0) (n := 2) [.slice a1 r1.1.D.length c1,.slice a2 r1.1.S.length c2] [.slice a1 r1.1.D.length c1,.slice a2 r1.1.S.length c2] (.agg #[.slice a1 r1.1.D.length c1,.slice a2 r1.1.S.length c2]) sz25 rfl rfl rfl rfl M1 rfl rfl rfl rfl rfl (fun w3 wr1 M2 => ?_)
 have sp3 := wr1.st st2.has M1.none
 have st3 := st2.call sp3 (fun x e => (.inl (e ▸ lb1)))
 obtain ⟨h2,le1,g1,st4,kp1⟩ := M2.fz st3 lb1
 refine vv rfl (aC (I r1.2.1) rfl)<|vv rfl (aC (I r1.2.2) rfl)<|aD<|aB e8_4<|aB e8_5<|aA e8_6<|vv rfl (aE (I r1.2.2) rfl)<|vv rfl (aP .neq .i64 r1.2.2 0 (.bool (!decide (r1.2.2 = 0))) 35 35 rfl rfl rfl)<|vv rfl (aE (.bool (!decide (r1.2.2 = 0))) rfl) ?_
 rcases aN H with ⟨hc1,H⟩ | ⟨hc1,H⟩
 · refine aZ (wt2 (bL (dT hc1)) rfl) rfl (aF (b := b1) (o := 0) fl25_1 rfl)<|aZ (wt2 (bL (dT hc1)) rfl) rfl (aL (.slice a2 r1.1.S.length c2) sc23 rfl ((aQ (st4.has _ _ g1)).trans rfl))<|aZ (wt2 (bL (dT hc1)) rfl) rfl (bN u23 rfl)<|aZ (wt2 (bL (dT hc1)) rfl) rfl (aP .neq .i64 (r1.1.S.length : Int) 1 (.bool (!decide ((r1.1.S.length : Int) = 1))) 3 3 rfl rfl rfl)<|vv rfl (dI (.bool (!decide ((r1.1.S.length : Int) = 1))) (bL (dT hc1)) rfl rfl)<|aD ?_
   rcases aN H with ⟨hc2,H⟩ | ⟨hc2,H⟩
   · refine fa e8_7 (bL (dT hc2)) rfl<|aM e8_11<|aB e8_12<|aA e8_13<|vv rfl (aF (b := b1) (o := 0) fl25_1 rfl)<|vv rfl (aL (.slice a2 r1.1.S.length c2) sc23 rfl ((aQ (st4.has _ _ g1)).trans rfl)) ?_
     obtain ⟨x1,hx1,H⟩ := aK H
     have hi1 := dB hx1
     obtain ⟨b2,o1,vs1,ea1,rp1,cl1⟩ := SlR.at (SlR.mono le1 R2) hi1.2.2
     obtain ⟨a3,c3,a4,c4,a5,c5,rfl,R3,R4,R5⟩ := GStmt.out rp1
     refine vv rfl (aX u23 sz33 rfl rfl ea1 hi1.1 hi1.2.1)<|vv rfl (bH [.string x1.Name,.slice a3 x1.Index.length c3,I x1.E.Op,I x1.E.N,.string x1.E.Name,.slice a4 x1.E.Index.length c4,.slice a5 x1.E.L.length c5] ag33 sz33 rfl rfl (cl1 _ (Has.le (Le.refl _) st4.has))) ?_
     obtain ⟨r2,hr2,H⟩ := aK H
     refine aU [.agg #[.string x1.Name,.slice a3 x1.Index.length c3,I x1.E.Op,I x1.E.N,.string x1.E.Name,.slice a4 x1.E.Index.length c4,.slice a5 x1.E.L.length c5]] en17 rfl rfl rfl (F17 k (p0 := x1) st4.has R3 R4 R5 hr2) ?_
     rintro _ w4 ⟨a6,c6,a7,c7,h3,rfl,sp4,R6,R7⟩
     have st5 := st4.call0 sp4
     refine vv rfl (aE (.tuple #[.agg #[I r2.1.Op,I r2.1.N,.string r2.1.Name,.slice a6 r2.1.Index.length c6,.slice a7 r2.1.L.length c7],I r2.2]) rfl)<|vv rfl (bJ (.agg #[I r2.1.Op,I r2.1.N,.string r2.1.Name,.slice a6 r2.1.Index.length c6,.slice a7 r2.1.L.length c7]) rfl rfl)<|vv rfl (bJ (I r2.2) rfl rfl)<|cF (.agg #[I 0,I 0,.string ByteArray.empty,.slice none 0 0,.slice none 0 0]) zr31 rfl rfl (fun b3 w5 al2 => ?_)
     replace al2 : Al _ (.cells (List.toArray [I 0,I 0,.string ByteArray.empty,.slice none 0 0,.slice none 0 0]) 31 (0,0)) b3 w5 := al2
     have M3 := Mut.new st5 al2
     have lb2 := st5.alB al2
     have sp5 := al2.st st5.has
     have st6 := st5.call0 sp5
     refine aV (o := 0) (n := 5) [I r2.1.Op,I r2.1.N,.string r2.1.Name,.slice a6 r2.1.Index.length c6,.slice a7 r2.1.L.length c7] [I r2.1.Op,I r2.1.N,.string r2.1.Name,.slice a6 r2.1.Index.length c6,.slice a7 r2.1.L.length c7] (.agg #[I r2.1.Op,I r2.1.N,.string r2.1.Name,.slice a6 r2.1.Index.length c6,.slice a7 r2.1.L.length c7]) cX rfl rfl rfl rfl M3 rfl rfl rfl rfl rfl (fun w6 wr2 M4 => ?_)
     have sp6 := wr2.st st6.has M3.none
     have st7 := st6.call sp6 (fun x e => (.inl (e ▸ lb2)))
     obtain ⟨h4,le2,g2,st8,kp2⟩ := M4.fz st7 lb2
     refine vv rfl (aC (I r2.2) rfl)<|aD<|aB e8_14<|aA e8_15<|vv rfl (bH [.slice a1 r1.1.D.length c1,.slice a2 r1.1.S.length c2] ag25 sz25 rfl rfl (aY (st8.has _ _ ((sp4.le.trans le2) _ _ g1)) rfl)) ?_
     obtain ⟨r3,hr3,H⟩ := aK H
     refine aU [.agg #[.slice a1 r1.1.D.length c1,.slice a2 r1.1.S.length c2]] en14 rfl rfl rfl (F14 k (p0 := r1.1) st8.has (SlR.mono (le1.trans (sp4.le.trans le2)) R1) (SlR.mono (le1.trans (sp4.le.trans le2)) R2) hr3) ?_
     rintro _ w7 ⟨h5,rfl,sp7⟩
     have st9 := st8.call0 sp7
     refine vv rfl (aE (.tuple #[I r3.1,I r3.2]) rfl)<|vv rfl (bJ (I r3.1) rfl rfl)<|vv rfl (bJ (I r3.2) rfl rfl)<|vv rfl (aC (I r3.1) rfl)<|vv rfl (aC (I r3.2) rfl)<|aD<|aB e8_16<|aA e8_17 ?_
     obtain ⟨j2,hj2,H⟩ := dE H
     have Jj2 : ∀ {y1 : Bool} {σ1 : Env} {w8 : World} {h6 : Sto},Le h5 h6 → St w0 noM h0 h6 w8 → σ1 0 = .bool y1 → j2 y1 = some r → Run X8 [.code c8_18] σ1 w8 (.fn (Q8 w0 h0 r)) := by
      intro y1 σ1 w8 h6 le3 st10 s0_j2 H
      rw [hj2] at H
      cases H
      exact aJ e8_18 (cG Try.results8 s0_j2 ⟨h6,rfl,st10⟩)
     refine vv rfl (aE (I r2.2) rfl)<|vv rfl (aP .eql .i64 r2.2 0 (.bool (decide (r2.2 = 0))) 35 35 rfl rfl rfl)<|vv rfl (aE (.bool (decide (r2.2 = 0))) rfl) ?_
     rcases aN H with ⟨hc3,H⟩ | ⟨hc3,H⟩
     · refine aZ (wt2 (dT hc3) rfl) rfl (aF (b := b3) (o := 0) fl31_0 rfl)<|aZ (wt2 (dT hc3) rfl) rfl (aL (I r2.1.Op) sc3 rfl ((aQ (st9.has _ _ (sp7.le _ _ g2))).trans rfl))<|aZ (wt2 (dT hc3) rfl) rfl (aP .eql .i64 r2.1.Op 3 (.bool (decide (r2.1.Op = 3))) 3 3 rfl rfl rfl)<|vv rfl (dH (.bool (decide (r2.1.Op = 3))) (dT hc3) rfl rfl)<|vv rfl (aE (.bool (decide (r2.1.Op = 3))) rfl) ?_
       rcases aN H with ⟨hc4,H⟩ | ⟨hc4,H⟩
       · refine aZ (wt2 (dT hc4) rfl) rfl (aF (b := b3) (o := 0) fl31_4 rfl)<|aZ (wt2 (dT hc4) rfl) rfl (aL (.slice a7 r2.1.L.length c7) sc29 rfl ((aQ (st9.has _ _ (sp7.le _ _ g2))).trans rfl))<|aZ (wt2 (dT hc4) rfl) rfl (bN u29 rfl)<|aZ (wt2 (dT hc4) rfl) rfl (aP .eql .i64 (r2.1.L.length : Int) 2 (.bool (decide ((r2.1.L.length : Int) = 2))) 3 3 rfl rfl rfl)<|vv rfl (dH (.bool (decide ((r2.1.L.length : Int) = 2))) (dT hc4) rfl rfl)<|vv rfl (aE (.bool (decide ((r2.1.L.length : Int) = 2))) rfl) ?_
         rcases aN H with ⟨hc5,H⟩ | ⟨hc5,H⟩
         · refine aZ (wt2 (dT hc5) rfl) rfl (aF (b := b3) (o := 0) fl31_4 rfl)<|aZ (wt2 (dT hc5) rfl) rfl (aL (.slice a7 r2.1.L.length c7) sc29 rfl ((aQ (st9.has _ _ (sp7.le _ _ g2))).trans rfl)) ?_
           obtain ⟨x2,hx2,H⟩ := aK H
           have hi2 := dB hx2
           obtain ⟨b4,o2,vs2,ea2,rp2,cl2⟩ := SlR.at (SlR.mono (le2.trans sp7.le) R7) hi2.2.2
           obtain ⟨a8,c8,a9,c9,rfl,R8,R9⟩ := GNode.out rp2
           refine aZ (wt2 (dT hc5) rfl) rfl (aX u29 cX rfl rfl ea2 hi2.1 hi2.2.1)<|aZ (wt2 (dT hc5) rfl) rfl (aF (b := b4) (o := o2 + (0 : Int).toNat * 5) fl31_0 rfl)<|aZ (wt2 (dT hc5) rfl) rfl (aL (I x2.Op) sc3 rfl (el_one (cl2 _ (Has.le (Le.refl _) st9.has)) (by decide) rfl))<|aZ (wt2 (dT hc5) rfl) rfl (aP .eql .i64 x2.Op 7 (.bool (decide (x2.Op = 7))) 3 3 rfl rfl rfl)<|vv rfl (dH (.bool (decide (x2.Op = 7))) (dT hc5) rfl rfl)<|vv rfl (aE (.bool (decide (x2.Op = 7))) rfl) ?_
           rcases aN H with ⟨hc6,H⟩ | ⟨hc6,H⟩
           · refine aZ (wt2 (dT hc6) rfl) rfl (aF (b := b3) (o := 0) fl31_4 rfl)<|aZ (wt2 (dT hc6) rfl) rfl (aL (.slice a7 r2.1.L.length c7) sc29 rfl ((aQ (st9.has _ _ (sp7.le _ _ g2))).trans rfl)) ?_
             obtain ⟨x3,hx3,H⟩ := aK H
             have hi3 := dB hx3
             obtain ⟨b5,o3,vs3,ea3,rp3,cl3⟩ := SlR.at (SlR.mono (le2.trans sp7.le) R7) hi3.2.2
             obtain ⟨a10,c10,a11,c11,rfl,R10,R11⟩ := GNode.out rp3
             refine aZ (wt2 (dT hc6) rfl) rfl (aX u29 cX rfl rfl ea3 hi3.1 hi3.2.1)<|aZ (wt2 (dT hc6) rfl) rfl (aF (b := b5) (o := o3 + (0 : Int).toNat * 5) fl31_2 rfl)<|aZ (wt2 (dT hc6) rfl) rfl (aL (.string x3.Name) sc9 rfl (el_one (cl3 _ (Has.le (Le.refl _) st9.has)) (by decide) rfl))<|aZ (wt2 (dT hc6) rfl) rfl (x_strEq x3.Name (⟨#[107]⟩ : ByteArray) 9 9 rfl rfl)<|vv rfl (dH (.bool (decide (x3.Name = (⟨#[107]⟩ : ByteArray)))) (dT hc6) rfl rfl)<|vv rfl (aE (.bool (decide (x3.Name = (⟨#[107]⟩ : ByteArray)))) rfl) ?_
             rcases aN H with ⟨hc7,H⟩ | ⟨hc7,H⟩
             · refine aZ (wt2 (dT hc7) rfl) rfl (aF (b := b3) (o := 0) fl31_4 rfl)<|aZ (wt2 (dT hc7) rfl) rfl (aL (.slice a7 r2.1.L.length c7) sc29 rfl ((aQ (st9.has _ _ (sp7.le _ _ g2))).trans rfl)) ?_
               obtain ⟨x4,hx4,H⟩ := aK H
               have hi4 := dB hx4
               obtain ⟨b6,o4,vs4,ea4,rp4,cl4⟩ := SlR.at (SlR.mono (le2.trans sp7.le) R7) hi4.2.2
               obtain ⟨a12,c12,a13,c13,rfl,R12,R13⟩ := GNode.out rp4
               refine aZ (wt2 (dT hc7) rfl) rfl (aX u29 cX rfl rfl ea4 hi4.1 hi4.2.1)<|aZ (wt2 (dT hc7) rfl) rfl (aF (b := b6) (o := o4 + (1 : Int).toNat * 5) fl31_0 rfl)<|aZ (wt2 (dT hc7) rfl) rfl (aL (I x4.Op) sc3 rfl (el_one (cl4 _ (Has.le (Le.refl _) st9.has)) (by decide) rfl))<|aZ (wt2 (dT hc7) rfl) rfl (aP .eql .i64 x4.Op 2 (.bool (decide (x4.Op = 2))) 3 3 rfl rfl rfl)<|vv rfl (dH (.bool (decide (x4.Op = 2))) (dT hc7) rfl rfl)<|vv rfl (aE (.bool (decide (x4.Op = 2))) rfl) ?_
               rcases aN H with ⟨hc8,H⟩ | ⟨hc8,H⟩
               · refine aZ (wt2 (dT hc8) rfl) rfl (aE (I r3.1) rfl)<|aZ (wt2 (dT hc8) rfl) rfl (aP .eql .i64 r3.1 4 (.bool (decide (r3.1 = 4))) 3 3 rfl rfl rfl)<|vv rfl (dH (.bool (decide (r3.1 = 4))) (dT hc8) rfl rfl)<|vv rfl (aE (.bool (decide (r3.1 = 4))) rfl) ?_
                 rcases aN H with ⟨hc9,H⟩ | ⟨hc9,H⟩
                 · refine aZ (wt2 (dT hc9) rfl) rfl (aE (I r3.2) rfl)<|aZ (wt2 (dT hc9) rfl) rfl (aP .eql .i64 r3.2 0 (.bool (decide (r3.2 = 0))) 35 35 rfl rfl rfl)<|vv rfl (dH (.bool (decide (r3.2 = 0))) (dT hc9) rfl rfl)<|vv rfl (aC (.bool (decide (r3.2 = 0))) rfl)<|aD ?_
                   exact Jj2 (Le.refl _) st9 rfl H
                 refine aR (wf2 (dF hc9) rfl) rfl<|aR (wf2 (dF hc9) rfl) rfl<|vv rfl (dI (.bool false) (dF hc9) rfl rfl)<|vv rfl (aC (.bool false) rfl)<|aD ?_
                 exact Jj2 (Le.refl _) st9 rfl H
               refine aR (wf2 (dF hc8) rfl) rfl<|aR (wf2 (dF hc8) rfl) rfl<|vv rfl (dI (.bool false) (dF hc8) rfl rfl)<|vv rfl (aE (.bool false) rfl)<|aR (wf (p := false) rfl rfl) rfl<|aR (wf (p := false) rfl rfl) rfl<|vv rfl (cI (.bool false) (p := false) rfl rfl rfl)<|vv rfl (aC (.bool false) rfl)<|aD ?_
               exact Jj2 (Le.refl _) st9 rfl H
             refine aR (wf2 (dF hc7) rfl) rfl<|aR (wf2 (dF hc7) rfl) rfl<|aR (wf2 (dF hc7) rfl) rfl<|aR (wf2 (dF hc7) rfl) rfl<|aR (wf2 (dF hc7) rfl) rfl<|aR (wf2 (dF hc7) rfl) rfl<|vv rfl (dI (.bool false) (dF hc7) rfl rfl)<|vv rfl (aE (.bool false) rfl)<|aR (wf (p := false) rfl rfl) rfl<|aR (wf (p := false) rfl rfl) rfl ?_
             refine vv rfl (cI (.bool false) (p := false) rfl rfl rfl)<|vv rfl (aE (.bool false) rfl)<|aR (wf (p := false) rfl rfl) rfl<|aR (wf (p := false) rfl rfl) rfl<|vv rfl (cI (.bool false) (p := false) rfl rfl rfl)<|vv rfl (aC (.bool false) rfl)<|aD ?_
             exact Jj2 (Le.refl _) st9 rfl H
           refine aR (wf2 (dF hc6) rfl) rfl<|aR (wf2 (dF hc6) rfl) rfl<|aR (wf2 (dF hc6) rfl) rfl<|aR (wf2 (dF hc6) rfl) rfl<|aR (wf2 (dF hc6) rfl) rfl<|aR (wf2 (dF hc6) rfl) rfl<|vv rfl (dI (.bool false) (dF hc6) rfl rfl)<|vv rfl (aE (.bool false) rfl)<|aR (wf (p := false) rfl rfl) rfl<|aR (wf (p := false) rfl rfl) rfl ?_
           refine aR (wf (p := false) rfl rfl) rfl<|aR (wf (p := false) rfl rfl) rfl<|aR (wf (p := false) rfl rfl) rfl<|aR (wf (p := false) rfl rfl) rfl<|vv rfl (cI (.bool false) (p := false) rfl rfl rfl)<|vv rfl (aE (.bool false) rfl)<|aR (wf (p := false) rfl rfl) rfl<|aR (wf (p := false) rfl rfl) rfl<|vv rfl (cI (.bool false) (p := false) rfl rfl rfl)<|vv rfl (aE (.bool false) rfl) ?_
           refine aR (wf (p := false) rfl rfl) rfl<|aR (wf (p := false) rfl rfl) rfl<|vv rfl (cI (.bool false) (p := false) rfl rfl rfl)<|vv rfl (aC (.bool false) rfl)<|aD ?_
           exact Jj2 (Le.refl _) st9 rfl H
         refine aR (wf2 (dF hc5) rfl) rfl<|aR (wf2 (dF hc5) rfl) rfl<|aR (wf2 (dF hc5) rfl) rfl<|aR (wf2 (dF hc5) rfl) rfl<|aR (wf2 (dF hc5) rfl) rfl<|aR (wf2 (dF hc5) rfl) rfl<|vv rfl (dI (.bool false) (dF hc5) rfl rfl)<|vv rfl (aE (.bool false) rfl)<|aR (wf (p := false) rfl rfl) rfl<|aR (wf (p := false) rfl rfl) rfl ?_
         refine aR (wf (p := false) rfl rfl) rfl<|aR (wf (p := false) rfl rfl) rfl<|aR (wf (p := false) rfl rfl) rfl<|aR (wf (p := false) rfl rfl) rfl<|vv rfl (cI (.bool false) (p := false) rfl rfl rfl)<|vv rfl (aE (.bool false) rfl)<|aR (wf (p := false) rfl rfl) rfl<|aR (wf (p := false) rfl rfl) rfl<|aR (wf (p := false) rfl rfl) rfl<|aR (wf (p := false) rfl rfl) rfl ?_
         refine aR (wf (p := false) rfl rfl) rfl<|aR (wf (p := false) rfl rfl) rfl<|vv rfl (cI (.bool false) (p := false) rfl rfl rfl)<|vv rfl (aE (.bool false) rfl)<|aR (wf (p := false) rfl rfl) rfl<|aR (wf (p := false) rfl rfl) rfl<|vv rfl (cI (.bool false) (p := false) rfl rfl rfl)<|vv rfl (aE (.bool false) rfl)<|aR (wf (p := false) rfl rfl) rfl<|aR (wf (p := false) rfl rfl) rfl ?_
         refine vv rfl (cI (.bool false) (p := false) rfl rfl rfl)<|vv rfl (aC (.bool false) rfl)<|aD ?_
         exact Jj2 (Le.refl _) st9 rfl H
       refine aR (wf2 (dF hc4) rfl) rfl<|aR (wf2 (dF hc4) rfl) rfl<|aR (wf2 (dF hc4) rfl) rfl<|aR (wf2 (dF hc4) rfl) rfl<|vv rfl (dI (.bool false) (dF hc4) rfl rfl)<|vv rfl (aE (.bool false) rfl)<|aR (wf (p := false) rfl rfl) rfl<|aR (wf (p := false) rfl rfl) rfl<|aR (wf (p := false) rfl rfl) rfl<|aR (wf (p := false) rfl rfl) rfl ?_
       refine aR (wf (p := false) rfl rfl) rfl<|aR (wf (p := false) rfl rfl) rfl<|vv rfl (cI (.bool false) (p := false) rfl rfl rfl)<|vv rfl (aE (.bool false) rfl)<|aR (wf (p := false) rfl rfl) rfl<|aR (wf (p := false) rfl rfl) rfl<|aR (wf (p := false) rfl rfl) rfl<|aR (wf (p := false) rfl rfl) rfl<|aR (wf (p := false) rfl rfl) rfl<|aR (wf (p := false) rfl rfl) rfl ?_
       refine vv rfl (cI (.bool false) (p := false) rfl rfl rfl)<|vv rfl (aE (.bool false) rfl)<|aR (wf (p := false) rfl rfl) rfl<|aR (wf (p := false) rfl rfl) rfl<|aR (wf (p := false) rfl rfl) rfl<|aR (wf (p := false) rfl rfl) rfl<|aR (wf (p := false) rfl rfl) rfl<|aR (wf (p := false) rfl rfl) rfl<|vv rfl (cI (.bool false) (p := false) rfl rfl rfl)<|vv rfl (aE (.bool false) rfl) ?_
       refine aR (wf (p := false) rfl rfl) rfl<|aR (wf (p := false) rfl rfl) rfl<|vv rfl (cI (.bool false) (p := false) rfl rfl rfl)<|vv rfl (aE (.bool false) rfl)<|aR (wf (p := false) rfl rfl) rfl<|aR (wf (p := false) rfl rfl) rfl<|vv rfl (cI (.bool false) (p := false) rfl rfl rfl)<|vv rfl (aC (.bool false) rfl)<|aD ?_
       exact Jj2 (Le.refl _) st9 rfl H
     refine aR (wf2 (dF hc3) rfl) rfl<|aR (wf2 (dF hc3) rfl) rfl<|aR (wf2 (dF hc3) rfl) rfl<|vv rfl (dI (.bool false) (dF hc3) rfl rfl)<|vv rfl (aE (.bool false) rfl)<|aR (wf (p := false) rfl rfl) rfl<|aR (wf (p := false) rfl rfl) rfl<|aR (wf (p := false) rfl rfl) rfl<|aR (wf (p := false) rfl rfl) rfl<|vv rfl (cI (.bool false) (p := false) rfl rfl rfl) ?_
     refine vv rfl (aE (.bool false) rfl)<|aR (wf (p := false) rfl rfl) rfl<|aR (wf (p := false) rfl rfl) rfl<|aR (wf (p := false) rfl rfl) rfl<|aR (wf (p := false) rfl rfl) rfl<|aR (wf (p := false) rfl rfl) rfl<|aR (wf (p := false) rfl rfl) rfl<|vv rfl (cI (.bool false) (p := false) rfl rfl rfl)<|vv rfl (aE (.bool false) rfl)<|aR (wf (p := false) rfl rfl) rfl ?_
     refine aR (wf (p := false) rfl rfl) rfl<|aR (wf (p := false) rfl rfl) rfl<|aR (wf (p := false) rfl rfl) rfl<|aR (wf (p := false) rfl rfl) rfl<|aR (wf (p := false) rfl rfl) rfl<|vv rfl (cI (.bool false) (p := false) rfl rfl rfl)<|vv rfl (aE (.bool false) rfl)<|aR (wf (p := false) rfl rfl) rfl<|aR (wf (p := false) rfl rfl) rfl<|aR (wf (p := false) rfl rfl) rfl ?_
     refine aR (wf (p := false) rfl rfl) rfl<|aR (wf (p := false) rfl rfl) rfl<|aR (wf (p := false) rfl rfl) rfl<|vv rfl (cI (.bool false) (p := false) rfl rfl rfl)<|vv rfl (aE (.bool false) rfl)<|aR (wf (p := false) rfl rfl) rfl<|aR (wf (p := false) rfl rfl) rfl<|vv rfl (cI (.bool false) (p := false) rfl rfl rfl)<|vv rfl (aE (.bool false) rfl)<|aR (wf (p := false) rfl rfl) rfl ?_
     refine aR (wf (p := false) rfl rfl) rfl<|vv rfl (cI (.bool false) (p := false) rfl rfl rfl)<|vv rfl (aC (.bool false) rfl)<|aD ?_
     exact Jj2 (Le.refl _) st9 rfl H
   refine tr e8_7 (bK (dF hc2)) rfl<|aB e8_8<|aA e8_9<|vv rfl (aC (.bool false) rfl)<|aD ?_
   cases H
   exact aJ e8_10 (cG Try.results8 rfl ⟨h2,rfl,st4⟩)
 refine aR (wf2 (bK (dF hc1)) rfl) rfl<|aR (wf2 (bK (dF hc1)) rfl) rfl<|aR (wf2 (bK (dF hc1)) rfl) rfl<|aR (wf2 (bK (dF hc1)) rfl) rfl<|vv rfl (dH (.bool true) (bK (dF hc1)) rfl rfl)<|aD<|cQ e8_7 (p := true) rfl rfl<|aB e8_8<|aA e8_9<|vv rfl (aC (.bool false) rfl) ?_
 refine aD ?_
 cases H
 exact aJ e8_10 (cG Try.results8 rfl ⟨h2,rfl,st4⟩)
abbrev ZS25 (k : Nat) : Prop := S25 k ∧ SLl25_0 k ∧ SLl25_1 k
theorem S25_z : S25 0 := by
  unfold S25; intros; rename_i H; exact absurd H (by simp [m25])
theorem S25_s (k : Nat) (ih : ZS25 k) : S25 (k + 1) := by
 intro p0 aG bD aH bE p1 w0 h0 hh cN Rp0_L r H
 rw [m25] at H
 refine aO (fn := Try.f25) Try.func25 rfl (Nat.le_of_ble_eq_true rfl) ?_
 show Run X25 [.code c25_0] (fun t => List.getD [.agg #[I p0.Op,I p0.N,.string p0.Name,.slice aG p0.Index.length aH,.slice bD p0.L.length bE],I p1] t undef) w0 (.fn (Q25 w0 h0 r))
 have st0 := St.init hh noM
 refine aB e25_0<|aA e25_1<|eF (.agg #[I p0.Op,I p0.N,.string p0.Name,.slice aG p0.Index.length aH,.slice bD p0.L.length bE]) rfl rfl rfl (fun b1 w1 al1 => ?_)
 replace al1 : Al _ (.cells (List.toArray [I p0.Op,I p0.N,.string p0.Name,.slice aG p0.Index.length aH,.slice bD p0.L.length bE]) 31 (0,0)) b1 w1 := al1
 obtain ⟨h1,le1,g1,sp1⟩ := al1.fz st0.has
 have st1 := st0.call0 sp1
 refine vv rfl (aC (.bool false) rfl)<|aD<|aB e25_2<|aB e25_3<|aA e25_4<|vv rfl (aE (I p1) rfl)<|vv rfl (aP .eql .i64 p1 0 (.bool (decide (p1 = 0))) 3 3 rfl rfl rfl)<|vv rfl (aE (.bool (decide (p1 = 0))) rfl) ?_
 rcases aN H with ⟨hc1,H⟩ | ⟨hc1,H⟩
 · refine aR (wf2 (dT hc1) rfl) rfl<|aR (wf2 (dT hc1) rfl) rfl<|aR (wf2 (dT hc1) rfl) rfl<|aR (wf2 (dT hc1) rfl) rfl<|vv rfl (dH (.bool true) (dT hc1) rfl rfl)<|vv rfl (aE (.bool true) rfl)<|aR (wf (p := true) rfl rfl) rfl<|aR (wf (p := true) rfl rfl) rfl<|aR (wf (p := true) rfl rfl) rfl<|aR (wf (p := true) rfl rfl) rfl ?_
   refine vv rfl (x_pickT (.bool true) (p := true) rfl rfl rfl)<|vv rfl (aE (.bool true) rfl)<|aR (wf (p := true) rfl rfl) rfl<|aR (wf (p := true) rfl rfl) rfl<|aR (wf (p := true) rfl rfl) rfl<|aR (wf (p := true) rfl rfl) rfl<|vv rfl (x_pickT (.bool true) (p := true) rfl rfl rfl)<|aD<|cQ e25_5 (p := true) rfl rfl<|aB e25_6 ?_
   refine aA e25_7<|vv rfl (aC (.bool false) rfl)<|aD ?_
   cases H
   exact aJ e25_8 (cG Try.results25 rfl ⟨h1,rfl,st1⟩)
 refine aZ (wt2 (dF hc1) rfl) rfl (aF (b := b1) (o := 0) fl31_4 rfl)<|aZ (wt2 (dF hc1) rfl) rfl (aL (.slice bD p0.L.length bE) sc29 rfl ((aQ (st1.has _ _ g1)).trans rfl))<|aZ (wt2 (dF hc1) rfl) rfl (bN u29 rfl)<|aZ (wt2 (dF hc1) rfl) rfl (aP .gtr .i64 (p0.L.length : Int) 5 (.bool (decide (5 < (p0.L.length : Int)))) 3 3 rfl rfl rfl)<|vv rfl (dI (.bool (decide (5 < (p0.L.length : Int)))) (dF hc1) rfl rfl)<|vv rfl (aE (.bool (decide (5 < (p0.L.length : Int)))) rfl) ?_
 rcases aN H with ⟨hc2,H⟩ | ⟨hc2,H⟩
 · refine aR (wf2 (dT hc2) rfl) rfl<|aR (wf2 (dT hc2) rfl) rfl<|aR (wf2 (dT hc2) rfl) rfl<|aR (wf2 (dT hc2) rfl) rfl<|vv rfl (dH (.bool true) (dT hc2) rfl rfl)<|vv rfl (aE (.bool true) rfl)<|aR (wf (p := true) rfl rfl) rfl<|aR (wf (p := true) rfl rfl) rfl<|aR (wf (p := true) rfl rfl) rfl<|aR (wf (p := true) rfl rfl) rfl ?_
   refine vv rfl (x_pickT (.bool true) (p := true) rfl rfl rfl)<|aD<|cQ e25_5 (p := true) rfl rfl<|aB e25_6<|aA e25_7<|vv rfl (aC (.bool false) rfl)<|aD ?_
   cases H
   exact aJ e25_8 (cG Try.results25 rfl ⟨h1,rfl,st1⟩)
 refine aZ (wt2 (dF hc2) rfl) rfl (aF (b := b1) (o := 0) fl31_3 rfl)<|aZ (wt2 (dF hc2) rfl) rfl (aL (.slice aG p0.Index.length aH) sc28 rfl ((aQ (st1.has _ _ g1)).trans rfl))<|aZ (wt2 (dF hc2) rfl) rfl (bN u28 rfl)<|aZ (wt2 (dF hc2) rfl) rfl (aP .gtr .i64 (p0.Index.length : Int) 10 (.bool (decide (10 < (p0.Index.length : Int)))) 3 3 rfl rfl rfl)<|vv rfl (dI (.bool (decide (10 < (p0.Index.length : Int)))) (dF hc2) rfl rfl)<|vv rfl (aE (.bool (decide (10 < (p0.Index.length : Int)))) rfl) ?_
 rcases aN H with ⟨hc3,H⟩ | ⟨hc3,H⟩
 · refine aR (wf2 (dT hc3) rfl) rfl<|aR (wf2 (dT hc3) rfl) rfl<|aR (wf2 (dT hc3) rfl) rfl<|aR (wf2 (dT hc3) rfl) rfl<|vv rfl (dH (.bool true) (dT hc3) rfl rfl)<|aD<|cQ e25_5 (p := true) rfl rfl<|aB e25_6<|aA e25_7<|vv rfl (aC (.bool false) rfl) ?_
   refine aD ?_
   cases H
   exact aJ e25_8 (cG Try.results25 rfl ⟨h1,rfl,st1⟩)
 refine aZ (wt2 (dF hc3) rfl) rfl (aF (b := b1) (o := 0) fl31_2 rfl)<|aZ (wt2 (dF hc3) rfl) rfl (aL (.string p0.Name) sc9 rfl ((aQ (st1.has _ _ g1)).trans rfl))<|aZ (wt2 (dF hc3) rfl) rfl (eB u9 rfl)<|aZ (wt2 (dF hc3) rfl) rfl (aP .gtr .i64 (p0.Name.size : Int) 100 (.bool (decide (100 < (p0.Name.size : Int)))) 3 3 rfl rfl rfl)<|vv rfl (dI (.bool (decide (100 < (p0.Name.size : Int)))) (dF hc3) rfl rfl)<|aD ?_
 rcases aN H with ⟨hc4,H⟩ | ⟨hc4,H⟩
 · refine tr e25_5 (dT hc4) rfl<|aB e25_6<|aA e25_7<|vv rfl (aC (.bool false) rfl)<|aD ?_
   cases H
   exact aJ e25_8 (cG Try.results25 rfl ⟨h1,rfl,st1⟩)
 refine fa e25_5 (dF hc4) rfl<|aM e25_9<|aB e25_10<|aB e25_11<|aA e25_12<|vv rfl (aF (b := b1) (o := 0) fl31_3 rfl)<|vv rfl (aL (.slice aG p0.Index.length aH) sc28 rfl ((aQ (st1.has _ _ g1)).trans rfl))<|vv rfl (bN u28 rfl)<|vv rfl (aE (I 0) rfl)<|aD ?_
 refine aT e25_13<|cB e25_14 ?_
 exact ih.2.1 (j2 := 0) st1 rfl rfl rfl rfl rfl (SlR.mono le1 cN) (SlR.mono le1 Rp0_L) g1 rfl H
theorem SLl25_0_z : SLl25_0 0 := by
  unfold SLl25_0; intros; rename_i H; exact absurd H (by simp [l25_0])
theorem SLl25_0_s (k : Nat) (ih : ZS25 k) : SLl25_0 (k + 1) := by
 intro p0 aG bD aH bE b1 j2 p1 w0 w h0 h σ xs1 r st s1 s2 s30 s31 s32 R1 R2 g2 hd1 H
 cases xs1 with
 | nil =>
  rw [l25_0] at H
  have hk1 := cV hd1
  refine aB e25_15<|aA e25_16<|vv rfl (aP .lss .i64 (j2 : Int) (p0.Index.length : Int) (.bool (decide ((j2 : Int) < (p0.Index.length : Int)))) 3 3 s32 s31 rfl)<|aD<|aB e25_17<|fa e25_18 hk1 rfl<|bM e25_20 rfl<|aB e25_33<|aB e25_34<|aA e25_35 ?_
  refine vv rfl (aF (b := b1) (o := 0) fl31_4 s2)<|vv rfl (aL (.slice bD p0.L.length bE) sc29 rfl ((aQ (st.has _ _ g2)).trans rfl))<|vv rfl (bN u29 rfl)<|vv rfl (aE (I 0) rfl)<|aD<|aT e25_36<|cB e25_37 ?_
  exact ih.2.2 (j3 := 0) st s1 rfl rfl rfl R2 rfl H
 | cons x1 xs2 =>
  rw [l25_0] at H
  obtain ⟨hk2,hj1,hx1,hd2⟩ := cL hd1
  refine aB e25_15<|aA e25_16<|vv rfl (aP .lss .i64 (j2 : Int) (p0.Index.length : Int) (.bool (decide ((j2 : Int) < (p0.Index.length : Int)))) 3 3 s32 s31 rfl)<|aD<|aB e25_17<|tr e25_18 hk2 rfl<|aM e25_19<|aB e25_21<|aT e25_22<|aB e25_23 ?_
  refine aA e25_24 ?_
  obtain ⟨b4,o2,vs2,ea2,rp2,cl2⟩ := SlR.at R1 hx1
  obtain rfl := rp2
  refine vv rfl (aX u28 sz9 s30 s32 ea2 (Int.natCast_nonneg _) (Int.ofNat_lt.2 hj1))<|vv rfl (aL (.string x1) sc9 rfl (((cl2 _ (Has.le (Le.refl _) st.has)) 0 (by decide)).trans rfl))<|vv rfl (aC (.string x1) rfl)<|aD<|aB e25_25<|aA e25_26<|vv rfl (aE (.string x1) rfl)<|vv rfl (eB u9 rfl)<|vv rfl (aP .gtr .i64 (x1.size : Int) 100 (.bool (decide (100 < (x1.size : Int)))) 3 3 rfl rfl rfl)<|aD ?_
  rcases aN H with ⟨hc6,H⟩ | ⟨hc6,H⟩
  · refine tr e25_27 (dT hc6) rfl<|aB e25_28<|aA e25_29<|vv rfl (aC (.bool false) rfl)<|aD ?_
    cases H
    exact aJ e25_30 (cG Try.results25 rfl ⟨h,rfl,st⟩)
  refine fa e25_27 (dF hc6) rfl<|aM e25_31<|aW<|aA e25_32<|vv rfl (aP .add .i64 (j2 : Int) 1 (I ((j2 + 1 : Nat) : Int)) 3 3 s32 rfl (dL hj1 R1.mx))<|vv rfl (aE (I ((j2 + 1 : Nat) : Int)) rfl)<|aD<|bF ?_
  exact ih.2.1 (j2 := (j2 + 1)) st s1 s2 s30 s31 rfl R1 R2 g2 hd2 H
theorem SLl25_1_z : SLl25_1 0 := by
  unfold SLl25_1; intros; rename_i H; exact absurd H (by simp [l25_1])
theorem SLl25_1_s (k : Nat) (ih : ZS25 k) : SLl25_1 (k + 1) := by
 intro p0 bD bE j3 p1 w0 w h0 h σ xs3 r st s1 s41 s42 s43 R3 hd3 H
 cases xs3 with
 | nil =>
  rw [l25_1] at H
  have hk3 := cV hd3
  refine aB e25_38<|aA e25_39<|vv rfl (aP .lss .i64 (j3 : Int) (p0.L.length : Int) (.bool (decide ((j3 : Int) < (p0.L.length : Int)))) 3 3 s43 s42 rfl)<|aD<|aB e25_40<|fa e25_41 hk3 rfl<|bM e25_43 rfl<|aB e25_56<|aA e25_57<|vv rfl (aC (.bool true) rfl) ?_
  refine aD ?_
  cases H
  exact aJ e25_58 (cG Try.results25 rfl ⟨h,rfl,st⟩)
 | cons x2 xs4 =>
  rw [l25_1] at H
  obtain ⟨hk4,hj2,hx2,hd4⟩ := cL hd3
  refine aB e25_38<|aA e25_39<|vv rfl (aP .lss .i64 (j3 : Int) (p0.L.length : Int) (.bool (decide ((j3 : Int) < (p0.L.length : Int)))) 3 3 s43 s42 rfl)<|aD<|aB e25_40<|tr e25_41 hk4 rfl<|aM e25_42<|aB e25_44<|aT e25_45<|aB e25_46 ?_
  refine aA e25_47 ?_
  obtain ⟨b2,o1,vs1,ea1,rp1,cl1⟩ := SlR.at R3 hx2
  obtain ⟨a1,c1,a2,c2,rfl,R4,R5⟩ := GNode.out rp1
  refine vv rfl (aX u29 cX s41 s43 ea1 (Int.natCast_nonneg _) (Int.ofNat_lt.2 hj2))<|vv rfl (bH [I x2.Op,I x2.N,.string x2.Name,.slice a1 x2.Index.length c1,.slice a2 x2.L.length c2] ag31 cX rfl rfl (cl1 _ (Has.le (Le.refl _) st.has)))<|cF (.agg #[I 0,I 0,.string ByteArray.empty,.slice none 0 0,.slice none 0 0]) zr31 rfl rfl (fun b3 w2 al2 => ?_)
  replace al2 : Al _ (.cells (List.toArray [I 0,I 0,.string ByteArray.empty,.slice none 0 0,.slice none 0 0]) 31 (0,0)) b3 w2 := al2
  have M1 := Mut.new st al2
  have lb1 := st.alB al2
  have sp2 := al2.st st.has
  have st2 := st.call0 sp2
  refine aV (o := 0) (n := 5) [I x2.Op,I x2.N,.string x2.Name,.slice a1 x2.Index.length c1,.slice a2 x2.L.length c2] [I x2.Op,I x2.N,.string x2.Name,.slice a1 x2.Index.length c1,.slice a2 x2.L.length c2] (.agg #[I x2.Op,I x2.N,.string x2.Name,.slice a1 x2.Index.length c1,.slice a2 x2.L.length c2]) cX rfl rfl rfl rfl M1 rfl rfl rfl rfl rfl (fun w3 wr1 M2 => ?_)
  have sp3 := wr1.st st2.has M1.none
  have st3 := st2.call sp3 (fun x e => (.inl (e ▸ lb1)))
  obtain ⟨h2,le2,g3,st4,kp1⟩ := M2.fz st3 lb1
  refine aD<|aB e25_48<|aA e25_49<|vv rfl (bH [I x2.Op,I x2.N,.string x2.Name,.slice a1 x2.Index.length c1,.slice a2 x2.L.length c2] ag31 cX rfl rfl (aY (st4.has _ _ g3) rfl))<|vv rfl (aE (I p1) s1)<|vv rfl (aP .sub .i64 p1 1 (I (wr (p1 - 1))) 3 3 rfl rfl rfl) ?_
  obtain ⟨r1,hr1,H⟩ := aK H
  refine aU [.agg #[I x2.Op,I x2.N,.string x2.Name,.slice a1 x2.Index.length c1,.slice a2 x2.L.length c2],I (wr (p1 - 1))] en25 rfl rfl rfl (ih.1 (p0 := x2) st4.has (SlR.mono le2 R4) (SlR.mono le2 R5) hr1) ?_
  rintro _ w4 ⟨h3,rfl,sp4⟩
  have st5 := st4.call0 sp4
  refine vv rfl (eA r1 4 rfl)<|aD ?_
  rcases aN H with ⟨hc5,H⟩ | ⟨hc5,H⟩
  · refine fa e25_50 (bL hc5) rfl<|aM e25_54<|aW<|aA e25_55<|vv rfl (aP .add .i64 (j3 : Int) 1 (I ((j3 + 1 : Nat) : Int)) 3 3 s43 rfl (dL hj2 (SlR.mono (le2.trans sp4.le) R3).mx))<|vv rfl (aE (I ((j3 + 1 : Nat) : Int)) rfl)<|aD<|bF ?_
    exact ih.2.2 (j3 := (j3 + 1)) st5 s1 s41 s42 rfl (SlR.mono (le2.trans sp4.le) R3) hd4 H
  refine tr e25_50 (bK (cA hc5)) rfl<|aB e25_51<|aA e25_52<|vv rfl (aC (.bool false) rfl)<|aD ?_
  cases H
  exact aJ e25_53 (cG Try.results25 rfl ⟨h3,rfl,st5⟩)
theorem ZS25_all : ∀ k,ZS25 k
  | 0 => ⟨S25_z,SLl25_0_z,SLl25_1_z⟩
  | k + 1 => ⟨S25_s k (ZS25_all k),SLl25_0_s k (ZS25_all k),SLl25_1_s k (ZS25_all k)⟩
theorem F25 (k : Nat) : S25 k := (ZS25_all k).1
end Go.Proofs.Ytjdfoipnmbnkeaa
