/- ShapeNormal holds: for every input the law returns true, and the input reads as it did. Part 5 of 6. No conditions. -/
import Derived.Test.YtjdfoipnmbnkeaaNo3
set_option maxRecDepth 100000
set_option maxHeartbeats 8000000
namespace Go.Proofs.Ytjdfoipnmbnkeaa
open Go
theorem F57 (k : Nat) : S57 k := by
 intro p0 bD cM bE cN p1 w0 h0 hh Rp0 Rp1 r H
 unfold m57 at H
 refine aP (fn := Try.f57) Try.func57 rfl (Nat.le_of_ble_eq_true rfl) ?_
 show Run X57 [.code c57_0] (fun t => List.getD [.slice bD p0.length bE,.slice cM p1.length cN] t undef) w0 (.fn (Q57 w0 h0 r))
 have st0 := St.init hh noM
 refine aB e57_0<|aA e57_1<|vv rfl (aC (I 0) rfl)<|aD<|aB e57_2<|aA e57_3<|vv rfl (aE (.slice bD p0.length bE) rfl)<|vv rfl (aE (.slice cM p1.length cN) rfl) ?_
 obtain ⟨r1,hr1,H⟩ := aK H
 refine aU [.slice bD p0.length bE,.slice cM p1.length cN] en84 rfl rfl rfl (F84 k st0.has Rp0 Rp1 hr1) ?_
 rintro _ w1 ⟨a1,c1,h1,rfl,sp1,R1⟩
 have st1 := st0.call0 sp1
 refine vv rfl (aE (.tuple #[.slice a1 r1.1.length c1,I r1.2]) rfl)<|vv rfl (bS (.slice a1 r1.1.length c1) rfl rfl)<|vv rfl (bS (I r1.2) rfl rfl)<|vv rfl (aC (.slice a1 r1.1.length c1) rfl)<|vv rfl (aC (I r1.2) rfl)<|aD<|aB e57_4<|aA e57_5<|vv rfl (aE (I r1.2) rfl)<|vv rfl (aC (I r1.2) rfl) ?_
 refine aD ?_
 cases H
 exact aJ e57_6 (cD Try.results57 rfl ⟨h1,rfl,st1⟩)
theorem F33 (k : Nat) : S33 k := by
 intro p0 dM dN w0 h0 hh Rp0_Shape r H
 unfold m33 at H
 refine aP (fn := Try.f33) Try.func33 rfl (Nat.le_of_ble_eq_true rfl) ?_
 show Run X33 [.code c33_0] (fun t => List.getD [.agg #[.string p0.Name,.slice dM p0.Shape.length dN,.string p0.Form,I p0.Block]] t undef) w0 (.fn (Q33 w0 h0 r))
 have st0 := St.init hh noM
 refine aB e33_0<|aA e33_1<|dW (.agg #[.string p0.Name,.slice dM p0.Shape.length dN,.string p0.Form,I p0.Block]) rfl rfl rfl (fun b1 w1 al1 => ?_)
 replace al1 : Al _ (.cells (List.toArray [.string p0.Name,.slice dM p0.Shape.length dN,.string p0.Form,I p0.Block]) 45 (0,0)) b1 w1 := al1
 obtain ⟨h1,le1,g1,sp1⟩ := al1.fz st0.has
 have st1 := st0.call0 sp1
 refine vv rfl (aC (.slice none 0 0) rfl)<|vv rfl (aC (I 0) rfl)<|aD<|aB e33_2<|aA e33_3<|vv rfl (aF (b := b1) (o := 0) fl45_2 rfl)<|vv rfl (aN (.string p0.Form) sc9 rfl ((aR (st1.has _ _ g1)).trans rfl))<|vv rfl (aF (b := b1) (o := 0) fl45_1 rfl)<|vv rfl (aN (.slice dM p0.Shape.length dN) sc43 rfl ((aR (st1.has _ _ g1)).trans rfl))<|vv rfl (bK u43 rfl) ?_
 refine vv rfl (aF (b := b1) (o := 0) fl45_3 rfl)<|vv rfl (aN (I p0.Block) sc3 rfl ((aR (st1.has _ _ g1)).trans rfl)) ?_
 obtain ⟨r1,hr1,H⟩ := aK H
 refine aU [.string p0.Form,I (p0.Shape.length : Int),I p0.Block] en56 rfl rfl rfl (F56 k st1.has hr1) ?_
 rintro _ w2 ⟨a1,c1,h2,rfl,sp2,R1⟩
 have st2 := st1.call0 sp2
 refine vv rfl (aE (.tuple #[.slice a1 r1.1.length c1,I r1.2]) rfl)<|vv rfl (bS (.slice a1 r1.1.length c1) rfl rfl)<|vv rfl (bS (I r1.2) rfl rfl)<|vv rfl (aC (.slice a1 r1.1.length c1) rfl)<|vv rfl (aC (I r1.2) rfl)<|aD<|aB e33_4<|aB e33_5<|aA e33_6<|vv rfl (aE (I r1.2) rfl) ?_
 refine vv rfl (aQ .eql .i64 r1.2 0 (.bool (decide (r1.2 = 0))) 35 35 rfl rfl rfl)<|aD ?_
 obtain ⟨j1,hj1,H⟩ := dH H
 have Jj1 : ∀ {y1 : Int} {σ1 : Env} {w4 : World} {h4 : Sto},Le h2 h4 → St w0 noM h0 h4 w4 → σ1 4 = .slice a1 r1.1.length c1 → σ1 5 = I y1 → SlR h4 a1 c1 r1.1 → j1 y1 = some r → Run X33 [.code c33_10] σ1 w4 (.fn (Q33 w0 h0 r)) := by
  intro y1 σ1 w4 h4 le2 st4 s4_j1 s5_j1 R2 H
  rw [hj1] at H
  refine aB e33_10<|aB e33_11<|aA e33_12<|vv rfl (aE (I y1) s5_j1)<|vv rfl (aQ .neq .i64 y1 0 (.bool (!decide (y1 = 0))) 35 35 rfl rfl rfl)<|aD ?_
  rcases aM H with ⟨hc2,H⟩ | ⟨hc2,H⟩
  · refine fa e33_13 (bN (dT hc2)) rfl<|aL e33_17<|aB e33_18<|aA e33_19<|vv rfl (aE (.slice a1 r1.1.length c1) s4_j1)<|vv rfl (aC (.slice a1 r1.1.length c1) rfl)<|vv rfl (aC (I 0) rfl)<|aD ?_
    cases H
    exact aJ e33_20 (res2 Try.results33 rfl rfl ⟨a1,c1,h4,rfl,st4,R2⟩)
  refine tr e33_13 (bQ (dF hc2)) rfl<|aB e33_14<|aA e33_15<|vv rfl (aE (I y1) s5_j1)<|vv rfl (aC (.slice none 0 0) rfl)<|vv rfl (aC (I y1) rfl)<|aD ?_
  cases H
  exact aJ e33_16 (res2 Try.results33 rfl rfl ⟨none,0,h4,rfl,st4,(SlR.none _)⟩)
 rcases aM H with ⟨hc1,H⟩ | ⟨hc1,H⟩
 · refine tr e33_7 (dT hc1) rfl<|aA e33_8<|vv rfl (aF (b := b1) (o := 0) fl45_1 rfl)<|vv rfl (aN (.slice dM p0.Shape.length dN) sc43 rfl ((aR (st2.has _ _ (sp2.le _ _ g1))).trans rfl))<|vv rfl (aE (.slice a1 r1.1.length c1) rfl) ?_
   obtain ⟨r2,hr2,H⟩ := aK H
   refine aU [.slice dM p0.Shape.length dN,.slice a1 r1.1.length c1] en57 rfl rfl rfl (F57 k st2.has (SlR.mono (le1.trans sp2.le) Rp0_Shape) R1 hr2) ?_
   rintro _ w3 ⟨h3,rfl,sp3⟩
   have st3 := st2.call0 sp3
   refine vv rfl (aC (I r2) rfl)<|aD ?_
   exact Jj1 sp3.le st3 rfl rfl (SlR.mono sp3.le R1) H
 refine fa e33_7 (dF hc1) rfl<|aL e33_9 ?_
 exact Jj1 (Le.refl _) st2 rfl rfl R1 H
abbrev ZSLl15_0 (k : Nat) : Prop := SLl15_0 k
theorem SLl15_0_z : SLl15_0 0 := by
  unfold SLl15_0; intros; rename_i H; exact absurd H (by simp [l15_0])
theorem SLl15_0_s (k : Nat) (ih : ZSLl15_0 k) : SLl15_0 (k + 1) := by
 intro p0 bD bE j1 w0 w h0 h σ xs1 r st s0 s9 s10 R1 hd1 H
 cases xs1 with
 | nil =>
  rw [l15_0] at H
  have hk1 := cU hd1
  refine aB e15_7<|aA e15_8<|vv rfl (aQ .lss .i64 (j1 : Int) (p0.length : Int) (.bool (decide ((j1 : Int) < (p0.length : Int)))) 3 3 s10 s9 rfl)<|aD<|aB e15_9<|fa e15_10 hk1 rfl<|bO e15_12 rfl<|aB e15_45<|aA e15_46<|vv rfl (aE (.slice bD p0.length bE) s0) ?_
  refine vv rfl (bK u22 rfl)<|vv rfl (aC (I (p0.length : Int)) rfl)<|vv rfl (aC (I 0) rfl)<|aD ?_
  cases H
  exact aJ e15_47 (res2 Try.results15 rfl rfl ⟨h,rfl,st⟩)
 | cons x1 xs2 =>
  rw [l15_0] at H
  obtain ⟨hk2,hj1,hx1,hd2⟩ := cJ hd1
  refine aB e15_7<|aA e15_8<|vv rfl (aQ .lss .i64 (j1 : Int) (p0.length : Int) (.bool (decide ((j1 : Int) < (p0.length : Int)))) 3 3 s10 s9 rfl)<|aD<|aB e15_9<|tr e15_10 hk2 rfl<|aL e15_11<|aB e15_13<|aT e15_14<|aB e15_15 ?_
  refine aA e15_16<|vv rfl (aE (I (j1 : Int)) s10)<|vv rfl (aC (I (j1 : Int)) rfl)<|aD<|aB e15_17<|aA e15_18<|vv rfl (aE (.slice bD p0.length bE) s0)<|vv rfl (aE (I (j1 : Int)) rfl)<|vv rfl (aE (I (j1 : Int)) rfl)<|vv rfl (aQ .add .i64 (j1 : Int) 1 (I ((j1 + 1 : Nat) : Int)) 3 3 rfl rfl (dL hj1 R1.mx)) ?_
  obtain ⟨hs1,H⟩ := cC H
  obtain ⟨a1,c1,ha1,hc1,R2⟩ := SlR.slice2 (lo := (j1 : Int)) (hi := ((j1 + 1 : Nat) : Int)) R1 hs1.1 hs1.2.1 hs1.2.2
  refine vv rfl (fM (l := (j1 : Int)) (h := ((j1 + 1 : Nat) : Int)) (kl := .i64) (kh := .i64) p0 rfl u22 sz45 rfl rfl rfl hs1.1 hs1.2.1 hs1.2.2 R1.lc ha1 hc1)<|vv rfl (dJ (vs := [.slice a1 (((p0.take (((j1 + 1 : Nat) : Int) : Int).toNat).drop ((j1 : Int) : Int).toNat).length) c1,.slice none 0 0]) [(0,.slice a1 (((p0.take (((j1 + 1 : Nat) : Int) : Int).toNat).drop ((j1 : Int) : Int).toNat).length) c1)] bd25 rfl rfl) ?_
  obtain ⟨r1,hr1,H⟩ := aK H
  refine aU [.agg #[.slice a1 (((p0.take (((j1 + 1 : Nat) : Int) : Int).toNat).drop ((j1 : Int) : Int).toNat).length) c1,.slice none 0 0]] en26 rfl rfl rfl (F26 k (p0 := (⟨(p0.take (((j1 + 1 : Nat) : Int) : Int).toNat).drop ((j1 : Int) : Int).toNat,[]⟩ : GProg)) st.has R2 (SlR.none _) hr1) ?_
  rintro _ w1 ⟨h1,rfl,sp1⟩
  have st1 := st.call0 sp1
  refine vv rfl (aC (I r1) rfl)<|aD<|aB e15_19<|aB e15_20<|aA e15_21<|vv rfl (aE (I r1) rfl)<|vv rfl (aQ .eql .i64 r1 0 (.bool (decide (r1 = 0))) 35 35 rfl rfl rfl)<|aD ?_
  obtain ⟨j2,hj2,H⟩ := dH H
  have Jj2 : ∀ {y2 : Int} {σ2 : Env} {w4 : World} {h3 : Sto},Le h1 h3 → St w0 noM h0 h3 w4 → σ2 0 = .slice bD p0.length bE → σ2 4 = I (j1 : Int) → σ2 5 = I y2 → σ2 9 = I (p0.length : Int) → σ2 10 = I (j1 : Int) → SlR h3 bD bE p0 → j2 y2 = some r → Run X15 [.code c15_31,.inBlock 1,.code c15_44,.inLoop c15_7,.inBlock 0,.code c15_45] σ2 w4 (.fn (Q15 w0 h0 r)) := by
   intro y2 σ2 w4 h3 le2 st4 s0_j2 s4_j2 s5_j2 s9_j2 s10_j2 R4 H
   rw [hj2] at H
   refine aB e15_31<|aB e15_32<|aA e15_33<|vv rfl (aE (I y2) s5_j2)<|vv rfl (aQ .eql .i64 y2 0 (.bool (decide (y2 = 0))) 35 35 rfl rfl rfl)<|aD ?_
   obtain ⟨j4,hj4,H⟩ := dH H
   have Jj4 : ∀ {y3 : Int} {σ3 : Env} {w6 : World} {h5 : Sto},Le h3 h5 → St w0 noM h0 h5 w6 → σ3 0 = .slice bD p0.length bE → σ3 4 = I (j1 : Int) → σ3 5 = I y3 → σ3 9 = I (p0.length : Int) → σ3 10 = I (j1 : Int) → SlR h5 bD bE p0 → j4 y3 = some r → Run X15 [.code c15_37,.inBlock 1,.code c15_44,.inLoop c15_7,.inBlock 0,.code c15_45] σ3 w6 (.fn (Q15 w0 h0 r)) := by
    intro y3 σ3 w6 h5 le3 st6 s0_j4 s4_j4 s5_j4 s9_j4 s10_j4 R7 H
    rw [hj4] at H
    refine aB e15_37<|aA e15_38<|vv rfl (aE (I y3) s5_j4)<|vv rfl (aQ .neq .i64 y3 0 (.bool (!decide (y3 = 0))) 35 35 rfl rfl rfl)<|aD ?_
    rcases aM H with ⟨hc5,H⟩ | ⟨hc5,H⟩
    · refine fa e15_39 (bN (dT hc5)) rfl<|aL e15_43<|aZ<|aA e15_44<|vv rfl (aQ .add .i64 (j1 : Int) 1 (I ((j1 + 1 : Nat) : Int)) 3 3 s10_j4 rfl (dL hj1 R7.mx))<|vv rfl (aE (I ((j1 + 1 : Nat) : Int)) rfl)<|aD<|bI ?_
      exact ih (j1 := (j1 + 1)) st6 s0_j4 s9_j4 rfl R7 hd2 H
    refine tr e15_39 (bQ (dF hc5)) rfl<|aB e15_40<|aA e15_41<|vv rfl (aE (I (j1 : Int)) s4_j4)<|vv rfl (aE (I y3) s5_j4)<|vv rfl (aC (I (j1 : Int)) rfl)<|vv rfl (aC (I y3) rfl)<|aD ?_
    cases H
    exact aJ e15_42 (res2 Try.results15 rfl rfl ⟨h5,rfl,st6⟩)
   rcases aM H with ⟨hc4,H⟩ | ⟨hc4,H⟩
   · refine tr e15_34 (dT hc4) rfl<|aA e15_35<|vv rfl (aE (.slice bD p0.length bE) s0_j2)<|vv rfl (aE (I (j1 : Int)) s4_j2) ?_
     obtain ⟨b1,o1,vs1,ea1,rp1,cl1⟩ := SlR.at R4 hx1
     obtain ⟨a2,c2,rfl,R5⟩ := GDecl.out rp1
     refine vv rfl (aY u22 sz45 rfl rfl ea1 (Int.natCast_nonneg _) (Int.ofNat_lt.2 hj1))<|vv rfl (bH [.string x1.Name,.slice a2 x1.Shape.length c2,.string x1.Form,I x1.Block] ag45 sz45 rfl rfl (cl1 _ (Has.le (Le.refl _) st4.has))) ?_
     obtain ⟨r2,hr2,H⟩ := aK H
     refine aU [.agg #[.string x1.Name,.slice a2 x1.Shape.length c2,.string x1.Form,I x1.Block]] en33 rfl rfl rfl (F33 k (p0 := x1) st4.has R5 hr2) ?_
     rintro _ w5 ⟨a3,c3,h4,rfl,sp3,R6⟩
     have st5 := st4.call0 sp3
     refine vv rfl (aE (.tuple #[.slice a3 r2.1.length c3,I r2.2]) rfl)<|vv rfl (bS (.slice a3 r2.1.length c3) rfl rfl)<|vv rfl (bS (I r2.2) rfl rfl)<|vv rfl (aC (I r2.2) rfl)<|aD ?_
     exact Jj4 sp3.le st5 s0_j2 s4_j2 rfl s9_j2 s10_j2 (SlR.mono sp3.le R4) H
   refine fa e15_34 (dF hc4) rfl<|aL e15_36 ?_
   exact Jj4 (Le.refl _) st4 s0_j2 s4_j2 s5_j2 s9_j2 s10_j2 R4 H
  rcases aM H with ⟨hc2,H⟩ | ⟨hc2,H⟩
  · refine tr e15_22 (dT hc2) rfl<|aB e15_23 ?_
    obtain ⟨j3,hj3,H⟩ := dH H
    have Jj3 : ∀ {y1 : Bool} {σ1 : Env} {w3 : World} {h2 : Sto},Le h1 h2 → St w0 noM h0 h2 w3 → σ1 0 = .slice bD p0.length bE → σ1 4 = I (j1 : Int) → σ1 5 = I r1 → σ1 7 = .bool y1 → σ1 9 = I (p0.length : Int) → σ1 10 = I (j1 : Int) → SlR h2 bD bE p0 → j3 y1 = some r → Run X15 [.code c15_25,.code c15_31,.inBlock 1,.code c15_44,.inLoop c15_7,.inBlock 0,.code c15_45] σ1 w3 (.fn (Q15 w0 h0 r)) := by
     intro y1 σ1 w3 h2 le1 st3 s0_j3 s4_j3 s5_j3 s7_j3 s9_j3 s10_j3 R3 H
     rw [hj3] at H
     refine aB e15_25<|aA e15_26<|vv rfl (aE (.bool y1) s7_j3)<|aD ?_
     rcases aM H with ⟨hc3,H⟩ | ⟨hc3,H⟩
     · refine tr e15_27 hc3 rfl<|aA e15_28<|vv rfl (aC (I 7) rfl)<|aD ?_
       exact Jj2 le1 st3 s0_j3 s4_j3 rfl s9_j3 s10_j3 R3 H
     refine fa e15_27 (bY hc3) rfl<|aL e15_29 ?_
     exact Jj2 le1 st3 s0_j3 s4_j3 s5_j3 s9_j3 s10_j3 R3 H
    obtain ⟨fN,H⟩ := cC H
    obtain ⟨bT,hrd1_8_2,H⟩ := aK H
    refine dY [[(0,false),(1,false),(2,false),(3,false),(4,false),(5,false),(6,false),(7,false),(8,true),(9,false),(10,false),(11,false),(12,true),(13,true),(14,false)],[(0,false),(1,false),(2,false),(3,false),(4,false),(5,false),(6,false),(7,false),(12,true),(8,true),(9,false),(10,false),(11,false),(13,true),(14,false)]] [8,12,13] [0,1,2,3,4,5,6,7,8,9,10,11,12,13,14] [0,1,2,3,4,5,6,7,8,9,10,12,13,11,14] (fun w_ => Has h1 w_ ∧ True) e15_24 k15_24 m15_24 (fun w2 al1 => ?_)
    have sp2 := al1.st st1.has
    have st2 := st1.call0 sp2
    refine ⟨⟨Has.le (Le.refl _) st2.has,trivial⟩,?_,?_,trivial⟩
    · refine bV rfl rfl (fun w_ ok_ => aE (.slice bD p0.length bE) s0)<|bV rfl rfl (fun w_ ok_ => aE (I (j1 : Int)) rfl) ?_
      obtain ⟨bd1_2_1,od1_2_2,vsd1_2_3,ead1_2_4,rpd1_2_5,cld1_2_6⟩ := SlR.at (SlR.mono sp1.le R1) hx1
      obtain ⟨ad1_2_7,cd1_2_8,rfl,Rd1_2_9⟩ := GDecl.out rpd1_2_5
      refine bV rfl rfl (fun w_ ok_ => aY u22 sz45 rfl rfl ead1_2_4 (Int.natCast_nonneg _) (Int.ofNat_lt.2 hj1))<|bV rfl rfl (fun w_ ok_ => aF (b := bd1_2_1) (o := od1_2_2 + ((j1 : Int) : Int).toNat * 4) fl45_0 rfl)<|bV rfl rfl (fun w_ ok_ => aN (.string x1.Name) sc9 rfl (el_one (cld1_2_6 _ (Has.le (Le.refl _) ok_.1)) (by decide) rfl))<|bV rfl rfl (fun w_ ok_ => aE (.slice bD p0.length bE) s0)<|bV rfl rfl (fun w_ ok_ => aE (I (j1 : Int)) rfl) ?_
      obtain ⟨ad1_7_3,cd1_7_4,had1_7_5,hcd1_7_6,Rd1_7_2⟩ := SlR.slice2 (lo := 0) (hi := (j1 : Int)) (SlR.mono sp1.le R1) fN.1 fN.2.1 fN.2.2
      refine bV rfl rfl (fun w_ ok_ => fM (l := 0) (h := (j1 : Int)) (kl := .i64) (kh := .i64) p0 rfl u22 sz45 rfl rfl rfl fN.1 fN.2.1 fN.2.2 (SlR.mono sp1.le R1).lc had1_7_5 hcd1_7_6) ?_
      refine dr_c rfl (od_call [.string x1.Name,.slice ad1_7_3 (((p0.take ((j1 : Int) : Int).toNat).drop (0 : Int).toNat).length) cd1_7_4] en13 rfl rfl (F13 k st2.has Rd1_7_2 hrd1_8_2) ?_)
      rintro _ wd1_8_3 ⟨fJ,fK,hd1_8_4,rfl,cQ,Rd1_8_8⟩
      have std1_8_9 := st2.call0 cQ
      refine ⟨.inr ⟨Has.le cQ.le std1_8_9.has,trivial⟩,?_⟩
      refine bV rfl rfl (fun w_ ok_ => aE (.tuple #[.agg #[.string bT.1.Name,.slice fJ bT.1.Shape.length fK,.string bT.1.Form,I bT.1.Block],.bool bT.2]) rfl)<|bV rfl rfl (fun w_ ok_ => bS (.agg #[.string bT.1.Name,.slice fJ bT.1.Shape.length fK,.string bT.1.Form,I bT.1.Block]) rfl rfl)<|bV rfl rfl (fun w_ ok_ => bS (.bool bT.2) rfl rfl)<|dr_c rfl (od_alloc (.agg #[.string ByteArray.empty,.slice none 0 0,.string ByteArray.empty,I 0]) zr45 rfl (fun bd1_12_1 wd1_12_2 fA => ?_))
      replace fA : Al _ (.cells (List.toArray [.string ByteArray.empty,.slice none 0 0,.string ByteArray.empty,I 0]) 45 (0,0)) bd1_12_1 wd1_12_2 := fA
      have Md1_12_4 := Mut.new std1_8_9 fA
      have lbd1_12_5 := std1_8_9.alB fA
      have spd1_12_6 := fA.st std1_8_9.has
      have std1_12_7 := std1_8_9.call0 spd1_12_6
      refine ⟨.inr ⟨Has.le cQ.le std1_12_7.has,trivial⟩,?_⟩
      refine dr_c rfl (od_store (o := 0) (n := 4) [.string bT.1.Name,.slice fJ bT.1.Shape.length fK,.string bT.1.Form,I bT.1.Block] [.string bT.1.Name,.slice fJ bT.1.Shape.length fK,.string bT.1.Form,I bT.1.Block] (.agg #[.string bT.1.Name,.slice fJ bT.1.Shape.length fK,.string bT.1.Form,I bT.1.Block]) sz45 rfl rfl rfl Md1_12_4 rfl rfl rfl rfl rfl (fun wd1_13_1 wrd1_13_2 Md1_13_3 => ?_))
      have spd1_13_4 := wrd1_13_2.st std1_12_7.has Md1_12_4.none
      have std1_13_5 := std1_12_7.call spd1_13_4 (fun x e => (.inl (e ▸ lbd1_12_5)))
      obtain ⟨hd1_13_6,led1_13_7,gd1_13_8,std1_13_9,kpd1_13_10⟩ := Md1_13_3.fz std1_13_5 lbd1_12_5
      refine ⟨.inr ⟨Has.le (cQ.le.trans led1_13_7) std1_13_9.has,trivial⟩,?_⟩
      refine bV rfl rfl (fun w_ ok_ => aC (.bool bT.2) rfl)<|eL ?_
      exact Jj3 (cQ.le.trans led1_13_7) std1_13_9 s0 rfl rfl rfl s9 s10 (SlR.mono (sp1.le.trans (cQ.le.trans led1_13_7)) R1) H
    refine bV rfl rfl (fun w_ ok_ => aE (.slice bD p0.length bE) s0)<|bV rfl rfl (fun w_ ok_ => aE (I (j1 : Int)) rfl) ?_
    obtain ⟨bd1_2_1,od1_2_2,vsd1_2_3,ead1_2_4,rpd1_2_5,cld1_2_6⟩ := SlR.at (SlR.mono sp1.le R1) hx1
    obtain ⟨ad1_2_7,cd1_2_8,rfl,Rd1_2_9⟩ := GDecl.out rpd1_2_5
    refine bV rfl rfl (fun w_ ok_ => aY u22 sz45 rfl rfl ead1_2_4 (Int.natCast_nonneg _) (Int.ofNat_lt.2 hj1))<|bV rfl rfl (fun w_ ok_ => aF (b := bd1_2_1) (o := od1_2_2 + ((j1 : Int) : Int).toNat * 4) fl45_0 rfl)<|bV rfl rfl (fun w_ ok_ => aN (.string x1.Name) sc9 rfl (el_one (cld1_2_6 _ (Has.le (Le.refl _) ok_.1)) (by decide) rfl))<|bV rfl rfl (fun w_ ok_ => aE (.slice bD p0.length bE) s0)<|bV rfl rfl (fun w_ ok_ => aE (I (j1 : Int)) rfl) ?_
    obtain ⟨ad1_7_3,cd1_7_4,had1_7_5,hcd1_7_6,Rd1_7_2⟩ := SlR.slice2 (lo := 0) (hi := (j1 : Int)) (SlR.mono sp1.le R1) fN.1 fN.2.1 fN.2.2
    refine bV rfl rfl (fun w_ ok_ => fM (l := 0) (h := (j1 : Int)) (kl := .i64) (kh := .i64) p0 rfl u22 sz45 rfl rfl rfl fN.1 fN.2.1 fN.2.2 (SlR.mono sp1.le R1).lc had1_7_5 hcd1_7_6)<|dr_c rfl (od_alloc (.agg #[.string ByteArray.empty,.slice none 0 0,.string ByteArray.empty,I 0]) zr45 rfl (fun bd1_12_1 wd1_12_2 fA => ?_))
    replace fA : Al _ (.cells (List.toArray [.string ByteArray.empty,.slice none 0 0,.string ByteArray.empty,I 0]) 45 (0,0)) bd1_12_1 wd1_12_2 := fA
    have Md1_12_4 := Mut.new st2 fA
    have lbd1_12_5 := st2.alB fA
    have spd1_12_6 := fA.st st2.has
    have std1_12_7 := st2.call0 spd1_12_6
    refine ⟨.inr ⟨Has.le (Le.refl _) std1_12_7.has,trivial⟩,?_⟩
    refine dr_c rfl (od_call [.string x1.Name,.slice ad1_7_3 (((p0.take ((j1 : Int) : Int).toNat).drop (0 : Int).toNat).length) cd1_7_4] en13 rfl rfl (F13 k std1_12_7.has Rd1_7_2 hrd1_8_2) ?_)
    rintro _ wd1_8_3 ⟨fJ,fK,hd1_8_4,rfl,cQ,Rd1_8_8⟩
    have Md1_8_9 := Md1_12_4.call0 cQ
    have std1_8_10 := std1_12_7.call0 cQ
    refine ⟨.inr ⟨Has.le cQ.le std1_8_10.has,trivial⟩,?_⟩
    refine bV rfl rfl (fun w_ ok_ => aE (.tuple #[.agg #[.string bT.1.Name,.slice fJ bT.1.Shape.length fK,.string bT.1.Form,I bT.1.Block],.bool bT.2]) rfl)<|bV rfl rfl (fun w_ ok_ => bS (.agg #[.string bT.1.Name,.slice fJ bT.1.Shape.length fK,.string bT.1.Form,I bT.1.Block]) rfl rfl)<|bV rfl rfl (fun w_ ok_ => bS (.bool bT.2) rfl rfl)<|dr_c rfl (od_store (o := 0) (n := 4) [.string bT.1.Name,.slice fJ bT.1.Shape.length fK,.string bT.1.Form,I bT.1.Block] [.string bT.1.Name,.slice fJ bT.1.Shape.length fK,.string bT.1.Form,I bT.1.Block] (.agg #[.string bT.1.Name,.slice fJ bT.1.Shape.length fK,.string bT.1.Form,I bT.1.Block]) sz45 rfl rfl rfl Md1_8_9 rfl rfl rfl rfl rfl (fun wd1_13_1 wrd1_13_2 Md1_13_3 => ?_))
    have spd1_13_4 := wrd1_13_2.st std1_8_10.has Md1_8_9.none
    have std1_13_5 := std1_8_10.call spd1_13_4 (fun x e => (.inl (e ▸ lbd1_12_5)))
    obtain ⟨hd1_13_6,led1_13_7,gd1_13_8,std1_13_9,kpd1_13_10⟩ := Md1_13_3.fz std1_13_5 lbd1_12_5
    refine ⟨.inr ⟨Has.le (cQ.le.trans led1_13_7) std1_13_9.has,trivial⟩,?_⟩
    refine bV rfl rfl (fun w_ ok_ => aC (.bool bT.2) rfl)<|eL ?_
    exact Jj3 (cQ.le.trans led1_13_7) std1_13_9 s0 rfl rfl rfl s9 s10 (SlR.mono (sp1.le.trans (cQ.le.trans led1_13_7)) R1) H
  refine fa e15_22 (dF hc2) rfl<|aL e15_30 ?_
  exact Jj2 (Le.refl _) st1 s0 rfl rfl s9 s10 (SlR.mono sp1.le R1) H
theorem ZSLl15_0_all : ∀ k,ZSLl15_0 k
  | 0 => SLl15_0_z
  | k + 1 => SLl15_0_s k (ZSLl15_0_all k)
theorem Fl15_0 (k : Nat) : SLl15_0 k := (ZSLl15_0_all k)
theorem F15 (k : Nat) : S15 k := by
 intro p0 bD bE w0 h0 hh Rp0 r H
 unfold m15 at H
 refine aP (fn := Try.f15) Try.func15 rfl (Nat.le_of_ble_eq_true rfl) ?_
 show Run X15 [.code c15_0] (fun t => List.getD [.slice bD p0.length bE] t undef) w0 (.fn (Q15 w0 h0 r))
 have st0 := St.init hh noM
 refine aB e15_0<|aA e15_1<|vv rfl (aC (I 0) rfl)<|vv rfl (aC (I 0) rfl)<|aD<|aB e15_2<|aB e15_3<|aA e15_4<|vv rfl (aE (.slice bD p0.length bE) rfl)<|vv rfl (bK u22 rfl) ?_
 refine vv rfl (aE (I 0) rfl)<|aD<|aT e15_5<|bZ e15_6 ?_
 exact Fl15_0 k (j1 := 0) st0 rfl rfl rfl Rp0 rfl H
theorem F27 (k : Nat) : S27 k := by
 intro p0 bD p2_a bE p2_c p1 p2 w0 h0 hh Rp0 Rp2 r H
 unfold m27 at H
 refine aP (fn := Try.f27) Try.func27 rfl (Nat.le_of_ble_eq_true rfl) ?_
 show Run X27 [.code c27_0] (fun t => List.getD [.slice bD p0.length bE,.string p1,.slice p2_a p2.length p2_c] t undef) w0 (.fn (Q27 w0 h0 r))
 have st0 := St.init hh noM
 refine aB e27_0<|aA e27_1<|vv rfl (aC (.slice none 0 0) rfl)<|vv rfl (aC (I 0) rfl)<|aD<|aB e27_2<|aA e27_3<|vv rfl (aE (.string p1) rfl)<|vv rfl (aE (.slice bD p0.length bE) rfl) ?_
 obtain ⟨r1,hr1,H⟩ := aK H
 refine aU [.string p1,.slice bD p0.length bE] en13 rfl rfl rfl (F13 k st0.has Rp0 hr1) ?_
 rintro _ w1 ⟨a1,c1,h1,rfl,sp1,R1⟩
 have st1 := st0.call0 sp1
 refine vv rfl (aE (.tuple #[.agg #[.string r1.1.Name,.slice a1 r1.1.Shape.length c1,.string r1.1.Form,I r1.1.Block],.bool r1.2]) rfl)<|vv rfl (bS (.agg #[.string r1.1.Name,.slice a1 r1.1.Shape.length c1,.string r1.1.Form,I r1.1.Block]) rfl rfl)<|vv rfl (bS (.bool r1.2) rfl rfl)<|cG (.agg #[.string ByteArray.empty,.slice none 0 0,.string ByteArray.empty,I 0]) zr45 rfl rfl (fun b1 w2 al1 => ?_)
 replace al1 : Al _ (.cells (List.toArray [.string ByteArray.empty,.slice none 0 0,.string ByteArray.empty,I 0]) 45 (0,0)) b1 w2 := al1
 have M1 := Mut.new st1 al1
 have lb1 := st1.alB al1
 have sp2 := al1.st st1.has
 have st2 := st1.call0 sp2
 refine aV (o := 0) (n := 4) [.string r1.1.Name,.slice a1 r1.1.Shape.length c1,.string r1.1.Form,I r1.1.Block] [.string r1.1.Name,.slice a1 r1.1.Shape.length c1,.string r1.1.Form,I r1.1.Block] (.agg #[.string r1.1.Name,.slice a1 r1.1.Shape.length c1,.string r1.1.Form,I r1.1.Block]) sz45 rfl rfl rfl rfl M1 rfl rfl rfl rfl rfl (fun w3 wr1 M2 => ?_)
 have sp3 := wr1.st st2.has M1.none
 have st3 := st2.call sp3 (fun x e => (.inl (e ▸ lb1)))
 obtain ⟨h2,le1,g1,st4,kp1⟩ := M2.fz st3 lb1
 refine vv rfl (aC (.bool r1.2) rfl)<|aD<|aB e27_4<|aT e27_5<|aB e27_6<|aA e27_7<|vv rfl (aE (.bool r1.2) rfl)<|vv rfl (dV r1.2 4 rfl)<|vv rfl (aC (.bool (!r1.2)) rfl)<|aD ?_
 rcases aM H with ⟨hc1,H⟩ | ⟨hc1,H⟩
 · refine fa e27_8 (bN hc1) rfl<|aB e27_12<|aA e27_13<|vv rfl (aF (b := b1) (o := 0) fl45_1 rfl)<|vv rfl (aN (.slice a1 r1.1.Shape.length c1) sc43 rfl ((aR (st4.has _ _ g1)).trans rfl))<|vv rfl (bK u43 rfl)<|vv rfl (aE (.slice p2_a p2.length p2_c) rfl)<|vv rfl (bK u28 rfl)<|vv rfl (aQ .neq .i64 (r1.1.Shape.length : Int) (p2.length : Int) (.bool (!decide ((r1.1.Shape.length : Int) = (p2.length : Int)))) 3 3 rfl rfl rfl)<|vv rfl (aC (.bool (!decide ((r1.1.Shape.length : Int) = (p2.length : Int)))) rfl) ?_
   refine aD ?_
   rcases aM H with ⟨hc2,H⟩ | ⟨hc2,H⟩
   · refine fa e27_14 (bN (dT hc2)) rfl<|aL e27_18<|aZ<|aB e27_19<|aA e27_20<|vv rfl (aF (b := b1) (o := 0) fl45_1 rfl)<|vv rfl (aN (.slice a1 r1.1.Shape.length c1) sc43 rfl ((aR (st4.has _ _ g1)).trans rfl))<|vv rfl (aC (.slice a1 r1.1.Shape.length c1) rfl)<|vv rfl (aC (I 0) rfl)<|aD ?_
     cases H
     exact aJ e27_21 (res2 Try.results27 rfl rfl ⟨a1,c1,h2,rfl,st4,(SlR.mono le1 R1)⟩)
   refine tr e27_14 (bQ (dF hc2)) rfl<|aB e27_15<|aA e27_16<|vv rfl (aC (.slice none 0 0) rfl)<|vv rfl (aC (I 8) rfl)<|aD ?_
   cases H
   exact aJ e27_17 (res2 Try.results27 rfl rfl ⟨none,0,h2,rfl,st4,(SlR.none _)⟩)
 refine tr e27_8 (bQ (bY hc1)) rfl<|aB e27_9<|aA e27_10<|vv rfl (aC (.slice none 0 0) rfl)<|vv rfl (aC (I 7) rfl)<|aD ?_
 cases H
 exact aJ e27_11 (res2 Try.results27 rfl rfl ⟨none,0,h2,rfl,st4,(SlR.none _)⟩)
theorem F52 : S52 := by
 intro p0 p1_b p1_0_c p2_b p1_0 p1_0_a p2_0 w0 h0 hh Rp1_0 gp1 gp2 r H
 unfold m52 at H
 refine aP (fn := Try.f52) Try.func52 rfl (Nat.le_of_ble_eq_true rfl) ?_
 show Run X52 [.code c52_0] (fun t => List.getD [.agg #[.string p0.Name,I p0.Size],.pointer (some ⟨p1_b,0,none⟩),.pointer (some ⟨p2_b,0,none⟩)] t undef) w0 (.fn (Q52 w0 h0 r))
 have st0 := St.init hh noM
 refine aB e52_0<|aA e52_1<|dW (.agg #[.string p0.Name,I p0.Size]) rfl rfl rfl (fun b1 w1 al1 => ?_)
 replace al1 : Al _ (.cells (List.toArray [.string p0.Name,I p0.Size]) 39 (0,0)) b1 w1 := al1
 obtain ⟨h1,le1,g1,sp1⟩ := al1.fz st0.has
 have st1 := st0.call0 sp1
 refine vv rfl (aC (.bool false) rfl)<|aD<|aB e52_2 ?_
 refine dY [[(0,false),(1,false),(2,false),(3,false),(4,false),(5,false),(6,false),(7,false)]] [] [0,1,2,3,4,5,6,7] [0,1,2,3,4,5,6,7] (fun w_ => Has h1 w_ ∧ True) e52_3 k52_3 m52_3 (fun w2 al2 => ?_)
 have sp2 := al2.st st1.has
 have st2 := st1.call0 sp2
 refine ⟨⟨Has.le (Le.refl _) st2.has,trivial⟩,?_,trivial⟩
 refine bV rfl rfl (fun w_ ok_ => aF (b := b1) (o := 0) fl39_0 rfl)<|bV rfl rfl (fun w_ ok_ => aN (.string p0.Name) sc9 rfl ((aR (ok_.1 _ _ g1)).trans rfl))<|bV rfl rfl (fun w_ ok_ => aN (.slice p1_0_a p1_0.length p1_0_c) sc28 rfl ((aR (ok_.1 _ _ (le1 _ _ gp1))).trans rfl))<|bV rfl rfl (fun w_ ok_ => aN (I p2_0) sc3 rfl ((aR (ok_.1 _ _ (le1 _ _ gp2))).trans rfl)) ?_
 obtain ⟨eM,hxd1_4_2,H⟩ := aK H
 have hid1_4_3 := dB hxd1_4_2
 obtain ⟨bd1_4_4,od1_4_5,vsd1_4_6,ead1_4_7,rpd1_4_8,cld1_4_9⟩ := SlR.at (SlR.mono le1 Rp1_0) hid1_4_3.2.2
 obtain rfl := rpd1_4_8
 refine bV rfl rfl (fun w_ ok_ => aY u28 sz9 rfl rfl ead1_4_7 hid1_4_3.1 hid1_4_3.2.1)<|bV rfl rfl (fun w_ ok_ => aN (.string eM) sc9 rfl (((cld1_4_9 _ (Has.le (Le.refl _) ok_.1)) 0 (by decide)).trans rfl))<|bV rfl rfl (fun w_ ok_ => x_strEq p0.Name eM 9 9 rfl rfl)<|bV rfl rfl (fun w_ ok_ => aC (.bool (decide (p0.Name = eM))) rfl)<|eL ?_
 cases H
 exact aJ e52_4 (cD Try.results52 rfl ⟨h1,rfl,st2⟩)
abbrev ZSLl51_0 (k : Nat) : Prop := SLl51_0 k
theorem SLl51_0_z : SLl51_0 0 := by
  unfold SLl51_0; intros; rename_i H; exact absurd H (by simp [l51_0])
theorem SLl51_0_s (k : Nat) (ih : ZSLl51_0 k) : SLl51_0 (k + 1) := by
 intro p0 bD p1_v0_0_a bE cV p1_v0_0_c p1_v1_b j1 cO p1_v1_0 w0 w h0 h σ xs1 r st s0 s1 s7 s8 R1 R2 g1 g2 hd1 H
 cases xs1 with
 | nil =>
  rw [l51_0] at H
  have hk1 := cU hd1
  refine aB e51_7<|aA e51_8<|vv rfl (aQ .lss .i64 (j1 : Int) (p0.length : Int) (.bool (decide ((j1 : Int) < (p0.length : Int)))) 3 3 s8 s7 rfl)<|aD<|aB e51_9<|fa e51_10 hk1 rfl<|bO e51_12 rfl<|aB e51_25<|aA e51_26<|vv rfl (aC (I (-1)) rfl) ?_
  refine aD ?_
  cases H
  exact aJ e51_27 (cD Try.results51 rfl ⟨h,rfl,st⟩)
 | cons x1 xs2 =>
  rw [l51_0] at H
  obtain ⟨hk2,hj1,hx1,hd2⟩ := cJ hd1
  refine aB e51_7<|aA e51_8<|vv rfl (aQ .lss .i64 (j1 : Int) (p0.length : Int) (.bool (decide ((j1 : Int) < (p0.length : Int)))) 3 3 s8 s7 rfl)<|aD<|aB e51_9<|tr e51_10 hk2 rfl<|aL e51_11<|aB e51_13<|aT e51_14<|aB e51_15 ?_
  refine aA e51_16<|vv rfl (aE (I (j1 : Int)) s8)<|vv rfl (aC (I (j1 : Int)) rfl)<|aD<|aB e51_17<|aA e51_18<|vv rfl (aE (.func (.func 52) #[] #[.pointer (some ⟨cV,0,none⟩),.pointer (some ⟨p1_v1_b,0,none⟩)]) s1)<|vv rfl (aE (.slice bD p0.length bE) s0)<|vv rfl (aE (I (j1 : Int)) rfl) ?_
  obtain ⟨b1,o1,vs1,ea1,rp1,cl1⟩ := SlR.at R1 hx1
  obtain rfl := GDim.out rp1
  refine vv rfl (aY u34 sz39 rfl rfl ea1 (Int.natCast_nonneg _) (Int.ofNat_lt.2 hj1))<|vv rfl (bH [.string x1.Name,I x1.Size] ag39 sz39 rfl rfl (cl1 _ (Has.le (Le.refl _) st.has))) ?_
  obtain ⟨r1,hr1,H⟩ := aK H
  refine dQ [] [.pointer (some ⟨cV,0,none⟩),.pointer (some ⟨p1_v1_b,0,none⟩)] [.agg #[.string x1.Name,I x1.Size]] [.agg #[.string x1.Name,I x1.Size],.pointer (some ⟨cV,0,none⟩),.pointer (some ⟨p1_v1_b,0,none⟩)] en52 rfl rfl rfl rfl rfl (F52 (p0 := x1) st.has R2 g1 g2 hr1) ?_
  rintro _ w1 ⟨h1,rfl,sp1⟩
  have st1 := st.call0 sp1
  refine aD ?_
  rcases aM H with ⟨hc1,H⟩ | ⟨hc1,H⟩
  · refine tr e51_19 hc1 rfl<|aB e51_20<|aA e51_21<|vv rfl (aE (I (j1 : Int)) rfl)<|vv rfl (aC (I (j1 : Int)) rfl)<|aD ?_
    cases H
    exact aJ e51_22 (cD Try.results51 rfl ⟨h1,rfl,st1⟩)
  refine fa e51_19 (bY hc1) rfl<|aL e51_23<|aZ<|aA e51_24<|vv rfl (aQ .add .i64 (j1 : Int) 1 (I ((j1 + 1 : Nat) : Int)) 3 3 s8 rfl (dL hj1 (SlR.mono sp1.le R1).mx))<|vv rfl (aE (I ((j1 + 1 : Nat) : Int)) rfl)<|aD<|bI ?_
  exact ih (j1 := (j1 + 1)) st1 s0 s1 s7 rfl (SlR.mono sp1.le R1) (SlR.mono sp1.le R2) (sp1.le _ _ g1) (sp1.le _ _ g2) hd2 H
theorem ZSLl51_0_all : ∀ k,ZSLl51_0 k
  | 0 => SLl51_0_z
  | k + 1 => SLl51_0_s k (ZSLl51_0_all k)
theorem Fl51_0 (k : Nat) : SLl51_0 k := (ZSLl51_0_all k)
theorem F51 (k : Nat) : S51 k := by
 intro p0 bD p1_v0_0_a bE cV p1_v0_0_c p1_v1_b cO p1_v1_0 w0 h0 hh Rp0 Rp1_v0_0 gp1_v0 gp1_v1 r H
 unfold m51 at H
 refine aP (fn := Try.f51) Try.func51 rfl (Nat.le_of_ble_eq_true rfl) ?_
 show Run X51 [.code c51_0] (fun t => List.getD [.slice bD p0.length bE,.func (.func 52) #[] #[.pointer (some ⟨cV,0,none⟩),.pointer (some ⟨p1_v1_b,0,none⟩)]] t undef) w0 (.fn (Q51 w0 h0 r))
 have st0 := St.init hh noM
 refine aB e51_0<|aA e51_1<|vv rfl (aC (I 0) rfl)<|aD<|aB e51_2<|aB e51_3<|aA e51_4<|vv rfl (aE (.slice bD p0.length bE) rfl)<|vv rfl (bK u34 rfl)<|vv rfl (aE (I 0) rfl) ?_
 refine aD<|aT e51_5<|bZ e51_6 ?_
 exact Fl51_0 k (j1 := 0) st0 rfl rfl rfl rfl Rp0 Rp1_v0_0 gp1_v0 gp1_v1 rfl H
abbrev ZSLl29_0 (k : Nat) : Prop := SLl29_0 k
theorem SLl29_0_z : SLl29_0 0 := by
  unfold SLl29_0; intros; rename_i H; exact absurd H (by simp [l29_0])
theorem SLl29_0_s (k : Nat) (ih : ZSLl29_0 k) : SLl29_0 (k + 1) := by
 intro aS p0_1_B p2_c b1 cd1_6_7 c1 c2 j1 fC p2_a ad1_6_6 a1 a2 p2 w0 w h0 h dI σ l1 l2 xs1 r st s0 s5 s8 s22 s23 s24 R1 O3 rel2 hBp0_1 M3 R2 g2 R3 hd1 H
 cases xs1 with
 | nil =>
  rw [l29_0] at H
  have hk1 := cU hd1
  refine aB e29_9<|aA e29_10<|vv rfl (aQ .lss .i64 (j1 : Int) (dI.1.length : Int) (.bool (decide ((j1 : Int) < (dI.1.length : Int)))) 3 3 s24 s23 rfl)<|aD<|aB e29_11<|fa e29_12 hk1 rfl<|bO e29_14 rfl<|aB e29_33<|aA e29_34<|vv rfl (aE (I dI.2) s8) ?_
  refine vv rfl (aC (I dI.2) rfl)<|aD ?_
  cases H
  exact aJ e29_35 (cD Try.results29 rfl ⟨a1,c1,a2,c2,h,rfl,st,R1,O3,rel2,M3⟩)
 | cons x1 xs2 =>
  rw [l29_0] at H
  obtain ⟨hk2,hj1,hx1,hd2⟩ := cJ hd1
  refine aB e29_9<|aA e29_10<|vv rfl (aQ .lss .i64 (j1 : Int) (dI.1.length : Int) (.bool (decide ((j1 : Int) < (dI.1.length : Int)))) 3 3 s24 s23 rfl)<|aD<|aB e29_11<|tr e29_12 hk2 rfl<|aL e29_13<|aB e29_15<|aT e29_16<|aB e29_17 ?_
  refine aA e29_18<|vv rfl (aE (I (j1 : Int)) s24) ?_
  obtain ⟨b2,o1,vs1,ea1,rp1,cl1⟩ := SlR.at R3 hx1
  obtain rfl := rp1
  refine vv rfl (aY u43 sz3 s22 s24 ea1 (Int.natCast_nonneg _) (Int.ofNat_lt.2 hj1))<|vv rfl (aN (I x1) sc3 rfl (((cl1 _ (Has.le (Le.refl _) st.has)) 0 (by decide)).trans rfl))<|cG (I 0) zr3 rfl rfl (fun b3 w3 al3 => ?_)
  replace al3 : Al _ (.cells (List.toArray [I 0]) 3 (0,0)) b3 w3 := al3
  have M4 := Mut.new st al3
  have lb1 := st.alB al3
  have sp3 := al3.st st.has
  have M5 := M3.call0 sp3
  have O4 := O3.call0 sp3
  have st3 := st.call0 sp3
  refine aV (o := 0) (n := 1) [I (j1 : Int)] [I (j1 : Int)] (I (j1 : Int)) sz3 rfl rfl rfl rfl M4 rfl rfl rfl rfl rfl (fun w4 wr1 M6 => ?_)
  have sp4 := wr1.st st3.has M4.none
  have M7 := M5.call sp4 (fun e => ((Mut.ne_ty M5 M4 (by decide)) e))
  have O5 := O4.call sp4 (fun x hx e => (absurd (e ▸ hx) (O4.ne_mut M4 (by decide))))
  have st4 := st3.call sp4 (fun x e => (.inl (e ▸ lb1)))
  obtain ⟨h2,le2,g3,st5,kp1⟩ := M6.fz st4 lb1
  have M8 := M7.fr kp1 (Mut.ne_ty M7 M6 (by decide))
  have O6 := O5.fr le2 kp1 (O5.ne_mut M6 (by decide))
  refine vv rfl (aC (I x1) rfl)<|aD<|aB e29_19<|aA e29_20<|vv rfl (aE (.pointer (some ⟨aS,0,none⟩)) s0)<|vv rfl (bJ ⟨aS,0,none⟩ rfl)<|vv rfl (aF (b := aS) (o := 0) fl72_1 rfl)<|vv rfl (aN (.slice a2 l2.length c2) sc34 rfl ((aR M8.get).trans rfl))<|vv rfl (eU (.func (.func 52) #[] #[.pointer (some ⟨b1,0,none⟩),.pointer (some ⟨b3,0,none⟩)]) (mf rfl (evs_c s5 (evs_c rfl rfl)))) ?_
  obtain ⟨h3,le3,R4,hh1,kp2⟩ := Own.lend O6 st5.has
  obtain ⟨r1,hr1,H⟩ := aK H
  refine aU [.slice a2 l2.length c2,.func (.func 52) #[] #[.pointer (some ⟨b1,0,none⟩),.pointer (some ⟨b3,0,none⟩)]] en51 rfl rfl rfl (F51 k hh1 R4 (SlR.mono (le2.trans le3) R2) ((le2.trans le3) _ _ g2) (le3 _ _ g3) hr1) ?_
  rintro _ w5 ⟨h4,rfl,sp5⟩
  have sp6 := St.lend sp5 le3
  have M9 := M8.call0 sp6
  have O7 := O6.call0 sp6
  have st6 := st5.call0 sp6
  refine vv rfl (aC (I r1) rfl)<|aD<|aB e29_21<|aA e29_22<|vv rfl (aE (I r1) rfl)<|vv rfl (aQ .lss .i64 r1 0 (.bool (decide (r1 < 0))) 3 3 rfl rfl rfl)<|aD ?_
  obtain ⟨j2,hj2,H⟩ := dH H
  have Jj2 : ∀ {y1 : (List GDim)} {a3 : OA} {c3 : Nat} {σ1 : Env} {w7 : World} {h5 : Sto},Le h2 h5 → St w0 (fun x => x = aS ∨ (blk fC x)) h0 h5 w7 → σ1 0 = .pointer (some ⟨aS,0,none⟩) → σ1 5 = .pointer (some ⟨b1,0,none⟩) → σ1 8 = I dI.2 → σ1 22 = .slice ad1_6_6 dI.1.length cd1_6_7 → σ1 23 = I (dI.1.length : Int) → σ1 24 = I (j1 : Int) → SlR h5 ad1_6_6 cd1_6_7 dI.1 → SlR h5 a1 c1 l1 → Own 39 p0_1_B h5 w7 a3 c3 y1 → (∀ x,blk a3 x → blk fC x ∨ w0.heap.size ≤ x) → Mut h5 w7 aS (.cells (List.toArray [.slice a1 l1.length c1,.slice a3 y1.length c3]) 72 (0,0)) → j2 y1 = some r → Run X29 [.inBlock 1,.code c29_32,.inLoop c29_9,.inBlock 0,.code c29_33] σ1 w7 (.fn (Q29 w0 h0 aS fC p0_1_B r)) := by
   intro y1 a3 c3 σ1 w7 h5 le4 st8 s0_j2 s5_j2 s8_j2 s22_j2 s23_j2 s24_j2 R5 R6 O9 rel3 M11 H
   rw [hj2] at H
   refine aZ<|aA e29_32<|vv rfl (aQ .add .i64 (j1 : Int) 1 (I ((j1 + 1 : Nat) : Int)) 3 3 s24_j2 rfl (dL hj1 R5.mx))<|vv rfl (aE (I ((j1 + 1 : Nat) : Int)) rfl)<|aD<|bI ?_
   exact ih (j1 := (j1 + 1)) st8 s0_j2 s5_j2 s8_j2 s22_j2 s23_j2 rfl R6 O9 rel3 hBp0_1 M11 (SlR.mono (le2.trans le4) R2) ((le2.trans le4) _ _ g2) R5 hd2 H
  rcases aM H with ⟨hc1,H⟩ | ⟨hc1,H⟩
  · refine tr e29_23 (dT hc1) rfl ?_
    refine dY [[(0,false),(1,false),(2,false),(3,false),(4,false),(5,false),(6,false),(7,false),(8,false),(9,false),(10,false),(11,true),(12,true),(13,false),(14,false),(15,true)]] [11,12,15] [0,1,2,3,4,5,6,7,8,9,10,11,12,13,14,15] [0,1,2,3,4,5,6,7,8,9,10,11,12,13,14,15] (fun w_ => Has h2 w_ ∧ w_.heap[aS]? = some (.cells (List.toArray [.slice a1 l1.length c1,.slice a2 l2.length c2]) 72 (0,0)) ∧ True) e29_24 k29_24 m29_24 (fun w6 al4 => ?_)
    have sp7 := al4.st st6.has
    have M10 := M9.call0 sp7
    have O8 := O7.call0 sp7
    have st7 := st6.call0 sp7
    refine ⟨⟨Has.le (Le.refl _) st7.has,M10.get,trivial⟩,?_,trivial⟩
    refine bV rfl rfl (fun w_ ok_ => aE (.pointer (some ⟨aS,0,none⟩)) s0)<|bV rfl rfl (fun w_ ok_ => aE (.pointer (some ⟨aS,0,none⟩)) s0)<|bV rfl rfl (fun w_ ok_ => bJ ⟨aS,0,none⟩ rfl)<|bV rfl rfl (fun w_ ok_ => aF (b := aS) (o := 0) fl72_1 rfl)<|bV rfl rfl (fun w_ ok_ => aN (.slice a2 l2.length c2) sc34 rfl ((aR ok_.2.1).trans rfl))<|bV rfl rfl (fun w_ ok_ => aN (.slice p2_a p2.length p2_c) sc28 s5 ((aR (ok_.1 _ _ (le2 _ _ g2))).trans rfl))<|bV rfl rfl (fun w_ ok_ => aN (I (j1 : Int)) sc3 rfl ((aR (ok_.1 _ _ g3)).trans rfl)) ?_
    obtain ⟨fE,hxd2_7_2,H⟩ := aK H
    have hid2_7_3 := dB hxd2_7_2
    obtain ⟨bd2_7_4,od2_7_5,vsd2_7_6,ead2_7_7,rpd2_7_8,cld2_7_9⟩ := SlR.at (SlR.mono le2 R2) hid2_7_3.2.2
    obtain rfl := rpd2_7_8
    refine bV rfl rfl (fun w_ ok_ => aY u28 sz9 rfl rfl ead2_7_7 hid2_7_3.1 hid2_7_3.2.1)<|bV rfl rfl (fun w_ ok_ => aN (.string fE) sc9 rfl (((cld2_7_9 _ (Has.le (Le.refl _) ok_.1)) 0 (by decide)).trans rfl))<|bV rfl rfl (fun w_ ok_ => aE (I x1) rfl)<|bV rfl rfl (fun w_ ok_ => dJ (vs := [.string fE,I x1]) [(0,.string fE),(1,I x1)] bd39 rfl rfl)<|dr_c rfl (eJ [.string ByteArray.empty,I 0] [.string fE,I x1] [(0,.agg #[.string fE,I x1])] u34 sz39 zr39 rfl rfl rfl (by kernel_rfl) rfl (by kernel_rfl) (fun bd2_11_1 wd2_11_2 ald2_11_3 => ?_))
    have lid2_11_8 : Lits h2 [[.string fE,I x1]] ([(⟨fE,x1⟩ : GDim)] : List GDim) := (Lits.cons (GDim.into (h := h2) (x := (⟨fE,x1⟩ : GDim)) ) Lits.nil)
    obtain ⟨hd2_11_4,led2_11_5,gd2_11_6,spd2_11_7⟩ := ald2_11_3.fz st7.has
    have Md2_11_9 := M10.call0 spd2_11_7
    have Od2_11_10 := O8.call0 spd2_11_7
    have std2_11_11 := st7.call0 spd2_11_7
    have Rd2_11_12 : SlR _ _ _ ([(⟨fE,x1⟩ : GDim)] : List GDim) := Lits.sl (n := 1) (Lits.mono led2_11_5 lid2_11_8) rfl rfl (by decide) gd2_11_6
    refine ⟨.inr ⟨Has.le led2_11_5 std2_11_11.has,Md2_11_9.get,trivial⟩,?_⟩
    obtain ⟨hsd2_12_1,H⟩ := cC H
    refine dr_c rfl (od_append (α := GDim) (B := p0_1_B) (l := l2) (l2 := ([(⟨fE,x1⟩ : GDim)] : List GDim)) u34 u34 ap39 rfl rfl rfl std2_11_11.has (Nat.le_trans hBp0_1 std2_11_11.sp.size) Od2_11_10 Rd2_11_12 rfl rfl hsd2_12_1 (fun ad2_12_2 cd2_12_3 wd2_12_4 Od2_12_5 spd2_12_6 bld2_12_7 => ?_))
    have Md2_12_8 := Md2_11_9.call spd2_12_6 (fun e => ((Od2_11_10.ne_mut Md2_11_9 (by decide)) e))
    have std2_12_9 := std2_11_11.call spd2_12_6 (fun x e => ((rel2 x e).elim (fun e => .inr (.inr e)) .inl))
    have reld2_12_11 : ∀ x,blk ad2_12_2 x → blk fC x ∨ w0.heap.size ≤ x := fun x hx => (bld2_12_7 x hx).elim (rel2 x) (fun q => .inr (Nat.le_trans std2_11_11.sp.size q))
    refine ⟨.inr ⟨Has.le led2_11_5 std2_12_9.has,Md2_12_8.get,trivial⟩,?_⟩
    refine bV rfl rfl (fun w_ ok_ => bJ ⟨aS,0,none⟩ rfl)<|bV rfl rfl (fun w_ ok_ => aF (b := aS) (o := 0) fl72_1 rfl)<|dr_c rfl (od_store (o := 1) (n := 1) [.slice ad2_12_2 ((l2 ++ ([(⟨fE,x1⟩ : GDim)] : List GDim)).length) cd2_12_3] [.slice a1 l1.length c1,.slice ad2_12_2 ((l2 ++ ([(⟨fE,x1⟩ : GDim)] : List GDim)).length) cd2_12_3] (.slice ad2_12_2 ((l2 ++ ([(⟨fE,x1⟩ : GDim)] : List GDim)).length) cd2_12_3) sz34 rfl rfl rfl Md2_12_8 rfl rfl rfl rfl rfl (fun wd2_15_1 wrd2_15_2 Md2_15_3 => ?_))
    have spd2_15_4 := wrd2_15_2.st std2_12_9.has Md2_12_8.none
    have Od2_15_5 := Od2_12_5.call spd2_15_4 (fun x hx e => (absurd (e ▸ hx) (Od2_12_5.ne_mut Md2_12_8 (by decide))))
    have std2_15_6 := std2_12_9.call spd2_15_4 (fun x e => (.inr (.inl e)))
    refine ⟨.inl rfl,?_⟩
    refine eL ?_
    exact Jj2 led2_11_5 std2_15_6 s0 s5 s8 s22 s23 s24 (SlR.mono (le2.trans led2_11_5) R3) (SlR.mono (le2.trans led2_11_5) R1) Od2_15_5 reld2_12_11 Md2_15_3 H
  refine fa e29_23 (dF hc1) rfl<|aB e29_25<|aA e29_26<|vv rfl (aE (.pointer (some ⟨aS,0,none⟩)) s0)<|vv rfl (bJ ⟨aS,0,none⟩ rfl)<|vv rfl (aF (b := aS) (o := 0) fl72_1 rfl)<|vv rfl (aN (.slice a2 l2.length c2) sc34 rfl ((aR M9.get).trans rfl))<|vv rfl (aE (I r1) rfl) ?_
  obtain ⟨x2,hx2,H⟩ := aK H
  have hi1 := dB hx2
  obtain ⟨b4,hab1⟩ := Own.adr O7 hi1.2.2
  refine vv rfl (aY u34 sz39 rfl rfl hab1 hi1.1 hi1.2.1)<|vv rfl (aF (b := b4) (o := 0 + (r1 : Int).toNat * 2) fl39_1 rfl) ?_
  obtain ⟨vs2,rp2,hl1,cl2⟩ := Own.cell O7 hab1 hi1.2.2
  obtain rfl := GDim.out rp2
  refine vv rfl (aN (I x2.Size) sc3 rfl (el_one cl2 (by decide) rfl))<|vv rfl (aE (I x1) rfl)<|vv rfl (aQ .neq .i64 x2.Size x1 (.bool (!decide (x2.Size = x1))) 3 3 rfl rfl rfl)<|aD ?_
  rcases aM H with ⟨hc2,H⟩ | ⟨hc2,H⟩
  · refine fa e29_27 (bN (dT hc2)) rfl<|aL e29_31 ?_
    exact Jj2 (Le.refl _) st6 s0 s5 s8 s22 s23 s24 (SlR.mono le2 R3) (SlR.mono le2 R1) O7 rel2 M9 H
  refine tr e29_27 (bQ (dF hc2)) rfl<|aB e29_28<|aA e29_29<|vv rfl (aC (I 4) rfl)<|aD ?_
  cases H
  exact aJ e29_30 (cD Try.results29 rfl ⟨a1,c1,a2,c2,h2,rfl,st6,(SlR.mono le2 R1),O7,rel2,M9⟩)
theorem ZSLl29_0_all : ∀ k,ZSLl29_0 k
  | 0 => SLl29_0_z
  | k + 1 => SLl29_0_s k (ZSLl29_0_all k)
theorem Fl29_0 (k : Nat) : SLl29_0 k := (ZSLl29_0_all k)
theorem F29 (k : Nat) : S29 k := by
 intro aS bW p0_1_c p0_1_B p2_c cK bX fC p2_a cY p1 p2 w0 h0 hh dU hBp0_1 Op0_1 Mp0 Rp2 r H
 unfold m29 at H
 refine aP (fn := Try.f29) Try.func29 rfl (Nat.le_of_ble_eq_true rfl) ?_
 show Run X29 [.code c29_0] (fun t => List.getD [.pointer (some ⟨aS,0,none⟩),.string p1,.slice p2_a p2.length p2_c] t undef) w0 (.fn (Q29 w0 h0 aS fC p0_1_B r))
 have st0 := St.init hh (fun x => x = aS ∨ (blk fC x))
 have rel1 : ∀ x,blk fC x → blk fC x ∨ w0.heap.size ≤ x := fun x hx => .inl hx
 refine aB e29_0<|aA e29_1<|dW (.slice p2_a p2.length p2_c) rfl rfl rfl (fun b1 w1 al1 => ?_)
 replace al1 : Al _ (.cells (List.toArray [.slice p2_a p2.length p2_c]) 28 (0,0)) b1 w1 := al1
 obtain ⟨h1,le1,g1,sp1⟩ := al1.fz st0.has
 have M1 := Mp0.call0 sp1
 have O1 := Op0_1.call0 sp1
 have st1 := st0.call0 sp1
 refine vv rfl (aC (I 0) rfl)<|aD<|aB e29_2 ?_
 refine dY [[(0,false),(1,false),(2,false),(3,false),(4,false),(5,false),(6,true),(7,false),(8,false),(9,false),(10,false),(11,false)]] [6] [0,1,2,3,4,5,6,7,8,9,10,11] [0,1,2,3,4,5,6,7,8,10,9,11] (fun w_ => Has h1 w_ ∧ w_.heap[aS]? = some (.cells (List.toArray [.slice bX cK.length bW,.slice fC cY.length p0_1_c]) 72 (0,0)) ∧ True) e29_3 k29_3 m29_3 (fun w2 al2 => ?_)
 have sp2 := al2.st st1.has
 have M2 := M1.call0 sp2
 have O2 := O1.call0 sp2
 have st2 := st1.call0 sp2
 refine ⟨⟨Has.le (Le.refl _) st2.has,M2.get,trivial⟩,?_,trivial⟩
 refine bV rfl rfl (fun w_ ok_ => aE (.pointer (some ⟨aS,0,none⟩)) rfl)<|bV rfl rfl (fun w_ ok_ => bJ ⟨aS,0,none⟩ rfl)<|bV rfl rfl (fun w_ ok_ => aF (b := aS) (o := 0) fl72_0 rfl)<|bV rfl rfl (fun w_ ok_ => aN (.slice bX cK.length bW) sc70 rfl ((aR ok_.2.1).trans rfl))<|bV rfl rfl (fun w_ ok_ => aE (.string p1) rfl)<|bV rfl rfl (fun w_ ok_ => aN (.slice p2_a p2.length p2_c) sc28 rfl ((aR (ok_.1 _ _ g1)).trans rfl)) ?_
 obtain ⟨dI,hrd1_6_2,H⟩ := aK H
 refine dr_c rfl (od_call [.slice bX cK.length bW,.string p1,.slice p2_a p2.length p2_c] en27 rfl rfl (F27 k st2.has (SlR.mono le1 dU) (SlR.mono le1 Rp2) hrd1_6_2) ?_)
 rintro _ wd1_6_3 ⟨ad1_6_6,cd1_6_7,hd1_6_4,rfl,spd1_6_5,Rd1_6_8⟩
 have Md1_6_9 := M2.call0 spd1_6_5
 have Od1_6_10 := O2.call0 spd1_6_5
 have std1_6_11 := st2.call0 spd1_6_5
 refine ⟨.inr ⟨Has.le spd1_6_5.le std1_6_11.has,Md1_6_9.get,trivial⟩,?_⟩
 refine bV rfl rfl (fun w_ ok_ => aE (.tuple #[.slice ad1_6_6 dI.1.length cd1_6_7,I dI.2]) rfl)<|bV rfl rfl (fun w_ ok_ => bS (.slice ad1_6_6 dI.1.length cd1_6_7) rfl rfl)<|bV rfl rfl (fun w_ ok_ => bS (I dI.2) rfl rfl)<|bV rfl rfl (fun w_ ok_ => aC (.slice ad1_6_6 dI.1.length cd1_6_7) rfl)<|bV rfl rfl (fun w_ ok_ => aC (I dI.2) rfl)<|eL<|aB e29_4<|aB e29_5<|aA e29_6<|vv rfl (aE (.slice ad1_6_6 dI.1.length cd1_6_7) rfl) ?_
 refine vv rfl (bK u43 rfl)<|vv rfl (aE (I 0) rfl)<|aD<|aT e29_7<|bZ e29_8 ?_
 exact Fl29_0 k (j1 := 0) std1_6_11 rfl rfl rfl rfl rfl rfl (SlR.mono (le1.trans spd1_6_5.le) dU) Od1_6_10 rel1 hBp0_1 Md1_6_9 (SlR.mono (le1.trans spd1_6_5.le) Rp2) (spd1_6_5.le _ _ g1) Rd1_6_8 rfl H
theorem F53 (k : Nat) : S53 k := by
 intro p0 aG bF p1_3_a p1_4_a aH bG p1_b p1_3_c p1_4_c p1_0 p1_1 p1_2 p1_3 p1_4 w0 h0 hh cB fB Rp1_3 Rp1_4 gp1 r H
 unfold m53 at H
 refine aP (fn := Try.f53) Try.func53 rfl (Nat.le_of_ble_eq_true rfl) ?_
 show Run X53 [.code c53_0] (fun t => List.getD [.agg #[I p0.Op,I p0.N,.string p0.Name,.slice aG p0.Index.length aH,.slice bF p0.L.length bG],.pointer (some ⟨p1_b,0,none⟩)] t undef) w0 (.fn (Q53 w0 h0 r))
 have st0 := St.init hh noM
 refine aB e53_0<|aA e53_1<|dW (.agg #[I p0.Op,I p0.N,.string p0.Name,.slice aG p0.Index.length aH,.slice bF p0.L.length bG]) rfl rfl rfl (fun b1 w1 al1 => ?_)
 replace al1 : Al _ (.cells (List.toArray [I p0.Op,I p0.N,.string p0.Name,.slice aG p0.Index.length aH,.slice bF p0.L.length bG]) 31 (0,0)) b1 w1 := al1
 obtain ⟨h1,le1,g1,sp1⟩ := al1.fz st0.has
 have st1 := st0.call0 sp1
 refine vv rfl (aC (.bool false) rfl)<|aD<|aB e53_2<|aA e53_3<|vv rfl (aF (b := b1) (o := 0) fl31_3 rfl)<|vv rfl (aN (.slice aG p0.Index.length aH) sc28 rfl ((aR (st1.has _ _ g1)).trans rfl))<|vv rfl (aF (b := p1_b) (o := 0) fl31_2 rfl)<|vv rfl (aN (.string p1_2) sc9 rfl ((aR (st1.has _ _ (le1 _ _ gp1))).trans rfl)) ?_
 obtain ⟨r1,hr1,H⟩ := aK H
 refine aU [.slice aG p0.Index.length aH,.string p1_2] en28 rfl rfl rfl (F28 k st1.has (SlR.mono le1 cB) hr1) ?_
 rintro _ w2 ⟨h2,rfl,sp2⟩
 have st2 := st1.call0 sp2
 refine vv rfl (aC (.bool r1) rfl)<|aD ?_
 cases H
 exact aJ e53_4 (cD Try.results53 rfl ⟨h2,rfl,st2⟩)
abbrev ZSLl81_0 (k : Nat) : Prop := SLl81_0 k
theorem SLl81_0_z : SLl81_0 0 := by
  unfold SLl81_0; intros; rename_i H; exact absurd H (by simp [l81_0])
theorem SLl81_0_s (k : Nat) (ih : ZSLl81_0 k) : SLl81_0 (k + 1) := by
 intro p0 eD bD eW eX bE cV eY eZ j1 cO eO eP eC w0 w h0 h σ xs1 r st s0 s1 s7 s8 R1 R2 R3 g1 hd1 H
 cases xs1 with
 | nil =>
  rw [l81_0] at H
  have hk1 := cU hd1
  refine aB e81_7<|aA e81_8<|vv rfl (aQ .lss .i64 (j1 : Int) (p0.length : Int) (.bool (decide ((j1 : Int) < (p0.length : Int)))) 3 3 s8 s7 rfl)<|aD<|aB e81_9<|fa e81_10 hk1 rfl<|bO e81_12 rfl<|aB e81_25<|aA e81_26<|vv rfl (aC (I (-1)) rfl) ?_
  refine aD ?_
  cases H
  exact aJ e81_27 (cD Try.results81 rfl ⟨h,rfl,st⟩)
 | cons x1 xs2 =>
  rw [l81_0] at H
  obtain ⟨hk2,hj1,hx1,hd2⟩ := cJ hd1
  refine aB e81_7<|aA e81_8<|vv rfl (aQ .lss .i64 (j1 : Int) (p0.length : Int) (.bool (decide ((j1 : Int) < (p0.length : Int)))) 3 3 s8 s7 rfl)<|aD<|aB e81_9<|tr e81_10 hk2 rfl<|aL e81_11<|aB e81_13<|aT e81_14<|aB e81_15 ?_
  refine aA e81_16<|vv rfl (aE (I (j1 : Int)) s8)<|vv rfl (aC (I (j1 : Int)) rfl)<|aD<|aB e81_17<|aA e81_18<|vv rfl (aE (.func (.func 53) #[] #[.pointer (some ⟨cV,0,none⟩)]) s1)<|vv rfl (aE (.slice bD p0.length bE) s0)<|vv rfl (aE (I (j1 : Int)) rfl) ?_
  obtain ⟨b1,o1,vs1,ea1,rp1,cl1⟩ := SlR.at R1 hx1
  obtain ⟨a1,c1,a2,c2,rfl,R4,R5⟩ := GNode.out rp1
  refine vv rfl (aY u29 cP rfl rfl ea1 (Int.natCast_nonneg _) (Int.ofNat_lt.2 hj1))<|vv rfl (bH [I x1.Op,I x1.N,.string x1.Name,.slice a1 x1.Index.length c1,.slice a2 x1.L.length c2] dX cP rfl rfl (cl1 _ (Has.le (Le.refl _) st.has))) ?_
  obtain ⟨r1,hr1,H⟩ := aK H
  refine dQ [] [.pointer (some ⟨cV,0,none⟩)] [.agg #[I x1.Op,I x1.N,.string x1.Name,.slice a1 x1.Index.length c1,.slice a2 x1.L.length c2]] [.agg #[I x1.Op,I x1.N,.string x1.Name,.slice a1 x1.Index.length c1,.slice a2 x1.L.length c2],.pointer (some ⟨cV,0,none⟩)] en53 rfl rfl rfl rfl rfl (F53 k (p0 := x1) st.has R4 R5 R2 R3 g1 hr1) ?_
  rintro _ w1 ⟨h1,rfl,sp1⟩
  have st1 := st.call0 sp1
  refine aD ?_
  rcases aM H with ⟨hc1,H⟩ | ⟨hc1,H⟩
  · refine tr e81_19 hc1 rfl<|aB e81_20<|aA e81_21<|vv rfl (aE (I (j1 : Int)) rfl)<|vv rfl (aC (I (j1 : Int)) rfl)<|aD ?_
    cases H
    exact aJ e81_22 (cD Try.results81 rfl ⟨h1,rfl,st1⟩)
  refine fa e81_19 (bY hc1) rfl<|aL e81_23<|aZ<|aA e81_24<|vv rfl (aQ .add .i64 (j1 : Int) 1 (I ((j1 + 1 : Nat) : Int)) 3 3 s8 rfl (dL hj1 (SlR.mono sp1.le R1).mx))<|vv rfl (aE (I ((j1 + 1 : Nat) : Int)) rfl)<|aD<|bI ?_
  exact ih (j1 := (j1 + 1)) st1 s0 s1 s7 rfl (SlR.mono sp1.le R1) (SlR.mono sp1.le R2) (SlR.mono sp1.le R3) (sp1.le _ _ g1) hd2 H
theorem ZSLl81_0_all : ∀ k,ZSLl81_0 k
  | 0 => SLl81_0_z
  | k + 1 => SLl81_0_s k (ZSLl81_0_all k)
theorem Fl81_0 (k : Nat) : SLl81_0 k := (ZSLl81_0_all k)
theorem F81 (k : Nat) : S81 k := by
 intro p0 eD bD eW eX bE cV eY eZ cO eO eP eC w0 h0 hh Rp0 Rp1_v0_3 Rp1_v0_4 gp1_v0 r H
 unfold m81 at H
 refine aP (fn := Try.f81) Try.func81 rfl (Nat.le_of_ble_eq_true rfl) ?_
 show Run X81 [.code c81_0] (fun t => List.getD [.slice bD p0.length bE,.func (.func 53) #[] #[.pointer (some ⟨cV,0,none⟩)]] t undef) w0 (.fn (Q81 w0 h0 r))
 have st0 := St.init hh noM
 refine aB e81_0<|aA e81_1<|vv rfl (aC (I 0) rfl)<|aD<|aB e81_2<|aB e81_3<|aA e81_4<|vv rfl (aE (.slice bD p0.length bE) rfl)<|vv rfl (bK u29 rfl)<|vv rfl (aE (I 0) rfl) ?_
 refine aD<|aT e81_5<|bZ e81_6 ?_
 exact Fl81_0 k (j1 := 0) st0 rfl rfl rfl rfl Rp0 Rp1_v0_3 Rp1_v0_4 gp1_v0 rfl H
theorem F54 (k : Nat) : S54 k := by
 intro p0 eD bD eW eX bE cV eY eZ cO eO eP eC w0 h0 hh Rp0 Rp1_v0_3 Rp1_v0_4 gp1_v0 r H
 unfold m54 at H
 refine aP (fn := Try.f54) Try.func54 rfl (Nat.le_of_ble_eq_true rfl) ?_
 show Run X54 [.code c54_0] (fun t => List.getD [.slice bD p0.length bE,.func (.func 53) #[] #[.pointer (some ⟨cV,0,none⟩)]] t undef) w0 (.fn (Q54 w0 h0 r))
 have st0 := St.init hh noM
 refine aB e54_0<|aA e54_1<|vv rfl (aC (.bool false) rfl)<|aD<|aB e54_2<|aA e54_3<|vv rfl (aE (.slice bD p0.length bE) rfl)<|vv rfl (aE (.func (.func 53) #[] #[.pointer (some ⟨cV,0,none⟩)]) rfl) ?_
 obtain ⟨r1,hr1,H⟩ := aK H
 refine aU [.slice bD p0.length bE,.func (.func 53) #[] #[.pointer (some ⟨cV,0,none⟩)]] en81 rfl rfl rfl (F81 k st0.has Rp0 Rp1_v0_3 Rp1_v0_4 gp1_v0 hr1) ?_
 rintro _ w1 ⟨h1,rfl,sp1⟩
 have st1 := st0.call0 sp1
 refine vv rfl (aQ .geq .i64 r1 0 (.bool (decide (0 ≤ r1))) 3 3 rfl rfl rfl)<|vv rfl (aC (.bool (decide (0 ≤ r1))) rfl)<|aD ?_
 cases H
 exact aJ e54_4 (cD Try.results54 rfl ⟨h1,rfl,st1⟩)
abbrev ZS55 (k : Nat) : Prop := S55 k ∧ S30 k ∧ S54_1 k ∧ S81_1 k ∧ SLl81_1_0 k
theorem S55_z : S55 0 := by
  unfold S55; intros; rename_i H; exact absurd H (by simp [m55])
theorem S55_s (k : Nat) (ih : ZS55 k) : S55 (k + 1) := by
 intro p0 aG bF aH bG w0 h0 hh cB fB r H
 rw [m55] at H
 refine aP (fn := Try.f55) Try.func55 rfl (Nat.le_of_ble_eq_true rfl) ?_
 show Run X55 [.code c55_0] (fun t => List.getD [.agg #[I p0.Op,I p0.N,.string p0.Name,.slice aG p0.Index.length aH,.slice bF p0.L.length bG]] t undef) w0 (.fn (Q55 w0 h0 r))
 have st0 := St.init hh noM
 refine aB e55_0<|aA e55_1<|dW (.agg #[I p0.Op,I p0.N,.string p0.Name,.slice aG p0.Index.length aH,.slice bF p0.L.length bG]) rfl rfl rfl (fun b1 w1 al1 => ?_)
 replace al1 : Al _ (.cells (List.toArray [I p0.Op,I p0.N,.string p0.Name,.slice aG p0.Index.length aH,.slice bF p0.L.length bG]) 31 (0,0)) b1 w1 := al1
 obtain ⟨h1,le1,g1,sp1⟩ := al1.fz st0.has
 have st1 := st0.call0 sp1
 refine vv rfl (aC (.bool false) rfl)<|aD<|aB e55_2<|aA e55_3<|vv rfl (bH [I p0.Op,I p0.N,.string p0.Name,.slice aG p0.Index.length aH,.slice bF p0.L.length bG] dX cP rfl rfl (bA (st1.has _ _ g1) rfl)) ?_
 obtain ⟨r1,hr1,H⟩ := aK H
 refine aU [.agg #[I p0.Op,I p0.N,.string p0.Name,.slice aG p0.Index.length aH,.slice bF p0.L.length bG]] en30 rfl rfl rfl (ih.2.1 (p0 := p0) st1.has (SlR.mono le1 cB) (SlR.mono le1 fB) hr1) ?_
 rintro _ w2 ⟨h2,rfl,sp2⟩
 have st2 := st1.call0 sp2
 refine vv rfl (dV r1 4 rfl)<|vv rfl (aC (.bool (!r1)) rfl)<|aD ?_
 cases H
 exact aJ e55_4 (cD Try.results55 rfl ⟨h2,rfl,st2⟩)
theorem S30_z : S30 0 := by
  unfold S30; intros; rename_i H; exact absurd H (by simp [m30])
theorem S30_s (k : Nat) (ih : ZS55 k) : S30 (k + 1) := by
 intro p0 aG bF aH bG w0 h0 hh cB fB r H
 rw [m30] at H
 refine aP (fn := Try.f30) Try.func30 rfl (Nat.le_of_ble_eq_true rfl) ?_
 show Run X30 [.code c30_0] (fun t => List.getD [.agg #[I p0.Op,I p0.N,.string p0.Name,.slice aG p0.Index.length aH,.slice bF p0.L.length bG]] t undef) w0 (.fn (Q30 w0 h0 r))
 have st0 := St.init hh noM
 refine aB e30_0<|aA e30_1<|dW (.agg #[I p0.Op,I p0.N,.string p0.Name,.slice aG p0.Index.length aH,.slice bF p0.L.length bG]) rfl rfl rfl (fun b1 w1 al1 => ?_)
 replace al1 : Al _ (.cells (List.toArray [I p0.Op,I p0.N,.string p0.Name,.slice aG p0.Index.length aH,.slice bF p0.L.length bG]) 31 (0,0)) b1 w1 := al1
 obtain ⟨h1,le1,g1,sp1⟩ := al1.fz st0.has
 have st1 := st0.call0 sp1
 refine vv rfl (aC (.bool false) rfl)<|aD<|aB e30_2<|aA e30_3<|vv rfl (eU (.func (.func 53) #[] #[.pointer (some ⟨b1,0,none⟩)]) (mf rfl rfl))<|vv rfl (aC (.func (.func 53) #[] #[.pointer (some ⟨b1,0,none⟩)]) rfl)<|aD<|aB e30_4<|aB e30_5<|aA e30_6 ?_
 obtain ⟨j1,hj1,H⟩ := dH H
 have Jj1 : ∀  {σ1 : Env} {w4 : World} {h4 : Sto},Le h1 h4 → St w0 noM h0 h4 w4 → σ1 1 = .pointer (some ⟨b1,0,none⟩) → j1 () = some r → Run X30 [.code c30_12] σ1 w4 (.fn (Q30 w0 h0 r)) := by
  intro σ1 w4 h4 le2 st4 s1_j1 H
  rw [hj1] at H
  refine aB e30_12<|aA e30_13<|vv rfl (aF (b := b1) (o := 0) fl31_4 s1_j1)<|vv rfl (aN (.slice bF p0.L.length bG) sc29 rfl ((aR (st4.has _ _ (le2 _ _ g1))).trans rfl)) ?_
  obtain ⟨r3,hr3,H⟩ := aK H
  refine aU [.slice bF p0.L.length bG,.func (.func 55) #[] #[]] en54 rfl rfl rfl (ih.2.2.1 st4.has (SlR.mono (le1.trans le2) fB) hr3) ?_
  rintro _ w5 ⟨h5,rfl,sp4⟩
  have st5 := st4.call0 sp4
  refine vv rfl (dV r3 4 rfl)<|vv rfl (aC (.bool (!r3)) rfl)<|aD ?_
  cases H
  exact aJ e30_14 (cD Try.results30 rfl ⟨h5,rfl,st5⟩)
 refine vv rfl (aF (b := b1) (o := 0) fl31_0 rfl)<|vv rfl (aN (I p0.Op) sc3 rfl ((aR (st1.has _ _ g1)).trans rfl))<|vv rfl (aQ .eql .i64 p0.Op 7 (.bool (decide (p0.Op = 7))) 3 3 rfl rfl rfl)<|vv rfl (aE (.bool (decide (p0.Op = 7))) rfl) ?_
 rcases aM H with ⟨hc1,H⟩ | ⟨hc1,H⟩
 · refine bC (wt2 (dT hc1) rfl) rfl (bH [I p0.Op,I p0.N,.string p0.Name,.slice aG p0.Index.length aH,.slice bF p0.L.length bG] dX cP rfl rfl (bA (st1.has _ _ g1) rfl)) ?_
   obtain ⟨r1,hr1,H⟩ := aK H
   refine aU [.agg #[I p0.Op,I p0.N,.string p0.Name,.slice aG p0.Index.length aH,.slice bF p0.L.length bG]] en12 (wt2 (dT hc1) rfl) rfl rfl (F12 k (p0 := p0) st1.has (SlR.mono le1 cB) (SlR.mono le1 fB) hr1) ?_
   rintro _ w2 ⟨a1,c1,h2,rfl,sp2,R1⟩
   have st2 := st1.call0 sp2
   refine bC (wt2 (dT hc1) rfl) rfl (aE (.func (.func 53) #[] #[.pointer (some ⟨b1,0,none⟩)]) rfl) ?_
   obtain ⟨r2,hr2,H⟩ := aK H
   refine aU [.slice a1 r1.length c1,.func (.func 53) #[] #[.pointer (some ⟨b1,0,none⟩)]] en54 (wt2 (dT hc1) rfl) rfl rfl (F54 k st2.has R1 (SlR.mono (le1.trans sp2.le) cB) (SlR.mono (le1.trans sp2.le) fB) (sp2.le _ _ g1) hr2) ?_
   rintro _ w3 ⟨h3,rfl,sp3⟩
   have st3 := st2.call0 sp3
   refine bC (wt2 (dT hc1) rfl) rfl (dV r2 4 rfl)<|vv rfl (dD (.bool (!r2)) (dT hc1) rfl rfl)<|aD ?_
   rcases aM H with ⟨hc2,H⟩ | ⟨hc2,H⟩
   · refine fa e30_7 (bN hc2) rfl<|aL e30_11 ?_
     exact Jj1 (sp2.le.trans sp3.le) st3 rfl H
   refine tr e30_7 (bQ (bY hc2)) rfl<|aB e30_8<|aA e30_9<|vv rfl (aC (.bool false) rfl)<|aD ?_
   cases H
   exact aJ e30_10 (cD Try.results30 rfl ⟨h3,rfl,st3⟩)
 refine aO (wf2 (dF hc1) rfl) rfl<|aO (wf2 (dF hc1) rfl) rfl<|aO (wf2 (dF hc1) rfl) rfl<|aO (wf2 (dF hc1) rfl) rfl<|aO (wf2 (dF hc1) rfl) rfl<|vv rfl (dE (.bool false) (dF hc1) rfl rfl)<|aD<|dK e30_7 (p := false) rfl rfl<|aL e30_11 ?_
 exact Jj1 (Le.refl _) st1 rfl H
theorem S54_1_z : S54_1 0 := by
  unfold S54_1; intros; rename_i H; exact absurd H (by simp [m54_1])
theorem S54_1_s (k : Nat) (ih : ZS55 k) : S54_1 (k + 1) := by
 intro p0 bD bE w0 h0 hh Rp0 r H
 rw [m54_1] at H
 refine aP (fn := Try.f54) Try.func54 rfl (Nat.le_of_ble_eq_true rfl) ?_
 show Run X54 [.code c54_0] (fun t => List.getD [.slice bD p0.length bE,.func (.func 55) #[] #[]] t undef) w0 (.fn (Q54_1 w0 h0 r))
 have st0 := St.init hh noM
 refine aB e54_0<|aA e54_1<|vv rfl (aC (.bool false) rfl)<|aD<|aB e54_2<|aA e54_3<|vv rfl (aE (.slice bD p0.length bE) rfl)<|vv rfl (aE (.func (.func 55) #[] #[]) rfl) ?_
 obtain ⟨r1,hr1,H⟩ := aK H
 refine aU [.slice bD p0.length bE,.func (.func 55) #[] #[]] en81 rfl rfl rfl (ih.2.2.2.1 st0.has Rp0 hr1) ?_
 rintro _ w1 ⟨h1,rfl,sp1⟩
 have st1 := st0.call0 sp1
 refine vv rfl (aQ .geq .i64 r1 0 (.bool (decide (0 ≤ r1))) 3 3 rfl rfl rfl)<|vv rfl (aC (.bool (decide (0 ≤ r1))) rfl)<|aD ?_
 cases H
 exact aJ e54_4 (cD Try.results54 rfl ⟨h1,rfl,st1⟩)
theorem S81_1_z : S81_1 0 := by
  unfold S81_1; intros; rename_i H; exact absurd H (by simp [m81_1])
theorem S81_1_s (k : Nat) (ih : ZS55 k) : S81_1 (k + 1) := by
 intro p0 bD bE w0 h0 hh Rp0 r H
 rw [m81_1] at H
 refine aP (fn := Try.f81) Try.func81 rfl (Nat.le_of_ble_eq_true rfl) ?_
 show Run X81 [.code c81_0] (fun t => List.getD [.slice bD p0.length bE,.func (.func 55) #[] #[]] t undef) w0 (.fn (Q81_1 w0 h0 r))
 have st0 := St.init hh noM
 refine aB e81_0<|aA e81_1<|vv rfl (aC (I 0) rfl)<|aD<|aB e81_2<|aB e81_3<|aA e81_4<|vv rfl (aE (.slice bD p0.length bE) rfl)<|vv rfl (bK u29 rfl)<|vv rfl (aE (I 0) rfl) ?_
 refine aD<|aT e81_5<|bZ e81_6 ?_
 exact ih.2.2.2.2 (j1 := 0) st0 rfl rfl rfl rfl Rp0 rfl H
theorem SLl81_1_0_z : SLl81_1_0 0 := by
  unfold SLl81_1_0; intros; rename_i H; exact absurd H (by simp [l81_1_0])
theorem SLl81_1_0_s (k : Nat) (ih : ZS55 k) : SLl81_1_0 (k + 1) := by
 intro p0 bD bE j1 w0 w h0 h σ xs1 r st s0 s1 s7 s8 R1 hd1 H
 cases xs1 with
 | nil =>
  rw [l81_1_0] at H
  have hk1 := cU hd1
  refine aB e81_7<|aA e81_8<|vv rfl (aQ .lss .i64 (j1 : Int) (p0.length : Int) (.bool (decide ((j1 : Int) < (p0.length : Int)))) 3 3 s8 s7 rfl)<|aD<|aB e81_9<|fa e81_10 hk1 rfl<|bO e81_12 rfl<|aB e81_25<|aA e81_26<|vv rfl (aC (I (-1)) rfl) ?_
  refine aD ?_
  cases H
  exact aJ e81_27 (cD Try.results81 rfl ⟨h,rfl,st⟩)
 | cons x1 xs2 =>
  rw [l81_1_0] at H
  obtain ⟨hk2,hj1,hx1,hd2⟩ := cJ hd1
  refine aB e81_7<|aA e81_8<|vv rfl (aQ .lss .i64 (j1 : Int) (p0.length : Int) (.bool (decide ((j1 : Int) < (p0.length : Int)))) 3 3 s8 s7 rfl)<|aD<|aB e81_9<|tr e81_10 hk2 rfl<|aL e81_11<|aB e81_13<|aT e81_14<|aB e81_15 ?_
  refine aA e81_16<|vv rfl (aE (I (j1 : Int)) s8)<|vv rfl (aC (I (j1 : Int)) rfl)<|aD<|aB e81_17<|aA e81_18<|vv rfl (aE (.func (.func 55) #[] #[]) s1)<|vv rfl (aE (.slice bD p0.length bE) s0)<|vv rfl (aE (I (j1 : Int)) rfl) ?_
  obtain ⟨b1,o1,vs1,ea1,rp1,cl1⟩ := SlR.at R1 hx1
  obtain ⟨a1,c1,a2,c2,rfl,R2,R3⟩ := GNode.out rp1
  refine vv rfl (aY u29 cP rfl rfl ea1 (Int.natCast_nonneg _) (Int.ofNat_lt.2 hj1))<|vv rfl (bH [I x1.Op,I x1.N,.string x1.Name,.slice a1 x1.Index.length c1,.slice a2 x1.L.length c2] dX cP rfl rfl (cl1 _ (Has.le (Le.refl _) st.has))) ?_
  obtain ⟨r1,hr1,H⟩ := aK H
  refine dQ [] [] [.agg #[I x1.Op,I x1.N,.string x1.Name,.slice a1 x1.Index.length c1,.slice a2 x1.L.length c2]] [.agg #[I x1.Op,I x1.N,.string x1.Name,.slice a1 x1.Index.length c1,.slice a2 x1.L.length c2]] en55 rfl rfl rfl rfl rfl (ih.1 (p0 := x1) st.has R2 R3 hr1) ?_
  rintro _ w1 ⟨h1,rfl,sp1⟩
  have st1 := st.call0 sp1
  refine aD ?_
  rcases aM H with ⟨hc1,H⟩ | ⟨hc1,H⟩
  · refine tr e81_19 hc1 rfl<|aB e81_20<|aA e81_21<|vv rfl (aE (I (j1 : Int)) rfl)<|vv rfl (aC (I (j1 : Int)) rfl)<|aD ?_
    cases H
    exact aJ e81_22 (cD Try.results81 rfl ⟨h1,rfl,st1⟩)
  refine fa e81_19 (bY hc1) rfl<|aL e81_23<|aZ<|aA e81_24<|vv rfl (aQ .add .i64 (j1 : Int) 1 (I ((j1 + 1 : Nat) : Int)) 3 3 s8 rfl (dL hj1 (SlR.mono sp1.le R1).mx))<|vv rfl (aE (I ((j1 + 1 : Nat) : Int)) rfl)<|aD<|bI ?_
  exact ih.2.2.2.2 (j1 := (j1 + 1)) st1 s0 s1 s7 rfl (SlR.mono sp1.le R1) hd2 H
theorem ZS55_all : ∀ k,ZS55 k
  | 0 => ⟨S55_z,S30_z,S54_1_z,S81_1_z,SLl81_1_0_z⟩
  | k + 1 => ⟨S55_s k (ZS55_all k),S30_s k (ZS55_all k),S54_1_s k (ZS55_all k),S81_1_s k (ZS55_all k),SLl81_1_0_s k (ZS55_all k)⟩
theorem F30 (k : Nat) : S30 k := (ZS55_all k).2.1
abbrev ZSLl10_0 (k : Nat) : Prop := SLl10_0 k ∧ SLl10_1 k
theorem SLl10_0_z : SLl10_0 0 := by
  unfold SLl10_0; intros; rename_i H; exact absurd H (by simp [l10_0])
theorem SLl10_0_s (k : Nat) (ih : ZSLl10_0 k) : SLl10_0 (k + 1) := by
 intro p0 aG aW bL cM aH aX bM cN b1 b3 j3 p1 w0 w h0 h σ xs1 r st s2 s8 s49 s50 s51 R2 R3 R4 g3 R5 M3 lb2 hd1 H
 cases xs1 with
 | nil =>
  rw [l10_0] at H
  have hk1 := cU hd1
  refine aB e10_29<|aA e10_30<|vv rfl (aQ .lss .i64 (j3 : Int) (p0.Index.length : Int) (.bool (decide ((j3 : Int) < (p0.Index.length : Int)))) 3 3 s51 s50 rfl)<|aD<|aB e10_31<|fa e10_32 hk1 rfl<|bO e10_34 rfl<|aB e10_47<|aA e10_48<|vv rfl (aE (.pointer (some ⟨b3,0,none⟩)) s8) ?_
  refine vv rfl (aF (b := b1) (o := 0) fl33_0 s2)<|vv rfl (aN (.string p0.Name) sc9 rfl ((aR (st.has _ _ g3)).trans rfl))<|vv rfl (aF (b := b1) (o := 0) fl33_1 s2)<|vv rfl (aN (.slice aG p0.Index.length aH) sc28 rfl ((aR (st.has _ _ g3)).trans rfl)) ?_
  obtain ⟨r3,hr3,H⟩ := aK H
  refine aU [.pointer (some ⟨b3,0,none⟩),.string p0.Name,.slice aG p0.Index.length aH] en29 rfl rfl rfl (F29 k st.has R5 st.sp.size (Own.nil _ _ _ _) M3 R2 hr3) ?_
  rintro _ w7 ⟨a1,c1,a2,c2,h5,rfl,sp7,R6,R7,rl1,M4⟩
  have st7 := st.call sp7 (fun x e => (e.elim (fun e => (.inl (e ▸ lb2))) (fun e => (.inl ((Own.nil (α := GDim) 39 w0.heap.size h w).lbs x e)))))
  refine vv rfl (aC (I r3.1) rfl)<|aD<|aB e10_49<|aB e10_50<|aA e10_51<|vv rfl (aF (b := b1) (o := 0) fl33_2 s2)<|vv rfl (bH [I p0.E.Op,I p0.E.N,.string p0.E.Name,.slice aW p0.E.Index.length aX,.slice bL p0.E.L.length bM] dX cP rfl rfl (bA (st7.has _ _ (sp7.le _ _ g3)) rfl)) ?_
  obtain ⟨r4,hr4,H⟩ := aK H
  refine aU [.agg #[I p0.E.Op,I p0.E.N,.string p0.E.Name,.slice aW p0.E.Index.length aX,.slice bL p0.E.L.length bM]] en12 rfl rfl rfl (F12 k (p0 := p0.E) st7.has (SlR.mono sp7.le R3) (SlR.mono sp7.le R4) hr4) ?_
  rintro _ w8 ⟨a3,c3,h6,rfl,sp8,R8⟩
  have M5 := M4.call0 sp8
  have O1 := R7.call0 sp8
  have st8 := st7.call0 sp8
  refine vv rfl (bK u29 rfl)<|vv rfl (aE (I 0) rfl)<|aD<|aT e10_52<|bZ e10_53 ?_
  exact ih.2 (j4 := 0) st8 s2 s8 rfl rfl rfl rfl (SlR.mono (sp7.le.trans sp8.le) R2) (SlR.mono (sp7.le.trans sp8.le) R3) (SlR.mono (sp7.le.trans sp8.le) R4) ((sp7.le.trans sp8.le) _ _ g3) (SlR.mono sp8.le R6) O1 M5 lb2 R8 rfl H
 | cons x1 xs2 =>
  rw [l10_0] at H
  obtain ⟨hk2,hj1,hx1,hd2⟩ := cJ hd1
  refine aB e10_29<|aA e10_30<|vv rfl (aQ .lss .i64 (j3 : Int) (p0.Index.length : Int) (.bool (decide ((j3 : Int) < (p0.Index.length : Int)))) 3 3 s51 s50 rfl)<|aD<|aB e10_31<|tr e10_32 hk2 rfl<|aL e10_33<|aB e10_35<|aT e10_36<|aB e10_37 ?_
  refine aA e10_38<|vv rfl (aE (I (j3 : Int)) s51) ?_
  obtain ⟨b6,o2,vs2,ea2,rp2,cl2⟩ := SlR.at R2 hx1
  obtain rfl := rp2
  refine vv rfl (aY u28 sz9 s49 s51 ea2 (Int.natCast_nonneg _) (Int.ofNat_lt.2 hj1))<|vv rfl (aN (.string x1) sc9 rfl (((cl2 _ (Has.le (Le.refl _) st.has)) 0 (by decide)).trans rfl))<|vv rfl (aC (I (j3 : Int)) rfl)<|vv rfl (aC (.string x1) rfl)<|aD<|aB e10_39<|aA e10_40<|vv rfl (aF (b := b1) (o := 0) fl33_1 s2)<|vv rfl (aN (.slice aG p0.Index.length aH) sc28 rfl ((aR (st.has _ _ g3)).trans rfl))<|vv rfl (aE (I (j3 : Int)) rfl) ?_
  obtain ⟨hs1,H⟩ := cC H
  obtain ⟨a12,c12,ha1,hc7,R21⟩ := SlR.slice2 (lo := 0) (hi := (j3 : Int)) R2 hs1.1 hs1.2.1 hs1.2.2
  refine vv rfl (fM (l := 0) (h := (j3 : Int)) (kl := .i64) (kh := .i64) p0.Index rfl u28 sz9 rfl rfl rfl hs1.1 hs1.2.1 hs1.2.2 R2.lc ha1 hc7)<|vv rfl (aE (.string x1) rfl) ?_
  obtain ⟨r7,hr7,H⟩ := aK H
  refine aU [.slice a12 (((p0.Index.take ((j3 : Int) : Int).toNat).drop (0 : Int).toNat).length) c12,.string x1] en28 rfl rfl rfl (F28 k st.has R21 hr7) ?_
  rintro _ w14 ⟨h12,rfl,sp13⟩
  have M16 := M3.call0 sp13
  have st16 := st.call0 sp13
  refine aD ?_
  rcases aM H with ⟨hc8,H⟩ | ⟨hc8,H⟩
  · refine tr e10_41 hc8 rfl<|aB e10_42<|aA e10_43<|vv rfl (aC (.slice none 0 0) rfl)<|vv rfl (aC (I 7) rfl)<|aD ?_
    cases H
    exact aJ e10_44 (res2 Try.results10 rfl rfl ⟨none,0,h12,rfl,st16,(SlR.none _)⟩)
  refine fa e10_41 (bY hc8) rfl<|aL e10_45<|aZ<|aA e10_46<|vv rfl (aQ .add .i64 (j3 : Int) 1 (I ((j3 + 1 : Nat) : Int)) 3 3 s51 rfl (dL hj1 (SlR.mono sp13.le R2).mx))<|vv rfl (aE (I ((j3 + 1 : Nat) : Int)) rfl)<|aD<|bI ?_
  exact ih.1 (j3 := (j3 + 1)) st16 s2 s8 s49 s50 rfl (SlR.mono sp13.le R2) (SlR.mono sp13.le R3) (SlR.mono sp13.le R4) (sp13.le _ _ g3) (SlR.mono sp13.le R5) M16 lb2 hd2 H
theorem SLl10_1_z : SLl10_1 0 := by
  unfold SLl10_1; intros; rename_i H; exact absurd H (by simp [l10_1])
theorem SLl10_1_s (k : Nat) (ih : ZSLl10_0 k) : SLl10_1 (k + 1) := by
 intro p0 aG aW bL a3 a4 a5 aH aX bM b1 b3 c3 c4 c5 j4 w0 w h0 h σ r4 l1 l2 i1 xs3 r st s2 s8 s13 s71 s72 s73 R9 R10 R11 g4 R12 O2 M6 lb3 R13 hd3 H
 cases xs3 with
 | nil =>
  rw [l10_1] at H
  have hk3 := cU hd3
  refine aB e10_54<|aA e10_55<|vv rfl (aQ .lss .i64 (j4 : Int) (r4.length : Int) (.bool (decide ((j4 : Int) < (r4.length : Int)))) 3 3 s73 s72 rfl)<|aD<|aB e10_56<|fa e10_57 hk3 rfl<|bO e10_59 rfl<|aB e10_70<|aT e10_71<|aB e10_72 ?_
  refine aA e10_73<|vv rfl (aE (I i1) s13)<|vv rfl (aQ .neq .i64 i1 0 (.bool (!decide (i1 = 0))) 35 35 rfl rfl rfl)<|vv rfl (aC (.bool (!decide (i1 = 0))) rfl)<|aD ?_
  rcases aM H with ⟨hc4,H⟩ | ⟨hc4,H⟩
  · refine fa e10_74 (bN (dT hc4)) rfl<|aB e10_78<|aA e10_79<|vv rfl (aF (b := b1) (o := 0) fl33_2 s2)<|vv rfl (bH [I p0.E.Op,I p0.E.N,.string p0.E.Name,.slice aW p0.E.Index.length aX,.slice bL p0.E.L.length bM] dX cP rfl rfl (bA (st.has _ _ g4) rfl)) ?_
    obtain ⟨r5,hr5,H⟩ := aK H
    refine aU [.agg #[I p0.E.Op,I p0.E.N,.string p0.E.Name,.slice aW p0.E.Index.length aX,.slice bL p0.E.L.length bM]] en30 rfl rfl rfl (F30 k (p0 := p0.E) st.has R10 R11 hr5) ?_
    rintro _ w9 ⟨h7,rfl,sp9⟩
    have M7 := M6.call0 sp9
    have O3 := O2.call0 sp9
    have st9 := st.call0 sp9
    refine vv rfl (dV r5 4 rfl)<|vv rfl (aC (.bool (!r5)) rfl)<|aD ?_
    rcases aM H with ⟨hc5,H⟩ | ⟨hc5,H⟩
    · refine fa e10_80 (bN hc5) rfl<|aL e10_84<|aZ<|aB e10_85<|aA e10_86<|vv rfl (aE (.pointer (some ⟨b3,0,none⟩)) s8)<|vv rfl (bJ ⟨b3,0,none⟩ rfl)<|vv rfl (aF (b := b3) (o := 0) fl72_1 rfl)<|vv rfl (aN (.slice a5 l2.length c5) sc34 rfl ((aR M7.get).trans rfl))<|vv rfl (aC (.slice a5 l2.length c5) rfl) ?_
      refine vv rfl (aC (I 0) rfl)<|aD ?_
      obtain ⟨h8,le3,st10,R14,kp1⟩ := O3.frz st9 (Nat.le_refl _)
      have M8 := M7.frB kp1 (O3.ne_mut M7 (by decide))
      cases H
      exact aJ e10_87 (res2 Try.results10 rfl rfl ⟨a5,c5,h8,rfl,st10,R14⟩)
    refine tr e10_80 (bQ (bY hc5)) rfl<|aB e10_81<|aA e10_82<|vv rfl (aC (.slice none 0 0) rfl)<|vv rfl (aC (I 5) rfl)<|aD ?_
    cases H
    exact aJ e10_83 (res2 Try.results10 rfl rfl ⟨none,0,h7,rfl,st9,(SlR.none _)⟩)
  refine tr e10_74 (bQ (dF hc4)) rfl<|aB e10_75<|aA e10_76<|vv rfl (aE (I i1) s13)<|vv rfl (aC (.slice none 0 0) rfl)<|vv rfl (aC (I i1) rfl)<|aD ?_
  cases H
  exact aJ e10_77 (res2 Try.results10 rfl rfl ⟨none,0,h,rfl,st,(SlR.none _)⟩)
 | cons x2 xs4 =>
  rw [l10_1] at H
  obtain ⟨hk4,hj2,hx2,hd4⟩ := cJ hd3
  refine aB e10_54<|aA e10_55<|vv rfl (aQ .lss .i64 (j4 : Int) (r4.length : Int) (.bool (decide ((j4 : Int) < (r4.length : Int)))) 3 3 s73 s72 rfl)<|aD<|aB e10_56<|tr e10_57 hk4 rfl<|aL e10_58<|aB e10_60<|aT e10_61<|aB e10_62 ?_
  refine aA e10_63 ?_
  obtain ⟨b4,o1,vs1,ea1,rp1,cl1⟩ := SlR.at R13 hx2
  obtain ⟨a6,c6,a7,c7,rfl,R15,R16⟩ := GNode.out rp1
  refine vv rfl (aY u29 cP s71 s73 ea1 (Int.natCast_nonneg _) (Int.ofNat_lt.2 hj2))<|vv rfl (bH [I x2.Op,I x2.N,.string x2.Name,.slice a6 x2.Index.length c6,.slice a7 x2.L.length c7] dX cP rfl rfl (cl1 _ (Has.le (Le.refl _) st.has)))<|cG (.agg #[I 0,I 0,.string ByteArray.empty,.slice none 0 0,.slice none 0 0]) zr31 rfl rfl (fun b5 w10 al5 => ?_)
  replace al5 : Al _ (.cells (List.toArray [I 0,I 0,.string ByteArray.empty,.slice none 0 0,.slice none 0 0]) 31 (0,0)) b5 w10 := al5
  have M9 := Mut.new st al5
  have lb4 := st.alB al5
  have sp10 := al5.st st.has
  have M10 := M6.call0 sp10
  have O4 := O2.call0 sp10
  have st11 := st.call0 sp10
  refine aV (o := 0) (n := 5) [I x2.Op,I x2.N,.string x2.Name,.slice a6 x2.Index.length c6,.slice a7 x2.L.length c7] [I x2.Op,I x2.N,.string x2.Name,.slice a6 x2.Index.length c6,.slice a7 x2.L.length c7] (.agg #[I x2.Op,I x2.N,.string x2.Name,.slice a6 x2.Index.length c6,.slice a7 x2.L.length c7]) cP rfl rfl rfl rfl M9 rfl rfl rfl rfl rfl (fun w11 wr1 M11 => ?_)
  have sp11 := wr1.st st11.has M9.none
  have M12 := M10.call sp11 (fun e => ((Mut.ne_ty M10 M9 (by decide)) e))
  have O5 := O4.call sp11 (fun x hx e => (absurd (e ▸ hx) (O4.ne_mut M9 (by decide))))
  have st12 := st11.call sp11 (fun x e => (.inl (e ▸ lb4)))
  obtain ⟨h9,le4,g5,st13,kp2⟩ := M11.fz st12 lb4
  have M13 := M12.fr kp2 (Mut.ne_ty M12 M11 (by decide))
  have O6 := O5.fr le4 kp2 (O5.ne_mut M11 (by decide))
  refine aD<|aB e10_64<|aA e10_65<|vv rfl (aE (I i1) s13)<|vv rfl (aQ .eql .i64 i1 0 (.bool (decide (i1 = 0))) 35 35 rfl rfl rfl)<|aD ?_
  obtain ⟨j6,hj6,H⟩ := dH H
  have Jj6 : ∀ {y1 : Int} {y2 : (List GDecl)} {y3 : (List GDim)} {a10 a11 : OA} {c10 c11 : Nat} {σ1 : Env} {w13 : World} {h11 : Sto},Le h9 h11 → St w0 noM h0 h11 w13 → σ1 2 = .pointer (some ⟨b1,0,none⟩) → σ1 8 = .pointer (some ⟨b3,0,none⟩) → σ1 13 = I y1 → σ1 71 = .slice a3 r4.length c3 → σ1 72 = I (r4.length : Int) → σ1 73 = I (j4 : Int) → SlR h11 a3 c3 r4 → SlR h11 a10 c10 y2 → Own 39 w0.heap.size h11 w13 a11 c11 y3 → Mut h11 w13 b3 (.cells (List.toArray [.slice a10 y2.length c10,.slice a11 y3.length c11]) 72 (0,0)) → j6 y1 y2 y3 = some r → Run X10 [.inBlock 3,.code c10_69,.inLoop c10_54,.inBlock 2,.code c10_70] σ1 w13 (.fn (Q10 w0 h0 r)) := by
   intro y1 y2 y3 a10 a11 c10 c11 σ1 w13 h11 le5 st15 s2_j6 s8_j6 s13_j6 s71_j6 s72_j6 s73_j6 R19 R20 O7 M15 H
   rw [hj6] at H
   refine aZ<|aA e10_69<|vv rfl (aQ .add .i64 (j4 : Int) 1 (I ((j4 + 1 : Nat) : Int)) 3 3 s73_j6 rfl (dL hj2 R19.mx))<|vv rfl (aE (I ((j4 + 1 : Nat) : Int)) rfl)<|aD<|bI ?_
   exact ih.2 (j4 := (j4 + 1)) st15 s2_j6 s8_j6 s13_j6 s71_j6 s72_j6 rfl (SlR.mono (le4.trans le5) R9) (SlR.mono (le4.trans le5) R10) (SlR.mono (le4.trans le5) R11) ((le4.trans le5) _ _ g4) R20 O7 M15 lb3 R19 hd4 H
  rcases aM H with ⟨hc6,H⟩ | ⟨hc6,H⟩
  · refine tr e10_66 (dT hc6) rfl<|aA e10_67<|vv rfl (aE (.pointer (some ⟨b3,0,none⟩)) s8)<|vv rfl (aF (b := b5) (o := 0) fl31_2 rfl)<|vv rfl (aN (.string x2.Name) sc9 rfl ((aR (st13.has _ _ g5)).trans rfl))<|vv rfl (aF (b := b5) (o := 0) fl31_3 rfl)<|vv rfl (aN (.slice a6 x2.Index.length c6) sc28 rfl ((aR (st13.has _ _ g5)).trans rfl)) ?_
    obtain ⟨r6,hr6,H⟩ := aK H
    refine aU [.pointer (some ⟨b3,0,none⟩),.string x2.Name,.slice a6 x2.Index.length c6] en29 rfl rfl rfl (F29 k st13.has (SlR.mono le4 R12) st13.sp.size O6 M13 (SlR.mono le4 R15) hr6) ?_
    rintro _ w12 ⟨a8,c8,a9,c9,h10,rfl,sp12,R17,R18,rl2,M14⟩
    have st14 := st13.call sp12 (fun x e => (e.elim (fun e => (.inl (e ▸ lb3))) (fun e => (.inl (O6.lbs x e)))))
    refine vv rfl (aC (I r6.1) rfl)<|aD ?_
    exact Jj6 sp12.le st14 s2 s8 rfl s71 s72 s73 (SlR.mono (le4.trans sp12.le) R13) R17 R18 M14 H
  refine fa e10_66 (dF hc6) rfl<|aL e10_68 ?_
  exact Jj6 (Le.refl _) st13 s2 s8 s13 s71 s72 s73 (SlR.mono le4 R13) (SlR.mono le4 R12) O6 M13 H
theorem ZSLl10_0_all : ∀ k,ZSLl10_0 k
  | 0 => ⟨SLl10_0_z,SLl10_1_z⟩
  | k + 1 => ⟨SLl10_0_s k (ZSLl10_0_all k),SLl10_1_s k (ZSLl10_0_all k)⟩
theorem Fl10_0 (k : Nat) : SLl10_0 k := (ZSLl10_0_all k).1
theorem F10 (k : Nat) : S10 k := by
 intro p0 aG aW bL cM aH aX bM cN p1 w0 h0 hh cB eR Rp0_E_L Rp1 r H
 unfold m10 at H
 refine aP (fn := Try.f10) Try.func10 rfl (Nat.le_of_ble_eq_true rfl) ?_
 show Run X10 [.code c10_0] (fun t => List.getD [.agg #[.string p0.Name,.slice aG p0.Index.length aH,I p0.E.Op,I p0.E.N,.string p0.E.Name,.slice aW p0.E.Index.length aX,.slice bL p0.E.L.length bM],.slice cM p1.length cN] t undef) w0 (.fn (Q10 w0 h0 r))
 have st0 := St.init hh noM
 refine aB e10_0<|aA e10_1<|dW (.agg #[.string p0.Name,.slice aG p0.Index.length aH,I p0.E.Op,I p0.E.N,.string p0.E.Name,.slice aW p0.E.Index.length aX,.slice bL p0.E.L.length bM]) rfl rfl rfl (fun b1 w1 al1 => ?_)
 replace al1 : Al _ (.cells (List.toArray [.string p0.Name,.slice aG p0.Index.length aH,I p0.E.Op,I p0.E.N,.string p0.E.Name,.slice aW p0.E.Index.length aX,.slice bL p0.E.L.length bM]) 33 (0,0)) b1 w1 := al1
 obtain ⟨h1,le1,g1,sp1⟩ := al1.fz st0.has
 have st1 := st0.call0 sp1
 refine vv rfl (aC (.slice none 0 0) rfl)<|vv rfl (aC (I 0) rfl)<|aD<|aB e10_2<|aB e10_3<|aA e10_4<|vv rfl (aE (.slice cM p1.length cN) rfl) ?_
 obtain ⟨r1,hr1,H⟩ := aK H
 refine aU [.slice cM p1.length cN] en15 rfl rfl rfl (F15 k st1.has (SlR.mono le1 Rp1) hr1) ?_
 rintro _ w2 ⟨h2,rfl,sp2⟩
 have st2 := st1.call0 sp2
 refine vv rfl (aE (.tuple #[I r1.1,I r1.2]) rfl)<|vv rfl (bS (I r1.1) rfl rfl)<|vv rfl (bS (I r1.2) rfl rfl)<|vv rfl (aC (I r1.1) rfl)<|vv rfl (aC (I r1.2) rfl)<|aD<|aB e10_5<|aA e10_6<|vv rfl (aE (I r1.2) rfl)<|vv rfl (aQ .neq .i64 r1.2 0 (.bool (!decide (r1.2 = 0))) 35 35 rfl rfl rfl) ?_
 refine vv rfl (aE (.bool (!decide (r1.2 = 0))) rfl) ?_
 rcases aM H with ⟨hc1,H⟩ | ⟨hc1,H⟩
 · refine bC (wt2 (bN (dT hc1)) rfl) rfl (bH [.string p0.Name,.slice aG p0.Index.length aH,I p0.E.Op,I p0.E.N,.string p0.E.Name,.slice aW p0.E.Index.length aX,.slice bL p0.E.L.length bM] ag33 sz33 rfl rfl (bA (st2.has _ _ (sp2.le _ _ g1)) rfl))<|cF [.string ByteArray.empty,.slice none 0 0,I 0,I 0,.string ByteArray.empty,.slice none 0 0,.slice none 0 0] [.string p0.Name,.slice aG p0.Index.length aH,I p0.E.Op,I p0.E.N,.string p0.E.Name,.slice aW p0.E.Index.length aX,.slice bL p0.E.L.length bM] [(0,.agg #[.string p0.Name,.slice aG p0.Index.length aH,I p0.E.Op,I p0.E.N,.string p0.E.Name,.slice aW p0.E.Index.length aX,.slice bL p0.E.L.length bM])] u23 sz33 zr33 (wt2 (bN (dT hc1)) rfl) rfl rfl rfl (by kernel_rfl) rfl (by kernel_rfl) (fun b2 w3 al2 => ?_)
   have li1 : Lits h2 [[.string p0.Name,.slice aG p0.Index.length aH,I p0.E.Op,I p0.E.N,.string p0.E.Name,.slice aW p0.E.Index.length aX,.slice bL p0.E.L.length bM]] ([p0] : List GStmt) := (Lits.cons (GStmt.into (h := h2) (x := p0) (SlR.mono (le1.trans sp2.le) cB) (SlR.mono (le1.trans sp2.le) eR) (SlR.mono (le1.trans sp2.le) Rp0_E_L)) Lits.nil)
   obtain ⟨h3,le2,g2,sp3⟩ := al2.fz st2.has
   have st3 := st2.call0 sp3
   have R1 : SlR _ _ _ ([p0] : List GStmt) := Lits.sl (n := 1) (Lits.mono le2 li1) rfl rfl (by decide) g2
   refine bC (wt2 (bN (dT hc1)) rfl) rfl (dJ (vs := [.slice none 0 0,.slice (some ⟨b2,0,none⟩) 1 1]) [(1,.slice (some ⟨b2,0,none⟩) 1 1)] bd25 rfl rfl) ?_
   obtain ⟨r2,hr2,H⟩ := aK H
   refine aU [.agg #[.slice none 0 0,.slice (some ⟨b2,0,none⟩) 1 1]] en26 (wt2 (bN (dT hc1)) rfl) rfl rfl (F26 k (p0 := (⟨[],([p0] : List GStmt)⟩ : GProg)) st3.has (SlR.none _) R1 hr2) ?_
   rintro _ w4 ⟨h4,rfl,sp4⟩
   have st4 := st3.call0 sp4
   refine bC (wt2 (bN (dT hc1)) rfl) rfl (aQ .neq .i64 r2 0 (.bool (!decide (r2 = 0))) 35 35 rfl rfl rfl)<|vv rfl (dE (.bool (!decide (r2 = 0))) (bN (dT hc1)) rfl rfl)<|aD ?_
   rcases aM H with ⟨hc2,H⟩ | ⟨hc2,H⟩
   · refine fa e10_7 (bN (dT hc2)) rfl<|aL e10_11<|aB e10_12<|aA e10_13<|vv rfl (aE (.slice cM p1.length cN) rfl)<|vv rfl (dJ (vs := [.slice cM p1.length cN,.slice none 0 0]) [(0,.slice cM p1.length cN)] bd72 rfl rfl)<|dW (.agg #[.slice cM p1.length cN,.slice none 0 0]) rfl rfl rfl (fun b3 w5 al3 => ?_)
     replace al3 : Al _ (.cells (List.toArray [.slice cM p1.length cN,.slice none 0 0]) 72 (0,0)) b3 w5 := al3
     have M1 := Mut.new st4 al3
     have lb1 := st4.alB al3
     have sp5 := al3.st st4.has
     have st5 := st4.call0 sp5
     refine vv rfl (aC (.pointer (some ⟨b3,0,none⟩)) rfl)<|aD<|aB e10_14<|aB e10_15 ?_
     refine dY [[(0,false),(1,false),(2,false),(3,false),(4,false),(5,false),(6,false),(7,false),(8,true),(9,false),(10,false),(11,false),(12,false),(13,false)]] [8] [0,1,2,3,4,5,6,7,8,9,10,11,12,13] [0,1,2,3,4,5,6,7,8,9,10,12,11,13] (fun w_ => Has h4 w_ ∧ w_.heap[b3]? = some (.cells (List.toArray [.slice cM p1.length cN,.slice none 0 0]) 72 (0,0)) ∧ True) e10_16 k10_16 m10_16 (fun w6 al4 => ?_)
     have sp6 := al4.st st5.has
     have M2 := M1.call0 sp6
     have st6 := st5.call0 sp6
     refine ⟨⟨Has.le (Le.refl _) st6.has,M2.get,trivial⟩,?_,trivial⟩
     refine bV rfl rfl (fun w_ ok_ => aE (.pointer (some ⟨b3,0,none⟩)) rfl)<|bV rfl rfl (fun w_ ok_ => bJ ⟨b3,0,none⟩ rfl)<|bV rfl rfl (fun w_ ok_ => aF (b := b3) (o := 0) fl72_0 rfl)<|bV rfl rfl (fun w_ ok_ => aN (.slice cM p1.length cN) sc70 rfl ((aR ok_.2.1).trans rfl))<|bV rfl rfl (fun w_ ok_ => aF (b := b1) (o := 0) fl33_0 rfl)<|bV rfl rfl (fun w_ ok_ => aN (.string p0.Name) sc9 rfl ((aR (ok_.1 _ _ ((sp2.le.trans (le2.trans sp4.le)) _ _ g1))).trans rfl))<|bV rfl rfl (fun w_ ok_ => aF (b := b1) (o := 0) fl33_1 rfl)<|bV rfl rfl (fun w_ ok_ => aN (.slice aG p0.Index.length aH) sc28 rfl ((aR (ok_.1 _ _ ((sp2.le.trans (le2.trans sp4.le)) _ _ g1))).trans rfl)) ?_
     obtain ⟨bT,hrd1_8_2,H⟩ := aK H
     refine dr_c rfl (od_call [.slice cM p1.length cN,.string p0.Name,.slice aG p0.Index.length aH] en27 rfl rfl (F27 k st6.has (SlR.mono (le1.trans (sp2.le.trans (le2.trans sp4.le))) Rp1) (SlR.mono (le1.trans (sp2.le.trans (le2.trans sp4.le))) cB) hrd1_8_2) ?_)
     rintro _ wd1_8_3 ⟨fJ,fK,hd1_8_4,rfl,cQ,Rd1_8_8⟩
     have Md1_8_9 := M2.call0 cQ
     have std1_8_10 := st6.call0 cQ
     refine ⟨.inr ⟨Has.le cQ.le std1_8_10.has,Md1_8_9.get,trivial⟩,?_⟩
     refine bV rfl rfl (fun w_ ok_ => aE (.tuple #[.slice fJ bT.1.length fK,I bT.2]) rfl)<|bV rfl rfl (fun w_ ok_ => bS (.slice fJ bT.1.length fK) rfl rfl)<|bV rfl rfl (fun w_ ok_ => bS (I bT.2) rfl rfl)<|bV rfl rfl (fun w_ ok_ => aC (.slice fJ bT.1.length fK) rfl)<|bV rfl rfl (fun w_ ok_ => aC (I bT.2) rfl)<|eL<|aB e10_17<|aA e10_18<|vv rfl (aE (I bT.2) rfl)<|vv rfl (aQ .neq .i64 bT.2 0 (.bool (!decide (bT.2 = 0))) 35 35 rfl rfl rfl) ?_
     refine aD ?_
     rcases aM H with ⟨hc3,H⟩ | ⟨hc3,H⟩
     · refine fa e10_19 (bN (dT hc3)) rfl<|aL e10_23<|aB e10_24<|aB e10_25<|aA e10_26<|vv rfl (aF (b := b1) (o := 0) fl33_1 rfl)<|vv rfl (aN (.slice aG p0.Index.length aH) sc28 rfl ((aR (std1_8_10.has _ _ ((sp2.le.trans (le2.trans (sp4.le.trans cQ.le))) _ _ g1))).trans rfl))<|vv rfl (bK u28 rfl)<|vv rfl (aE (I 0) rfl)<|aD ?_
       refine aT e10_27<|bZ e10_28 ?_
       exact Fl10_0 k (j3 := 0) std1_8_10 rfl rfl rfl rfl rfl (SlR.mono (le1.trans (sp2.le.trans (le2.trans (sp4.le.trans cQ.le)))) cB) (SlR.mono (le1.trans (sp2.le.trans (le2.trans (sp4.le.trans cQ.le)))) eR) (SlR.mono (le1.trans (sp2.le.trans (le2.trans (sp4.le.trans cQ.le)))) Rp0_E_L) ((sp2.le.trans (le2.trans (sp4.le.trans cQ.le))) _ _ g1) (SlR.mono (le1.trans (sp2.le.trans (le2.trans (sp4.le.trans cQ.le)))) Rp1) Md1_8_9 lb1 rfl H
     refine tr e10_19 (bQ (dF hc3)) rfl<|aB e10_20<|aA e10_21<|vv rfl (aE (I bT.2) rfl)<|vv rfl (aC (.slice none 0 0) rfl)<|vv rfl (aC (I bT.2) rfl)<|aD ?_
     cases H
     exact aJ e10_22 (res2 Try.results10 rfl rfl ⟨none,0,hd1_8_4,rfl,std1_8_10,(SlR.none _)⟩)
   refine tr e10_7 (bQ (dF hc2)) rfl<|aB e10_8<|aA e10_9<|vv rfl (aC (.slice none 0 0) rfl)<|vv rfl (aC (I 1) rfl)<|aD ?_
   cases H
   exact aJ e10_10 (res2 Try.results10 rfl rfl ⟨none,0,h4,rfl,st4,(SlR.none _)⟩)
 refine aO (wf2 (bQ (dF hc1)) rfl) rfl<|aO (wf2 (bQ (dF hc1)) rfl) rfl<|aO (wf2 (bQ (dF hc1)) rfl) rfl<|aO (wf2 (bQ (dF hc1)) rfl) rfl<|aO (wf2 (bQ (dF hc1)) rfl) rfl<|vv rfl (dD (.bool true) (bQ (dF hc1)) rfl rfl)<|aD<|cZ e10_7 (p := true) rfl rfl<|aB e10_8<|aA e10_9 ?_
 refine vv rfl (aC (.slice none 0 0) rfl)<|vv rfl (aC (I 1) rfl)<|aD ?_
 cases H
 exact aJ e10_10 (res2 Try.results10 rfl rfl ⟨none,0,h2,rfl,st2,(SlR.none _)⟩)
abbrev ZSLl14_0 (k : Nat) : Prop := SLl14_0 k
theorem SLl14_0_z : SLl14_0 0 := by
  unfold SLl14_0; intros; rename_i H; exact absurd H (by simp [l14_0])
theorem SLl14_0_s (k : Nat) (ih : ZSLl14_0 k) : SLl14_0 (k + 1) := by
 intro p0 cW cR cX cS b1 j3 w0 w h0 h σ i1 xs1 r st s1 s5 s27 s28 s29 R1 R2 g2 hd1 H
 cases xs1 with
 | nil =>
  rw [l14_0] at H
  have hk1 := cU hd1
  refine aB e14_27<|aA e14_28<|vv rfl (aQ .lss .i64 (j3 : Int) (p0.S.length : Int) (.bool (decide ((j3 : Int) < (p0.S.length : Int)))) 3 3 s29 s28 rfl)<|aD<|aB e14_29<|fa e14_30 hk1 rfl<|bO e14_32 rfl<|aB e14_49<|aA e14_50<|vv rfl (aE (I i1) s5) ?_
  refine vv rfl (aC (I i1) rfl)<|vv rfl (aC (I 0) rfl)<|aD ?_
  cases H
  exact aJ e14_51 (res2 Try.results14 rfl rfl ⟨h,rfl,st⟩)
 | cons x1 xs2 =>
  rw [l14_0] at H
  obtain ⟨hk2,hj1,hx1,hd2⟩ := cJ hd1
  refine aB e14_27<|aA e14_28<|vv rfl (aQ .lss .i64 (j3 : Int) (p0.S.length : Int) (.bool (decide ((j3 : Int) < (p0.S.length : Int)))) 3 3 s29 s28 rfl)<|aD<|aB e14_29<|tr e14_30 hk2 rfl<|aL e14_31<|aB e14_33<|aT e14_34<|aB e14_35 ?_
  refine aA e14_36 ?_
  obtain ⟨b2,o1,vs1,ea1,rp1,cl1⟩ := SlR.at R2 hx1
  obtain ⟨a1,c1,a2,c2,a3,c3,rfl,R3,R4,R5⟩ := GStmt.out rp1
  refine vv rfl (aY u23 sz33 s27 s29 ea1 (Int.natCast_nonneg _) (Int.ofNat_lt.2 hj1))<|vv rfl (bH [.string x1.Name,.slice a1 x1.Index.length c1,I x1.E.Op,I x1.E.N,.string x1.E.Name,.slice a2 x1.E.Index.length c2,.slice a3 x1.E.L.length c3] ag33 sz33 rfl rfl (cl1 _ (Has.le (Le.refl _) st.has)))<|cG (.agg #[.string ByteArray.empty,.slice none 0 0,I 0,I 0,.string ByteArray.empty,.slice none 0 0,.slice none 0 0]) zr33 rfl rfl (fun b3 w4 al2 => ?_)
  replace al2 : Al _ (.cells (List.toArray [.string ByteArray.empty,.slice none 0 0,I 0,I 0,.string ByteArray.empty,.slice none 0 0,.slice none 0 0]) 33 (0,0)) b3 w4 := al2
  have M1 := Mut.new st al2
  have lb1 := st.alB al2
  have sp4 := al2.st st.has
  have st4 := st.call0 sp4
  refine aV (o := 0) (n := 7) [.string x1.Name,.slice a1 x1.Index.length c1,I x1.E.Op,I x1.E.N,.string x1.E.Name,.slice a2 x1.E.Index.length c2,.slice a3 x1.E.L.length c3] [.string x1.Name,.slice a1 x1.Index.length c1,I x1.E.Op,I x1.E.N,.string x1.E.Name,.slice a2 x1.E.Index.length c2,.slice a3 x1.E.L.length c3] (.agg #[.string x1.Name,.slice a1 x1.Index.length c1,I x1.E.Op,I x1.E.N,.string x1.E.Name,.slice a2 x1.E.Index.length c2,.slice a3 x1.E.L.length c3]) sz33 rfl rfl rfl rfl M1 rfl rfl rfl rfl rfl (fun w5 wr1 M2 => ?_)
  have sp5 := wr1.st st4.has M1.none
  have st5 := st4.call sp5 (fun x e => (.inl (e ▸ lb1)))
  obtain ⟨h4,le2,g3,st6,kp1⟩ := M2.fz st5 lb1
  refine aD<|aB e14_37<|aB e14_38<|aA e14_39<|vv rfl (bH [.string x1.Name,.slice a1 x1.Index.length c1,I x1.E.Op,I x1.E.N,.string x1.E.Name,.slice a2 x1.E.Index.length c2,.slice a3 x1.E.L.length c3] ag33 sz33 rfl rfl (bA (st6.has _ _ g3) rfl))<|vv rfl (aF (b := b1) (o := 0) fl25_0 s1)<|vv rfl (aN (.slice cW p0.D.length cX) sc22 rfl ((aR (st6.has _ _ (le2 _ _ g2))).trans rfl)) ?_
  obtain ⟨r3,hr3,H⟩ := aK H
  refine aU [.agg #[.string x1.Name,.slice a1 x1.Index.length c1,I x1.E.Op,I x1.E.N,.string x1.E.Name,.slice a2 x1.E.Index.length c2,.slice a3 x1.E.L.length c3],.slice cW p0.D.length cX] en10 rfl rfl rfl (F10 k (p0 := x1) st6.has (SlR.mono le2 R3) (SlR.mono le2 R4) (SlR.mono le2 R5) (SlR.mono le2 R1) hr3) ?_
  rintro _ w6 ⟨a4,c4,h5,rfl,sp6,R6⟩
  have st7 := st6.call0 sp6
  refine vv rfl (aE (.tuple #[.slice a4 r3.1.length c4,I r3.2]) rfl)<|vv rfl (bS (.slice a4 r3.1.length c4) rfl rfl)<|vv rfl (bS (I r3.2) rfl rfl)<|vv rfl (aC (.slice a4 r3.1.length c4) rfl)<|vv rfl (aC (I r3.2) rfl)<|aD<|aB e14_40<|aA e14_41<|vv rfl (aE (I r3.2) rfl)<|vv rfl (aQ .neq .i64 r3.2 0 (.bool (!decide (r3.2 = 0))) 35 35 rfl rfl rfl) ?_
  refine aD ?_
  rcases aM H with ⟨hc3,H⟩ | ⟨hc3,H⟩
  · refine fa e14_42 (bN (dT hc3)) rfl<|aL e14_46<|aA e14_47<|vv rfl (aE (I i1) s5)<|vv rfl (aQ .add .i64 i1 1 (I (wr (i1 + 1))) 3 3 rfl rfl rfl)<|vv rfl (aC (I (wr (i1 + 1))) rfl)<|aD<|aZ<|aA e14_48<|vv rfl (aQ .add .i64 (j3 : Int) 1 (I ((j3 + 1 : Nat) : Int)) 3 3 s29 rfl (dL hj1 (SlR.mono (le2.trans sp6.le) R2).mx)) ?_
    refine vv rfl (aE (I ((j3 + 1 : Nat) : Int)) rfl)<|aD<|bI ?_
    exact ih (j3 := (j3 + 1)) st7 s1 rfl s27 s28 rfl (SlR.mono (le2.trans sp6.le) R1) (SlR.mono (le2.trans sp6.le) R2) ((le2.trans sp6.le) _ _ g2) hd2 H
  refine tr e14_42 (bQ (dF hc3)) rfl<|aB e14_43<|aA e14_44<|vv rfl (aE (I i1) s5)<|vv rfl (aE (I r3.2) rfl)<|vv rfl (aC (I i1) rfl)<|vv rfl (aC (I r3.2) rfl)<|aD ?_
  cases H
  exact aJ e14_45 (res2 Try.results14 rfl rfl ⟨h5,rfl,st7⟩)
theorem ZSLl14_0_all : ∀ k,ZSLl14_0 k
  | 0 => SLl14_0_z
  | k + 1 => SLl14_0_s k (ZSLl14_0_all k)
theorem Fl14_0 (k : Nat) : SLl14_0 k := (ZSLl14_0_all k)
theorem F14 (k : Nat) : S14 k := by
 intro p0 cW cR cX cS w0 h0 hh Rp0_D Rp0_S r H
 unfold m14 at H
 refine aP (fn := Try.f14) Try.func14 rfl (Nat.le_of_ble_eq_true rfl) ?_
 show Run X14 [.code c14_0] (fun t => List.getD [.agg #[.slice cW p0.D.length cX,.slice cR p0.S.length cS]] t undef) w0 (.fn (Q14 w0 h0 r))
 have st0 := St.init hh noM
 refine aB e14_0<|aA e14_1<|dW (.agg #[.slice cW p0.D.length cX,.slice cR p0.S.length cS]) rfl rfl rfl (fun b1 w1 al1 => ?_)
 replace al1 : Al _ (.cells (List.toArray [.slice cW p0.D.length cX,.slice cR p0.S.length cS]) 25 (0,0)) b1 w1 := al1
 obtain ⟨h1,le1,g1,sp1⟩ := al1.fz st0.has
 have st1 := st0.call0 sp1
 refine vv rfl (aC (I 0) rfl)<|vv rfl (aC (I 0) rfl)<|aD<|aB e14_2<|aB e14_3<|aA e14_4<|vv rfl (bH [.slice cW p0.D.length cX,.slice cR p0.S.length cS] ag25 sz25 rfl rfl (bA (st1.has _ _ g1) rfl)) ?_
 obtain ⟨r1,hr1,H⟩ := aK H
 refine aU [.agg #[.slice cW p0.D.length cX,.slice cR p0.S.length cS]] en26 rfl rfl rfl (F26 k (p0 := p0) st1.has (SlR.mono le1 Rp0_D) (SlR.mono le1 Rp0_S) hr1) ?_
 rintro _ w2 ⟨h2,rfl,sp2⟩
 have st2 := st1.call0 sp2
 refine vv rfl (aC (I r1) rfl)<|aD<|aB e14_5<|aA e14_6<|vv rfl (aE (I r1) rfl)<|vv rfl (aQ .neq .i64 r1 0 (.bool (!decide (r1 = 0))) 35 35 rfl rfl rfl)<|aD ?_
 rcases aM H with ⟨hc1,H⟩ | ⟨hc1,H⟩
 · refine fa e14_7 (bN (dT hc1)) rfl<|aL e14_11<|aB e14_12<|aA e14_13<|vv rfl (aF (b := b1) (o := 0) fl25_0 rfl)<|vv rfl (aN (.slice cW p0.D.length cX) sc22 rfl ((aR (st2.has _ _ (sp2.le _ _ g1))).trans rfl)) ?_
   obtain ⟨r2,hr2,H⟩ := aK H
   refine aU [.slice cW p0.D.length cX] en15 rfl rfl rfl (F15 k st2.has (SlR.mono (le1.trans sp2.le) Rp0_D) hr2) ?_
   rintro _ w3 ⟨h3,rfl,sp3⟩
   have st3 := st2.call0 sp3
   refine vv rfl (aE (.tuple #[I r2.1,I r2.2]) rfl)<|vv rfl (bS (I r2.1) rfl rfl)<|vv rfl (bS (I r2.2) rfl rfl)<|vv rfl (aC (I r2.1) rfl)<|vv rfl (aC (I r2.2) rfl)<|aD<|aB e14_14<|aB e14_15<|aA e14_16<|vv rfl (aE (I r2.2) rfl) ?_
   refine vv rfl (aQ .neq .i64 r2.2 0 (.bool (!decide (r2.2 = 0))) 35 35 rfl rfl rfl)<|aD ?_
   rcases aM H with ⟨hc2,H⟩ | ⟨hc2,H⟩
   · refine fa e14_17 (bN (dT hc2)) rfl<|aL e14_21<|aB e14_22<|aB e14_23<|aA e14_24<|vv rfl (aF (b := b1) (o := 0) fl25_1 rfl)<|vv rfl (aN (.slice cR p0.S.length cS) sc23 rfl ((aR (st3.has _ _ ((sp2.le.trans sp3.le) _ _ g1))).trans rfl))<|vv rfl (bK u23 rfl)<|vv rfl (aE (I 0) rfl)<|aD ?_
     refine aT e14_25<|bZ e14_26 ?_
     exact Fl14_0 k (j3 := 0) st3 rfl rfl rfl rfl rfl (SlR.mono (le1.trans (sp2.le.trans sp3.le)) Rp0_D) (SlR.mono (le1.trans (sp2.le.trans sp3.le)) Rp0_S) ((sp2.le.trans sp3.le) _ _ g1) rfl H
   refine tr e14_17 (bQ (dF hc2)) rfl<|aB e14_18<|aA e14_19<|vv rfl (aE (I r2.1) rfl)<|vv rfl (aE (I r2.2) rfl)<|vv rfl (aC (I r2.1) rfl)<|vv rfl (aC (I r2.2) rfl)<|aD ?_
   cases H
   exact aJ e14_20 (res2 Try.results14 rfl rfl ⟨h3,rfl,st3⟩)
 refine tr e14_7 (bQ (dF hc1)) rfl<|aB e14_8<|aA e14_9<|vv rfl (aE (I r1) rfl)<|vv rfl (aC (I 0) rfl)<|vv rfl (aC (I r1) rfl)<|aD ?_
 cases H
 exact aJ e14_10 (res2 Try.results14 rfl rfl ⟨h2,rfl,st2⟩)
abbrev ZSLl87_0 (k : Nat) : Prop := SLl87_0 k
theorem SLl87_0_z : SLl87_0 0 := by
  unfold SLl87_0; intros; rename_i H; exact absurd H (by simp [l87_0])
theorem SLl87_0_s (k : Nat) (ih : ZSLl87_0 k) : SLl87_0 (k + 1) := by
 intro p0 w0 w h0 h σ i1 i2 r st s0 s2 s23 s24 H
 rw [l87_0] at H
 refine aB e87_15<|aA e87_16<|vv rfl (aQ .lss .i64 i2 (p0.size : Int) (.bool (decide (i2 < (p0.size : Int)))) 3 3 s24 s23 rfl)<|aD<|aB e87_17 ?_
 rcases aM H with ⟨hc5,H⟩ | ⟨hc5,H⟩
 · refine tr e87_18 (dT hc5) rfl<|aL e87_19<|aB e87_21<|aT e87_22<|aB e87_23<|aA e87_24<|vv rfl (aE (I i2) s24)<|vv rfl (aC (I i2) rfl)<|aD<|aB e87_25 ?_
   refine aB e87_26<|aA e87_27<|vv rfl (aE (.string p0) s0)<|vv rfl (aE (I i2) rfl) ?_
   obtain ⟨hi2,H⟩ := cC H
   refine vv rfl (fQ u9 rfl rfl hi2.1 hi2.2) ?_
   obtain ⟨r1,hr1,H⟩ := aK H
   refine aU [.int .u8 (bt p0 i2)] en62 rfl rfl rfl (F62 st.has hr1) ?_
   rintro _ w2 ⟨h2,rfl,sp1⟩
   have st2 := st.call0 sp1
   refine vv rfl (aQ .neq .i64 r1 2 (.bool (!decide (r1 = 2))) 3 3 rfl rfl rfl)<|aD ?_
   rcases aM H with ⟨hc6,H⟩ | ⟨hc6,H⟩
   · refine fa e87_28 (bN (dT hc6)) rfl<|aL e87_32<|aA e87_33<|vv rfl (aE (I i1) s2)<|vv rfl (aQ .mul .i64 (10 : Int) i1 (I (wr ((10 : Int) * i1))) 2 2 rfl rfl rfl)<|vv rfl (aE (.string p0) s0)<|vv rfl (aE (I i2) rfl) ?_
     obtain ⟨hi3,H⟩ := cC H
     refine vv rfl (fQ u9 rfl rfl hi3.1 hi3.2)<|vv rfl (aQ .sub .u8 (bt p0 i2) 48 (.int .u8 (wru8 ((bt p0 i2) - 48))) 5 5 rfl rfl rfl)<|vv rfl (x_conv .u8 .i64 (wru8 ((bt p0 i2) - 48)) u2 u5 rfl)<|vv rfl (aQ .add .i64 (wr ((10 : Int) * i1)) (wr (wru8 ((bt p0 i2) - 48))) (I (wr ((wr ((10 : Int) * i1)) + (wr (wru8 ((bt p0 i2) - 48)))))) 2 2 rfl rfl rfl)<|vv rfl (aC (I (wr ((wr ((10 : Int) * i1)) + (wr (wru8 ((bt p0 i2) - 48)))))) rfl)<|aD<|aZ<|aA e87_34<|vv rfl (aQ .add .i64 i2 1 (I (wr (i2 + 1))) 3 3 s24 rfl rfl)<|vv rfl (aE (I (wr (i2 + 1))) rfl) ?_
     refine aD<|bI ?_
     exact ih st2 s0 rfl s23 rfl H
   refine tr e87_28 (bQ (dF hc6)) rfl<|aB e87_29<|aA e87_30<|vv rfl (aC (I 0) rfl)<|vv rfl (aC (.bool false) rfl)<|aD ?_
   cases H
   exact aJ e87_31 (res2 Try.results87 rfl rfl ⟨h2,rfl,st2⟩)
 refine fa e87_18 (dF hc5) rfl<|bO e87_20 rfl<|aB e87_35<|aA e87_36<|vv rfl (aE (I i1) s2)<|vv rfl (aC (I i1) rfl)<|vv rfl (aC (.bool true) rfl)<|aD ?_
 cases H
 exact aJ e87_37 (res2 Try.results87 rfl rfl ⟨h,rfl,st⟩)
theorem ZSLl87_0_all : ∀ k,ZSLl87_0 k
  | 0 => SLl87_0_z
  | k + 1 => SLl87_0_s k (ZSLl87_0_all k)
theorem Fl87_0 (k : Nat) : SLl87_0 k := (ZSLl87_0_all k)
theorem F87 (k : Nat) : S87 k := by
 intro p0 w0 h0 hh r H
 unfold m87 at H
 refine aP (fn := Try.f87) Try.func87 rfl (Nat.le_of_ble_eq_true rfl) ?_
 show Run X87 [.code c87_0] (fun t => List.getD [.string p0] t undef) w0 (.fn (Q87 w0 h0 r))
 have st0 := St.init hh noM
 refine aB e87_0<|aA e87_1<|vv rfl (aC (I 0) rfl)<|vv rfl (aC (.bool false) rfl)<|aD<|aB e87_2<|aB e87_3<|aA e87_4 ?_
 obtain ⟨j1,hj1,H⟩ := dH H
 have Jj1 : ∀  {σ1 : Env} {w1 : World} {h1 : Sto},Le h0 h1 → St w0 noM h0 h1 w1 → σ1 0 = .string p0 → σ1 2 = I 0 → j1 () = some r → Run X87 [.code c87_10] σ1 w1 (.fn (Q87 w0 h0 r)) := by
  intro σ1 w1 h1 le1 st1 s0_j1 s2_j1 H
  rw [hj1] at H
  refine aB e87_10<|aB e87_11<|aA e87_12<|vv rfl (aE (.string p0) s0_j1)<|vv rfl (eA u9 rfl)<|vv rfl (aE (I 0) rfl)<|aD<|aT e87_13<|bZ e87_14 ?_
  exact Fl87_0 k st1 s0_j1 s2_j1 rfl rfl H
 refine vv rfl (aE (.string p0) rfl)<|vv rfl (x_strEq p0 ByteArray.empty 9 9 rfl rfl)<|vv rfl (aE (.bool (decide (p0 = ByteArray.empty))) rfl) ?_
 rcases aM H with ⟨hc1,H⟩ | ⟨hc1,H⟩
 · refine aO (wf2 (dT hc1) rfl) rfl<|aO (wf2 (dT hc1) rfl) rfl<|aO (wf2 (dT hc1) rfl) rfl<|vv rfl (dD (.bool true) (dT hc1) rfl rfl)<|vv rfl (aE (.bool true) rfl)<|aO (wf (p := true) rfl rfl) rfl<|aO (wf (p := true) rfl rfl) rfl<|aO (wf (p := true) rfl rfl) rfl<|aO (wf (p := true) rfl rfl) rfl<|aO (wu rfl) rfl ?_
   refine aO (wu rfl) rfl<|aO (wu rfl) rfl<|aO (wf (p := true) rfl rfl) rfl<|vv rfl (x_pickT (.bool true) (p := true) rfl rfl rfl)<|aD<|cZ e87_5 (p := true) rfl rfl<|aB e87_6<|aA e87_7<|vv rfl (aC (I 0) rfl)<|vv rfl (aC (.bool false) rfl) ?_
   refine aD ?_
   cases H
   exact aJ e87_8 (res2 Try.results87 rfl rfl ⟨h0,rfl,st0⟩)
 refine bC (wt2 (dF hc1) rfl) rfl (aE (.string p0) rfl)<|bC (wt2 (dF hc1) rfl) rfl (eA u9 rfl)<|bC (wt2 (dF hc1) rfl) rfl (aQ .gtr .i64 (p0.size : Int) 18 (.bool (decide (18 < (p0.size : Int)))) 3 3 rfl rfl rfl)<|vv rfl (dE (.bool (decide (18 < (p0.size : Int)))) (dF hc1) rfl rfl)<|vv rfl (aE (.bool (decide (18 < (p0.size : Int)))) rfl) ?_
 rcases aM H with ⟨hc2,H⟩ | ⟨hc2,H⟩
 · refine aO (wf2 (dT hc2) rfl) rfl<|aO (wf2 (dT hc2) rfl) rfl<|aO (wf2 (dT hc2) rfl) rfl<|aO (wf2 (dT hc2) rfl) rfl<|aO (wu rfl) rfl<|aO (wu rfl) rfl<|aO (wu rfl) rfl<|aO (wf2 (dT hc2) rfl) rfl<|vv rfl (dD (.bool true) (dT hc2) rfl rfl)<|aD ?_
   refine cZ e87_5 (p := true) rfl rfl<|aB e87_6<|aA e87_7<|vv rfl (aC (I 0) rfl)<|vv rfl (aC (.bool false) rfl)<|aD ?_
   cases H
   exact aJ e87_8 (res2 Try.results87 rfl rfl ⟨h0,rfl,st0⟩)
 refine bC (wt2 (dF hc2) rfl) rfl (aE (.string p0) rfl)<|bC (wt2 (dF hc2) rfl) rfl (eA u9 rfl)<|bC (wt2 (dF hc2) rfl) rfl (aQ .gtr .i64 (p0.size : Int) 1 (.bool (decide (1 < (p0.size : Int)))) 3 3 rfl rfl rfl)<|bC (wt2 (dF hc2) rfl) rfl (aE (.bool (decide (1 < (p0.size : Int)))) rfl) ?_
 rcases aM H with ⟨hc3,H⟩ | ⟨hc3,H⟩
 · refine bC (wt2 (dT hc3) rfl) rfl (aE (.string p0) rfl) ?_
   obtain ⟨hi1,H⟩ := cC H
   refine bC (wt2 (dT hc3) rfl) rfl (fQ u9 rfl rfl hi1.1 hi1.2)<|bC (wt2 (dT hc3) rfl) rfl (aQ .eql .u8 (bt p0 0) 48 (.bool (decide ((bt p0 0) = 48))) 5 5 rfl rfl rfl)<|bC (wt2 (dF hc2) rfl) rfl (dD (.bool (decide ((bt p0 0) = 48))) (dT hc3) rfl rfl)<|vv rfl (dE (.bool (decide ((bt p0 0) = 48))) (dF hc2) rfl rfl)<|aD ?_
   rcases aM H with ⟨hc4,H⟩ | ⟨hc4,H⟩
   · refine tr e87_5 (dT hc4) rfl<|aB e87_6<|aA e87_7<|vv rfl (aC (I 0) rfl)<|vv rfl (aC (.bool false) rfl)<|aD ?_
     cases H
     exact aJ e87_8 (res2 Try.results87 rfl rfl ⟨h0,rfl,st0⟩)
   refine fa e87_5 (dF hc4) rfl<|aL e87_9 ?_
   exact Jj1 (Le.refl _) st0 rfl rfl H
 refine aO (wf2 (dF hc3) rfl) rfl<|aO (wf2 (dF hc3) rfl) rfl<|aO (wf2 (dF hc3) rfl) rfl<|bC (wt2 (dF hc2) rfl) rfl (dE (.bool false) (dF hc3) rfl rfl)<|vv rfl (dE (.bool false) (dF hc2) rfl rfl)<|aD<|dK e87_5 (p := false) rfl rfl<|aL e87_9 ?_
 exact Jj1 (Le.refl _) st0 rfl rfl H
theorem F65 (k : Nat) : S65 k := by
 intro p0 w0 h0 hh r H
 unfold m65 at H
 refine aP (fn := Try.f65) Try.func65 rfl (Nat.le_of_ble_eq_true rfl) ?_
 show Run X65 [.code c65_0] (fun t => List.getD [.string p0] t undef) w0 (.fn (Q65 w0 h0 r))
 have st0 := St.init hh noM
 refine aB e65_0<|aA e65_1<|cG (.agg #[I 0,.string ByteArray.empty,I 0]) zr118 rfl rfl (fun b1 w1 al1 => ?_)
 replace al1 : Al _ (.cells (List.toArray [I 0,.string ByteArray.empty,I 0]) 118 (0,0)) b1 w1 := al1
 have M1 := Mut.new st0 al1
 have lb1 := st0.alB al1
 have sp1 := al1.st st0.has
 have st1 := st0.call0 sp1
 refine vv rfl (aC (.bool false) rfl)<|aD<|aB e65_2<|aA e65_3<|vv rfl (aE (.string p0) rfl)<|vv rfl (aF (b := b1) (o := 0) fl118_1 rfl)<|aV (o := 1) (n := 1) [.string p0] [I 0,.string p0,I 0] (.string p0) sz9 rfl rfl rfl rfl M1 rfl rfl rfl rfl rfl (fun w2 wr1 M2 => ?_)
 have sp2 := wr1.st st1.has M1.none
 have st2 := st1.call sp2 (fun x e => (.inl (e ▸ lb1)))
 refine aD<|aB e65_4<|aT e65_5<|aB e65_6<|aA e65_7<|vv rfl (aE (.string p0) rfl) ?_
 obtain ⟨r1,hr1,H⟩ := aK H
 refine aU [.string p0] en48 rfl rfl rfl (F48 k st2.has hr1) ?_
 rintro _ w3 ⟨h1,rfl,sp3⟩
 have M3 := M2.call0 sp3
 have st3 := st2.call0 sp3
 refine vv rfl (aC (.bool r1) rfl)<|aD ?_
 obtain ⟨j1,hj1,H⟩ := dH H
 have Jj1 : ∀ {y1 : Int} {σ1 : Env} {w15 : World} {h5 : Sto},Le h1 h5 → St w0 noM h0 h5 w15 → σ1 2 = .pointer (some ⟨b1,0,none⟩) → Mut h5 w15 b1 (.cells (List.toArray [I y1,.string p0,I 0]) 118 (0,0)) → j1 y1 = some r → Run X65 [.inBlock 0,.code c65_21] σ1 w15 (.fn (Q65 w0 h0 r)) := by
  intro y1 σ1 w15 h5 le1 st15 s2_j1 M15 H
  rw [hj1] at H
  refine aZ<|aB e65_21<|aA e65_22<|vv rfl (bH [I y1,.string p0,I 0] ag118 eG s2_j1 rfl (bA M15.get rfl))<|aV (o := 0) (n := 3) [I y1,.string p0,I 0] [I y1,.string p0,I 0] (.agg #[I y1,.string p0,I 0]) eG rfl rfl s2_j1 rfl M15 rfl rfl rfl rfl rfl (fun w16 wr10 M16 => ?_)
  have sp15 := wr10.st st15.has M15.none
  have st16 := st15.call sp15 (fun x e => (.inl (e ▸ lb1)))
  refine vv rfl (aC (.bool true) rfl)<|aD ?_
  cases H
  exact aJ e65_23 (res2 Try.results65 (eH [I y1,.string p0,I 0] ag118 eG s2_j1 rfl (bA M16.get rfl)) rfl ⟨h5,rfl,st16⟩)
 rcases aM H with ⟨hc1,H⟩ | ⟨hc1,H⟩
 · refine tr e65_8 hc1 rfl<|aA e65_9<|vv rfl (aF (b := b1) (o := 0) fl118_0 rfl)<|aV (o := 0) (n := 1) [I 1] [I 1,.string p0,I 0] (I 1) sz3 rfl rfl rfl rfl M3 rfl rfl rfl rfl rfl (fun w4 wr2 M4 => ?_)
   have sp4 := wr2.st st3.has M3.none
   have st4 := st3.call sp4 (fun x e => (.inl (e ▸ lb1)))
   refine aD ?_
   exact Jj1 (Le.refl _) st4 rfl M4 H
 refine fa e65_8 (bY hc1) rfl<|aB e65_10<|aA e65_11<|vv rfl (aE (.string p0) rfl)<|vv rfl (eA u9 rfl)<|vv rfl (aQ .eql .i64 (p0.size : Int) 1 (.bool (decide ((p0.size : Int) = 1))) 3 3 rfl rfl rfl)<|vv rfl (aE (.bool (decide ((p0.size : Int) = 1))) rfl) ?_
 rcases aM H with ⟨hc2,H⟩ | ⟨hc2,H⟩
 · refine bC (wt2 (dT hc2) rfl) rfl (aE (.string p0) rfl) ?_
   obtain ⟨hi1,H⟩ := cC H
   refine bC (wt2 (dT hc2) rfl) rfl (fQ u9 rfl rfl hi1.1 hi1.2) ?_
   obtain ⟨r2,hr2,H⟩ := aK H
   refine aU [.int .u8 (bt p0 0)] en62 (wt2 (dT hc2) rfl) rfl rfl (F62 st3.has hr2) ?_
   rintro _ w5 ⟨h2,rfl,sp5⟩
   have M5 := M3.call0 sp5
   have st5 := st3.call0 sp5
   refine bC (wt2 (dT hc2) rfl) rfl (aQ .eql .i64 r2 3 (.bool (decide (r2 = 3))) 3 3 rfl rfl rfl)<|vv rfl (dD (.bool (decide (r2 = 3))) (dT hc2) rfl rfl)<|vv rfl (aC (.bool (decide (r2 = 3))) rfl)<|aD ?_
   rcases aM H with ⟨hc3,H⟩ | ⟨hc3,H⟩
   · refine tr e65_12 (dT hc3) rfl<|aA e65_13<|vv rfl (aF (b := b1) (o := 0) fl118_0 rfl)<|aV (o := 0) (n := 1) [I 3] [I 3,.string p0,I 0] (I 3) sz3 rfl rfl rfl rfl M5 rfl rfl rfl rfl rfl (fun w6 wr3 M6 => ?_)
     have sp6 := wr3.st st5.has M5.none
     have st6 := st5.call sp6 (fun x e => (.inl (e ▸ lb1)))
     refine aD ?_
     exact Jj1 sp5.le st6 rfl M6 H
   refine fa e65_12 (dF hc3) rfl<|aB e65_14<|aA e65_15<|vv rfl (aF (b := b1) (o := 0) fl118_0 rfl)<|aV (o := 0) (n := 1) [I 2] [I 2,.string p0,I 0] (I 2) sz3 rfl rfl rfl rfl M5 rfl rfl rfl rfl rfl (fun w7 wr4 M7 => ?_)
   have sp7 := wr4.st st5.has M5.none
   have st7 := st5.call sp7 (fun x e => (.inl (e ▸ lb1)))
   refine aD<|aB e65_16<|aA e65_17<|vv rfl (aE (.string p0) rfl) ?_
   obtain ⟨r3,hr3,H⟩ := aK H
   refine aU [.string p0] en87 rfl rfl rfl (F87 k st7.has hr3) ?_
   rintro _ w8 ⟨h3,rfl,sp8⟩
   have M8 := M7.call0 sp8
   have st8 := st7.call0 sp8
   refine vv rfl (aE (.tuple #[I r3.1,.bool r3.2]) rfl)<|vv rfl (bS (I r3.1) rfl rfl)<|vv rfl (bS (.bool r3.2) rfl rfl)<|vv rfl (aF (b := b1) (o := 0) fl118_2 rfl)<|aV (o := 2) (n := 1) [I r3.1] [I 2,.string p0,I r3.1] (I r3.1) sz2 rfl rfl rfl rfl M8 rfl rfl rfl rfl rfl (fun w9 wr5 M9 => ?_)
   have sp9 := wr5.st st8.has M8.none
   have st9 := st8.call sp9 (fun x e => (.inl (e ▸ lb1)))
   refine vv rfl (aC (.bool r3.2) rfl)<|aD<|aB e65_18<|aA e65_19<|vv rfl (bH [I 2,.string p0,I r3.1] ag118 eG rfl rfl (bA M9.get rfl))<|vv rfl (aE (.bool r3.2) rfl)<|aV (o := 0) (n := 3) [I 2,.string p0,I r3.1] [I 2,.string p0,I r3.1] (.agg #[I 2,.string p0,I r3.1]) eG rfl rfl rfl rfl M9 rfl rfl rfl rfl rfl (fun w10 wr6 M10 => ?_)
   have sp10 := wr6.st st9.has M9.none
   have st10 := st9.call sp10 (fun x e => (.inl (e ▸ lb1)))
   refine vv rfl (aC (.bool r3.2) rfl)<|aD ?_
   cases H
   exact aJ e65_20 (res2 Try.results65 (eH [I 2,.string p0,I r3.1] ag118 eG rfl rfl (bA M10.get rfl)) rfl ⟨h3,rfl,st10⟩)
 refine aO (wf2 (dF hc2) rfl) rfl<|aO (wf2 (dF hc2) rfl) rfl<|aO (wf2 (dF hc2) rfl) rfl<|aO (wf2 (dF hc2) rfl) rfl<|vv rfl (dE (.bool false) (dF hc2) rfl rfl)<|vv rfl (aC (.bool false) rfl)<|aD<|dK e65_12 (p := false) rfl rfl<|aB e65_14<|aA e65_15 ?_
 refine vv rfl (aF (b := b1) (o := 0) fl118_0 rfl)<|aV (o := 0) (n := 1) [I 2] [I 2,.string p0,I 0] (I 2) sz3 rfl rfl rfl rfl M3 rfl rfl rfl rfl rfl (fun w11 wr7 M11 => ?_)
 have sp11 := wr7.st st3.has M3.none
 have st11 := st3.call sp11 (fun x e => (.inl (e ▸ lb1)))
 refine aD<|aB e65_16<|aA e65_17<|vv rfl (aE (.string p0) rfl) ?_
 obtain ⟨r4,hr4,H⟩ := aK H
 refine aU [.string p0] en87 rfl rfl rfl (F87 k st11.has hr4) ?_
 rintro _ w12 ⟨h4,rfl,sp12⟩
 have M12 := M11.call0 sp12
 have st12 := st11.call0 sp12
 refine vv rfl (aE (.tuple #[I r4.1,.bool r4.2]) rfl)<|vv rfl (bS (I r4.1) rfl rfl)<|vv rfl (bS (.bool r4.2) rfl rfl)<|vv rfl (aF (b := b1) (o := 0) fl118_2 rfl)<|aV (o := 2) (n := 1) [I r4.1] [I 2,.string p0,I r4.1] (I r4.1) sz2 rfl rfl rfl rfl M12 rfl rfl rfl rfl rfl (fun w13 wr8 M13 => ?_)
 have sp13 := wr8.st st12.has M12.none
 have st13 := st12.call sp13 (fun x e => (.inl (e ▸ lb1)))
 refine vv rfl (aC (.bool r4.2) rfl)<|aD<|aB e65_18<|aA e65_19<|vv rfl (bH [I 2,.string p0,I r4.1] ag118 eG rfl rfl (bA M13.get rfl))<|vv rfl (aE (.bool r4.2) rfl)<|aV (o := 0) (n := 3) [I 2,.string p0,I r4.1] [I 2,.string p0,I r4.1] (.agg #[I 2,.string p0,I r4.1]) eG rfl rfl rfl rfl M13 rfl rfl rfl rfl rfl (fun w14 wr9 M14 => ?_)
 have sp14 := wr9.st st13.has M13.none
 have st14 := st13.call sp14 (fun x e => (.inl (e ▸ lb1)))
 refine vv rfl (aC (.bool r4.2) rfl)<|aD ?_
 cases H
 exact aJ e65_20 (res2 Try.results65 (eH [I 2,.string p0,I r4.1] ag118 eG rfl rfl (bA M14.get rfl)) rfl ⟨h4,rfl,st14⟩)
abbrev ZSLl40_0 (k : Nat) : Prop := SLl40_0 k
theorem SLl40_0_z : SLl40_0 0 := by
  unfold SLl40_0; intros; rename_i H; exact absurd H (by simp [l40_0])
theorem SLl40_0_s (k : Nat) (ih : ZSLl40_0 k) : SLl40_0 (k + 1) := by
 intro p0 w0 w h0 h σ l1 a1 c1 b1 i1 r st s0 s5 s6 s7 O1 H
 rw [l40_0] at H
 refine aB e40_22<|aB e40_23<|aA e40_24<|vv rfl (aE (I i1) s7)<|vv rfl (aE (.string p0) s0)<|vv rfl (eA u9 rfl)<|vv rfl (aQ .lss .i64 i1 (p0.size : Int) (.bool (decide (i1 < (p0.size : Int)))) 3 3 rfl rfl rfl)<|aD ?_
 rcases aM H with ⟨hc2,H⟩ | ⟨hc2,H⟩
 · refine tr e40_25 (dT hc2) rfl<|aL e40_26<|aT e40_28<|aB e40_29<|aA e40_30<|vv rfl (aC (I 1) rfl)<|aD<|aB e40_31<|aB e40_32<|aA e40_33 ?_
   refine vv rfl (aE (.string p0) s0)<|vv rfl (aE (I i1) s7) ?_
   obtain ⟨hi1,H⟩ := cC H
   refine vv rfl (fQ u9 rfl rfl hi1.1 hi1.2) ?_
   obtain ⟨r1,hr1,H⟩ := aK H
   refine aU [.int .u8 (bt p0 i1)] en62 rfl rfl rfl (F62 st.has hr1) ?_
   rintro _ w1 ⟨h2,rfl,sp1⟩
   have O2 := O1.call0 sp1
   have st2 := st.call0 sp1
   refine aD<|aT e40_34<|aB e40_35<|aA e40_36<|vv rfl (aQ .eql .i64 r1 5 (.bool (decide (r1 = 5))) 3 3 rfl rfl rfl)<|vv rfl (aC (.bool (decide (r1 = 5))) rfl)<|aD ?_
   rcases aM H with ⟨hc4,H⟩ | ⟨hc4,H⟩
   · refine tr e40_37 (dT hc4) rfl<|aB e40_38<|aA e40_39<|vv rfl (aE (.slice a1 l1.length c1) s5)<|vv rfl (bK u87 rfl)<|vv rfl (aQ .gtr .i64 (l1.length : Int) 0 (.bool (decide (0 < (l1.length : Int)))) 3 3 rfl rfl rfl)<|vv rfl (aC (.bool (decide (0 < (l1.length : Int)))) rfl)<|aD<|aB e40_40<|aA e40_41 ?_
     refine vv rfl (aE (I i1) s7)<|vv rfl (aQ .add .i64 i1 1 (I (wr (i1 + 1))) 3 3 rfl rfl rfl)<|vv rfl (aC (I (wr (i1 + 1))) rfl)<|aD<|bO e40_42 rfl<|bI ?_
     exact ih st2 s0 s5 rfl rfl O2 H
   refine fa e40_37 (dF hc4) rfl<|aB e40_43<|aA e40_44<|vv rfl (aQ .eql .i64 r1 4 (.bool (decide (r1 = 4))) 3 3 rfl rfl rfl)<|vv rfl (aC (.bool (decide (r1 = 4))) rfl)<|aD ?_
   rcases aM H with ⟨hc5,H⟩ | ⟨hc5,H⟩
   · refine tr e40_45 (dT hc5) rfl<|aB e40_46<|aA e40_47<|vv rfl (aE (I i1) s7)<|vv rfl (aQ .add .i64 i1 1 (I (wr (i1 + 1))) 3 3 rfl rfl rfl)<|vv rfl (aC (I (wr (i1 + 1))) rfl)<|aD<|bO e40_48 rfl<|bI ?_
     exact ih st2 s0 s5 s6 rfl O2 H
   refine fa e40_45 (dF hc5) rfl<|aB e40_49<|aA e40_50<|vv rfl (aQ .eql .i64 r1 6 (.bool (decide (r1 = 6))) 3 3 rfl rfl rfl)<|vv rfl (aC (.bool (decide (r1 = 6))) rfl)<|aD ?_
   rcases aM H with ⟨hc6,H⟩ | ⟨hc6,H⟩
   · refine tr e40_51 (dT hc6) rfl<|aB e40_52<|aB e40_53<|aA e40_54<|vv rfl (aE (.string p0) s0)<|vv rfl (aE (I i1) s7) ?_
     obtain ⟨hs1,H⟩ := cC H
     refine vv rfl (x_sliceStr (l := i1) (h := (p0.size : Int)) (kl := .i64) (kh := .i64) u9 rfl rfl rfl hs1.1 hs1.2.1 hs1.2.2) ?_
     obtain ⟨r2,hr2,H⟩ := aK H
     refine aU [.string (p0.extract (i1 : Int).toNat ((p0.size : Int) : Int).toNat),.int .u8 10] en63 rfl rfl rfl (F63 st2.has hr2) ?_
     rintro _ w2 ⟨h3,rfl,sp2⟩
     have O3 := O2.call0 sp2
     have st3 := st2.call0 sp2
     refine vv rfl (aC (I r2) rfl)<|aD<|aB e40_55<|aA e40_56<|vv rfl (aE (I r2) rfl)<|vv rfl (aQ .lss .i64 r2 0 (.bool (decide (r2 < 0))) 3 3 rfl rfl rfl)<|aD ?_
     rcases aM H with ⟨hc7,H⟩ | ⟨hc7,H⟩
     · refine tr e40_57 (dT hc7) rfl<|bO e40_58 rfl<|aB e40_91<|aB e40_92<|aA e40_93<|vv rfl (aE (.slice a1 l1.length c1) s5)<|vv rfl (bK u87 rfl)<|vv rfl (aQ .gtr .i64 (l1.length : Int) 4096 (.bool (decide (4096 < (l1.length : Int)))) 3 3 rfl rfl rfl)<|aD ?_
       rcases aM H with ⟨hc8,H⟩ | ⟨hc8,H⟩
       · refine tr e40_94 (dT hc8) rfl<|aB e40_95<|aA e40_96<|vv rfl (aC (.slice none 0 0) rfl)<|vv rfl (aC (I 0) rfl)<|vv rfl (aC (I 2) rfl)<|aD ?_
         cases H
         exact aJ e40_97 (res3 Try.results40 rfl rfl rfl ⟨none,0,h3,rfl,st3,(SlR.none _)⟩)
       refine fa e40_94 (dF hc8) rfl<|aL e40_98<|aB e40_99<|aA e40_100<|vv rfl (aE (.slice a1 l1.length c1) s5)<|vv rfl (aE (.string p0) s0)<|vv rfl (eA u9 rfl)<|vv rfl (aC (.slice a1 l1.length c1) rfl)<|vv rfl (aC (I (p0.size : Int)) rfl)<|vv rfl (aC (I 0) rfl) ?_
       refine aD ?_
       obtain ⟨h4,le2,st4,R2,kp2⟩ := O3.frz st3 (Nat.le_refl _)
       cases H
       exact aJ e40_101 (res3 Try.results40 rfl rfl rfl ⟨a1,c1,h4,rfl,st4,R2⟩)
     refine fa e40_57 (dF hc7) rfl<|aL e40_59<|aB e40_60<|aA e40_61<|vv rfl (aE (I i1) s7)<|vv rfl (aE (I r2) rfl)<|vv rfl (aQ .add .i64 i1 r2 (I (wr (i1 + r2))) 3 3 rfl rfl rfl)<|vv rfl (aC (I (wr (i1 + r2))) rfl)<|aD<|bO e40_62 rfl ?_
     refine bI ?_
     exact ih st3 s0 s5 s6 rfl O3 H
   refine fa e40_51 (dF hc6) rfl<|aB e40_63<|aB e40_64<|aA e40_65<|vv rfl (aQ .eql .i64 r1 1 (.bool (decide (r1 = 1))) 3 3 rfl rfl rfl)<|vv rfl (aC (.bool (decide (r1 = 1))) rfl)<|aD ?_
   obtain ⟨j7,hj7,H⟩ := dH H
   have Jj7 : ∀ {y1 : (List GToken)} {y2 : Int} {a2 : OA} {c2 : Nat} {σ1 : Env} {w5 : World} {h7 : Sto},Le h2 h7 → St w0 noM h0 h7 w5 → σ1 0 = .string p0 → σ1 5 = .slice a2 y1.length c2 → σ1 6 = .bool b1 → σ1 7 = I i1 → σ1 8 = I y2 → Own 118 w0.heap.size h7 w5 a2 c2 y1 → j7 y1 y2 = some r → Run X40 [.inBlock 2,.code c40_72,.inBlock 1,.inLoop c40_22,.inBlock 0,.code c40_91,.inScope c40_3] σ1 w5 (.fn (Q40 w0 h0 r)) := by
    intro y1 y2 a2 c2 σ1 w5 h7 le3 st7 s0_j7 s5_j7 s6_j7 s7_j7 s8_j7 O6 H
    rw [hj7] at H
    refine aZ<|aB e40_72<|aA e40_73<|vv rfl (aE (.string p0) s0_j7)<|vv rfl (aE (I i1) s7_j7)<|vv rfl (aE (I i1) s7_j7)<|vv rfl (aE (I y2) s8_j7)<|vv rfl (aQ .add .i64 i1 y2 (I (wr (i1 + y2))) 3 3 rfl rfl rfl) ?_
    obtain ⟨hs4,H⟩ := cC H
    refine vv rfl (x_sliceStr (l := i1) (h := (wr (i1 + y2))) (kl := .i64) (kh := .i64) u9 rfl rfl rfl hs4.1 hs4.2.1 hs4.2.2) ?_
    obtain ⟨r5,hr5,H⟩ := aK H
    refine aU [.string (p0.extract (i1 : Int).toNat (wr (i1 + y2) : Int).toNat)] en65 rfl rfl rfl (F65 k st7.has hr5) ?_
    rintro _ w6 ⟨h8,rfl,sp5⟩
    have O7 := O6.call0 sp5
    have st8 := st7.call0 sp5
    refine vv rfl (aE (.tuple #[.agg #[I r5.1.Kind,.string r5.1.S,I r5.1.N],.bool r5.2]) rfl)<|vv rfl (bS (.agg #[I r5.1.Kind,.string r5.1.S,I r5.1.N]) rfl rfl)<|vv rfl (bS (.bool r5.2) rfl rfl)<|cG (.agg #[I 0,.string ByteArray.empty,I 0]) zr118 rfl rfl (fun b2 w7 al1 => ?_)
    replace al1 : Al _ (.cells (List.toArray [I 0,.string ByteArray.empty,I 0]) 118 (0,0)) b2 w7 := al1
    have ne1 := O7.ne_al al1
    have M1 := Mut.new st8 al1
    have lb1 := st8.alB al1
    have sp6 := al1.st st8.has
    have O8 := O7.call0 sp6
    have st9 := st8.call0 sp6
    refine aV (o := 0) (n := 3) [I r5.1.Kind,.string r5.1.S,I r5.1.N] [I r5.1.Kind,.string r5.1.S,I r5.1.N] (.agg #[I r5.1.Kind,.string r5.1.S,I r5.1.N]) eG rfl rfl rfl rfl M1 rfl rfl rfl rfl rfl (fun w8 wr1 M2 => ?_)
    have sp7 := wr1.st st9.has M1.none
    have O9 := O8.call sp7 (fun x hx e => (absurd (e ▸ hx) ne1))
    have st10 := st9.call sp7 (fun x e => (.inl (e ▸ lb1)))
    obtain ⟨h9,le4,g1,st11,kp3⟩ := M2.fz st10 lb1
    have O10 := O9.fr le4 kp3 ne1
    refine vv rfl (aC (.bool r5.2) rfl)<|aD<|aB e40_74<|aB e40_75<|aA e40_76<|vv rfl (aE (.bool r5.2) rfl)<|vv rfl (dV r5.2 4 rfl)<|aD ?_
    rcases aM H with ⟨hc11,H⟩ | ⟨hc11,H⟩
    · refine fa e40_77 (bN hc11) rfl<|aL e40_81<|aB e40_82<|aB e40_83<|aA e40_84<|vv rfl (aE (.bool b1) s6_j7)<|aD ?_
      obtain ⟨j9,hj9,H⟩ := dH H
      have Jj9 : ∀ {y3 : (List GToken)} {a4 : OA} {c4 : Nat} {σ2 : Env} {w11 : World} {h11 : Sto},Le h9 h11 → St w0 noM h0 h11 w11 → σ2 0 = .string p0 → σ2 5 = .slice a4 y3.length c4 → σ2 7 = I i1 → σ2 8 = I y2 → σ2 9 = .pointer (some ⟨b2,0,none⟩) → Own 118 w0.heap.size h11 w11 a4 c4 y3 → j9 y3 = some r → Run X40 [.code c40_88,.inBlock 1,.inLoop c40_22,.inBlock 0,.code c40_91,.inScope c40_3] σ2 w11 (.fn (Q40 w0 h0 r)) := by
       intro y3 a4 c4 σ2 w11 h11 le6 st14 s0_j9 s5_j9 s7_j9 s8_j9 s9_j9 O13 H
       rw [hj9] at H
       refine aB e40_88<|aA e40_89<|vv rfl (aE (.slice a4 y3.length c4) s5_j9)<|vv rfl (bH [I r5.1.Kind,.string r5.1.S,I r5.1.N] ag118 eG s9_j9 rfl (bA (st14.has _ _ (le6 _ _ g1)) rfl))<|cF [I 0,.string ByteArray.empty,I 0] [I r5.1.Kind,.string r5.1.S,I r5.1.N] [(0,.agg #[I r5.1.Kind,.string r5.1.S,I r5.1.N])] u87 eG zr118 rfl rfl rfl rfl (by kernel_rfl) rfl (by kernel_rfl) (fun b4 w12 al3 => ?_)
       have li2 : Lits h11 [[I r5.1.Kind,.string r5.1.S,I r5.1.N]] ([r5.1] : List GToken) := (Lits.cons (GToken.into (h := h11) (x := r5.1) ) Lits.nil)
       obtain ⟨h12,le7,g3,sp10⟩ := al3.fz st14.has
       have O14 := O13.call0 sp10
       have st15 := st14.call0 sp10
       have R4 : SlR _ _ _ ([r5.1] : List GToken) := Lits.sl (n := 1) (Lits.mono le7 li2) rfl rfl (by decide) g3
       obtain ⟨hs6,H⟩ := cC H
       refine eF (α := GToken) (B := w0.heap.size) (l := y3) (l2 := ([r5.1] : List GToken)) u87 u87 ap118 rfl rfl rfl rfl st15.has st15.sp.size O14 R4 rfl rfl hs6 (fun a5 c5 w13 O15 sp11 bl2 => ?_)
       have st16 := st15.call sp11 (fun x e => (.inl (O14.lbs x e)))
       refine vv rfl (aC (.slice a5 ((y3 ++ ([r5.1] : List GToken)).length) c5) rfl)<|vv rfl (aC (.bool false) rfl)<|aD<|aA e40_90<|vv rfl (aE (I i1) s7_j9)<|vv rfl (aE (I y2) s8_j9)<|vv rfl (aQ .add .i64 i1 y2 (I (wr (i1 + y2))) 3 3 rfl rfl rfl)<|vv rfl (aC (I (wr (i1 + y2))) rfl)<|aD<|aZ ?_
       refine bI ?_
       exact ih st16 s0_j9 rfl rfl rfl O15 H
      rcases aM H with ⟨hc12,H⟩ | ⟨hc12,H⟩
      · refine tr e40_85 hc12 rfl<|aA e40_86<|vv rfl (aE (.slice a2 y1.length c2) s5_j7)<|vv rfl (dJ (vs := [I 4,.string ByteArray.empty,I 0]) [(0,I 4)] bd118 rfl rfl)<|cF [I 0,.string ByteArray.empty,I 0] [I 4,.string ByteArray.empty,I 0] [(0,.agg #[I 4,.string ByteArray.empty,I 0])] u87 eG zr118 rfl rfl rfl rfl (by kernel_rfl) rfl (by kernel_rfl) (fun b3 w9 al2 => ?_)
        have li1 : Lits h9 [[I 4,.string ByteArray.empty,I 0]] ([(⟨4,ByteArray.empty,0⟩ : GToken)] : List GToken) := (Lits.cons (GToken.into (h := h9) (x := (⟨4,ByteArray.empty,0⟩ : GToken)) ) Lits.nil)
        obtain ⟨h10,le5,g2,sp8⟩ := al2.fz st11.has
        have O11 := O10.call0 sp8
        have st12 := st11.call0 sp8
        have R3 : SlR _ _ _ ([(⟨4,ByteArray.empty,0⟩ : GToken)] : List GToken) := Lits.sl (n := 1) (Lits.mono le5 li1) rfl rfl (by decide) g2
        obtain ⟨hs5,H⟩ := cC H
        refine eF (α := GToken) (B := w0.heap.size) (l := y1) (l2 := ([(⟨4,ByteArray.empty,0⟩ : GToken)] : List GToken)) u87 u87 ap118 rfl rfl rfl rfl st12.has st12.sp.size O11 R3 rfl rfl hs5 (fun a3 c3 w10 O12 sp9 bl1 => ?_)
        have st13 := st12.call sp9 (fun x e => (.inl (O11.lbs x e)))
        refine vv rfl (aC (.slice a3 ((y1 ++ ([(⟨4,ByteArray.empty,0⟩ : GToken)] : List GToken)).length) c3) rfl)<|aD ?_
        exact Jj9 le5 st13 s0_j7 rfl s7_j7 s8_j7 rfl O12 H
      refine fa e40_85 (bY hc12) rfl<|aL e40_87 ?_
      exact Jj9 (Le.refl _) st11 s0_j7 s5_j7 s7_j7 s8_j7 rfl O10 H
    refine tr e40_77 (bQ (bY hc11)) rfl<|aB e40_78<|aA e40_79<|vv rfl (aE (I i1) s7_j7)<|vv rfl (aC (.slice none 0 0) rfl)<|vv rfl (aC (I i1) rfl)<|vv rfl (aC (I 6) rfl)<|aD ?_
    cases H
    exact aJ e40_80 (res3 Try.results40 rfl rfl rfl ⟨none,0,h9,rfl,st11,(SlR.none _)⟩)
   rcases aM H with ⟨hc9,H⟩ | ⟨hc9,H⟩
   · refine tr e40_66 (dT hc9) rfl<|aL e40_67<|tr e40_69 (dT hc9) rfl<|aA e40_70<|vv rfl (aE (.string p0) s0)<|vv rfl (aE (I i1) s7) ?_
     obtain ⟨hs2,H⟩ := cC H
     refine vv rfl (x_sliceStr (l := i1) (h := (p0.size : Int)) (kl := .i64) (kh := .i64) u9 rfl rfl rfl hs2.1 hs2.2.1 hs2.2.2) ?_
     obtain ⟨r3,hr3,H⟩ := aK H
     refine aU [.string (p0.extract (i1 : Int).toNat ((p0.size : Int) : Int).toNat)] en64 rfl rfl rfl (F64 k st2.has hr3) ?_
     rintro _ w3 ⟨h5,rfl,sp3⟩
     have O4 := O2.call0 sp3
     have st5 := st2.call0 sp3
     refine vv rfl (aC (I r3) rfl)<|aD ?_
     exact Jj7 sp3.le st5 s0 s5 s6 s7 rfl O4 H
   refine fa e40_66 (dF hc9) rfl<|aA e40_68<|vv rfl (aQ .eql .i64 r1 2 (.bool (decide (r1 = 2))) 3 3 rfl rfl rfl)<|vv rfl (aC (.bool (decide (r1 = 2))) rfl)<|aD ?_
   rcases aM H with ⟨hc10,H⟩ | ⟨hc10,H⟩
   · refine tr e40_69 (dT hc10) rfl<|aA e40_70<|vv rfl (aE (.string p0) s0)<|vv rfl (aE (I i1) s7) ?_
     obtain ⟨hs3,H⟩ := cC H
     refine vv rfl (x_sliceStr (l := i1) (h := (p0.size : Int)) (kl := .i64) (kh := .i64) u9 rfl rfl rfl hs3.1 hs3.2.1 hs3.2.2) ?_
     obtain ⟨r4,hr4,H⟩ := aK H
     refine aU [.string (p0.extract (i1 : Int).toNat ((p0.size : Int) : Int).toNat)] en64 rfl rfl rfl (F64 k st2.has hr4) ?_
     rintro _ w4 ⟨h6,rfl,sp4⟩
     have O5 := O2.call0 sp4
     have st6 := st2.call0 sp4
     refine vv rfl (aC (I r4) rfl)<|aD ?_
     exact Jj7 sp4.le st6 s0 s5 s6 s7 rfl O5 H
   refine fa e40_69 (dF hc10) rfl<|aL e40_71 ?_
   exact Jj7 (Le.refl _) st2 s0 s5 s6 s7 rfl O2 H
 refine fa e40_25 (dF hc2) rfl<|bO e40_27 rfl<|aB e40_91<|aB e40_92<|aA e40_93<|vv rfl (aE (.slice a1 l1.length c1) s5)<|vv rfl (bK u87 rfl)<|vv rfl (aQ .gtr .i64 (l1.length : Int) 4096 (.bool (decide (4096 < (l1.length : Int)))) 3 3 rfl rfl rfl)<|aD ?_
 rcases aM H with ⟨hc3,H⟩ | ⟨hc3,H⟩
 · refine tr e40_94 (dT hc3) rfl<|aB e40_95<|aA e40_96<|vv rfl (aC (.slice none 0 0) rfl)<|vv rfl (aC (I 0) rfl)<|vv rfl (aC (I 2) rfl)<|aD ?_
   cases H
   exact aJ e40_97 (res3 Try.results40 rfl rfl rfl ⟨none,0,h,rfl,st,(SlR.none _)⟩)
 refine fa e40_94 (dF hc3) rfl<|aL e40_98<|aB e40_99<|aA e40_100<|vv rfl (aE (.slice a1 l1.length c1) s5)<|vv rfl (aE (.string p0) s0)<|vv rfl (eA u9 rfl)<|vv rfl (aC (.slice a1 l1.length c1) rfl)<|vv rfl (aC (I (p0.size : Int)) rfl)<|vv rfl (aC (I 0) rfl) ?_
 refine aD ?_
 obtain ⟨h1,le1,st1,R1,kp1⟩ := O1.frz st (Nat.le_refl _)
 cases H
 exact aJ e40_101 (res3 Try.results40 rfl rfl rfl ⟨a1,c1,h1,rfl,st1,R1⟩)
theorem ZSLl40_0_all : ∀ k,ZSLl40_0 k
  | 0 => SLl40_0_z
  | k + 1 => SLl40_0_s k (ZSLl40_0_all k)
theorem Fl40_0 (k : Nat) : SLl40_0 k := (ZSLl40_0_all k)
theorem F40 (k : Nat) : S40 k := by
 intro p0 w0 h0 hh r H
 unfold m40 at H
 refine aP (fn := Try.f40) Try.func40 rfl (Nat.le_of_ble_eq_true rfl) ?_
 show Run X40 [.code c40_0] (fun t => List.getD [.string p0] t undef) w0 (.fn (Q40 w0 h0 r))
 have st0 := St.init hh noM
 refine aB e40_0<|aA e40_1<|vv rfl (aC (.slice none 0 0) rfl)<|vv rfl (aC (I 0) rfl)<|vv rfl (aC (I 0) rfl)<|aD<|run_scope e40_2<|aB e40_3<|aB e40_4<|aA e40_5 ?_
 refine vv rfl (aE (.string p0) rfl)<|vv rfl (eA u9 rfl)<|vv rfl (aQ .gtr .i64 (p0.size : Int) 65536 (.bool (decide (65536 < (p0.size : Int)))) 3 3 rfl rfl rfl)<|aD ?_
 rcases aM H with ⟨hc1,H⟩ | ⟨hc1,H⟩
 · refine tr e40_6 (dT hc1) rfl<|aB e40_7<|aA e40_8<|vv rfl (aC (.slice none 0 0) rfl)<|vv rfl (aC (I 0) rfl)<|vv rfl (aC (I 2) rfl)<|aD ?_
   cases H
   exact aJ e40_9 (res3 Try.results40 rfl rfl rfl ⟨none,0,h0,rfl,st0,(SlR.none _)⟩)
 refine fa e40_6 (dF hc1) rfl<|aL e40_10<|aB e40_11<|aA e40_12<|vv rfl (aC (.slice none 0 0) rfl)<|aD<|aB e40_13<|aA e40_14<|vv rfl (aC (.bool false) rfl)<|aD ?_
 refine aB e40_15<|aA e40_16<|vv rfl (aC (I 0) rfl)<|aD<|aB e40_17<|run_label e40_18<|aB e40_19<|aT e40_20<|bZ e40_21 ?_
 exact Fl40_0 k st0 rfl rfl rfl rfl (Own.nil _ _ _ _) H
theorem F67 : S67 := by
 intro p0 w0 h0 hh r H
 unfold m67 at H
 refine aP (fn := Try.f67) Try.func67 rfl (Nat.le_of_ble_eq_true rfl) ?_
 show Run X67 [.code c67_0] (fun t => List.getD [.agg #[I p0.Kind,.string p0.S,I p0.N]] t undef) w0 (.fn (Q67 w0 h0 r))
 have st0 := St.init hh noM
 refine aB e67_0<|aA e67_1<|dW (.agg #[I p0.Kind,.string p0.S,I p0.N]) rfl rfl rfl (fun b1 w1 al1 => ?_)
 replace al1 : Al _ (.cells (List.toArray [I p0.Kind,.string p0.S,I p0.N]) 118 (0,0)) b1 w1 := al1
 obtain ⟨h1,le1,g1,sp1⟩ := al1.fz st0.has
 have st1 := st0.call0 sp1
 refine vv rfl (aC (.bool false) rfl)<|aD<|aB e67_2<|aA e67_3<|vv rfl (aF (b := b1) (o := 0) fl118_0 rfl)<|vv rfl (aN (I p0.Kind) sc3 rfl ((aR (st1.has _ _ g1)).trans rfl))<|vv rfl (aQ .eql .i64 p0.Kind 4 (.bool (decide (p0.Kind = 4))) 3 3 rfl rfl rfl)<|vv rfl (aC (.bool (decide (p0.Kind = 4))) rfl)<|aD ?_
 cases H
 exact aJ e67_4 (cD Try.results67 rfl ⟨h1,rfl,st1⟩)
abbrev ZSLl66_0 (k : Nat) : Prop := SLl66_0 k
theorem SLl66_0_z : SLl66_0 0 := by
  unfold SLl66_0; intros; rename_i H; exact absurd H (by simp [l66_0])
theorem SLl66_0_s (k : Nat) (ih : ZSLl66_0 k) : SLl66_0 (k + 1) := by
 intro p0 bD bE j1 w0 w h0 h σ xs1 r st s0 s1 s7 s8 R1 hd1 H
 cases xs1 with
 | nil =>
  rw [l66_0] at H
  have hk1 := cU hd1
  refine aB e66_7<|aA e66_8<|vv rfl (aQ .lss .i64 (j1 : Int) (p0.length : Int) (.bool (decide ((j1 : Int) < (p0.length : Int)))) 3 3 s8 s7 rfl)<|aD<|aB e66_9<|fa e66_10 hk1 rfl<|bO e66_12 rfl<|aB e66_25<|aA e66_26<|vv rfl (aC (I (-1)) rfl) ?_
  refine aD ?_
  cases H
  exact aJ e66_27 (cD Try.results66 rfl ⟨h,rfl,st⟩)
 | cons x1 xs2 =>
  rw [l66_0] at H
  obtain ⟨hk2,hj1,hx1,hd2⟩ := cJ hd1
  refine aB e66_7<|aA e66_8<|vv rfl (aQ .lss .i64 (j1 : Int) (p0.length : Int) (.bool (decide ((j1 : Int) < (p0.length : Int)))) 3 3 s8 s7 rfl)<|aD<|aB e66_9<|tr e66_10 hk2 rfl<|aL e66_11<|aB e66_13<|aT e66_14<|aB e66_15 ?_
  refine aA e66_16<|vv rfl (aE (I (j1 : Int)) s8)<|vv rfl (aC (I (j1 : Int)) rfl)<|aD<|aB e66_17<|aA e66_18<|vv rfl (aE (.func (.func 67) #[] #[]) s1)<|vv rfl (aE (.slice bD p0.length bE) s0)<|vv rfl (aE (I (j1 : Int)) rfl) ?_
  obtain ⟨b1,o1,vs1,ea1,rp1,cl1⟩ := SlR.at R1 hx1
  obtain rfl := GToken.out rp1
  refine vv rfl (aY u87 eG rfl rfl ea1 (Int.natCast_nonneg _) (Int.ofNat_lt.2 hj1))<|vv rfl (bH [I x1.Kind,.string x1.S,I x1.N] ag118 eG rfl rfl (cl1 _ (Has.le (Le.refl _) st.has))) ?_
  obtain ⟨r1,hr1,H⟩ := aK H
  refine dQ [] [] [.agg #[I x1.Kind,.string x1.S,I x1.N]] [.agg #[I x1.Kind,.string x1.S,I x1.N]] en67 rfl rfl rfl rfl rfl (F67 (p0 := x1) st.has hr1) ?_
  rintro _ w1 ⟨h1,rfl,sp1⟩
  have st1 := st.call0 sp1
  refine aD ?_
  rcases aM H with ⟨hc1,H⟩ | ⟨hc1,H⟩
  · refine tr e66_19 hc1 rfl<|aB e66_20<|aA e66_21<|vv rfl (aE (I (j1 : Int)) rfl)<|vv rfl (aC (I (j1 : Int)) rfl)<|aD ?_
    cases H
    exact aJ e66_22 (cD Try.results66 rfl ⟨h1,rfl,st1⟩)
  refine fa e66_19 (bY hc1) rfl<|aL e66_23<|aZ<|aA e66_24<|vv rfl (aQ .add .i64 (j1 : Int) 1 (I ((j1 + 1 : Nat) : Int)) 3 3 s8 rfl (dL hj1 (SlR.mono sp1.le R1).mx))<|vv rfl (aE (I ((j1 + 1 : Nat) : Int)) rfl)<|aD<|bI ?_
  exact ih (j1 := (j1 + 1)) st1 s0 s1 s7 rfl (SlR.mono sp1.le R1) hd2 H
theorem ZSLl66_0_all : ∀ k,ZSLl66_0 k
  | 0 => SLl66_0_z
  | k + 1 => SLl66_0_s k (ZSLl66_0_all k)
theorem Fl66_0 (k : Nat) : SLl66_0 k := (ZSLl66_0_all k)
theorem F66 (k : Nat) : S66 k := by
 intro p0 bD bE w0 h0 hh Rp0 r H
 unfold m66 at H
 refine aP (fn := Try.f66) Try.func66 rfl (Nat.le_of_ble_eq_true rfl) ?_
 show Run X66 [.code c66_0] (fun t => List.getD [.slice bD p0.length bE,.func (.func 67) #[] #[]] t undef) w0 (.fn (Q66 w0 h0 r))
 have st0 := St.init hh noM
 refine aB e66_0<|aA e66_1<|vv rfl (aC (I 0) rfl)<|aD<|aB e66_2<|aB e66_3<|aA e66_4<|vv rfl (aE (.slice bD p0.length bE) rfl)<|vv rfl (bK u87 rfl)<|vv rfl (aE (I 0) rfl) ?_
 refine aD<|aT e66_5<|bZ e66_6 ?_
 exact Fl66_0 k (j1 := 0) st0 rfl rfl rfl rfl Rp0 rfl H
theorem F68 : S68 := by
  intro p0 bD bE w0 h0 hh Rp0 r H
  obtain ⟨hs,H⟩ := cC H
  cases H
  refine aP (fn := Try.f68) Try.func68 rfl (Nat.le_of_ble_eq_true rfl) ?_
  show Run X68 [.code c68_0] (fun t => List.getD [.slice bD p0.length bE] t undef) w0 (.fn (Q68 w0 h0 p0))
  have st0 := St.init hh noM
  refine aB e68_0 ?_
  refine aA e68_1 ?_
  refine bC rfl rfl (aC (.slice none 0 0) rfl) ?_
  refine aD ?_
  refine aB e68_2 ?_
  refine aB e68_3 ?_
  refine aA e68_4 ?_
  refine bC rfl rfl (aE (.slice bD p0.length bE) rfl) ?_
  refine bC rfl rfl (x_slNil u87 rfl rfl) ?_
  refine aD ?_
  cases bD with
  | none =>
    have hz := Rp0.nil rfl
    have hl : p0 = [] := List.length_eq_zero_iff.1 (by have := Rp0.lc; omega)
    subst hl
    refine cZ e68_5 rfl rfl ?_
    refine aB e68_6 ?_
    refine aA e68_7 ?_
    refine bC rfl rfl (aC (.slice none 0 0) rfl) ?_
    refine aD ?_
    exact aJ e68_8 (cD Try.results68 rfl ⟨none,0,h0,rfl,st0,Own.nil _ _ _ _⟩)
  | some A =>
    refine dK e68_5 rfl rfl ?_
    refine aL e68_9 ?_
    refine aB e68_10 ?_
    refine aA e68_11 ?_
    refine rr_buildSlice0 u87 eG rfl rfl (fun b w1 al => ?_)
    have M := Mut.new st0 al
    have st1 := St.call0 st0 (al.st st0.has)
    have O : Own 118 w0.heap.size _ _ _ _ ([] : List GToken) := Lits.own (n := 0) (Lits.nil (h := h0)) rfl rfl (by decide) M (st0.alB al)
    refine bC rfl rfl (aE (.slice (some A) p0.length bE) rfl) ?_
    refine eF (α := GToken) (B := w0.heap.size) (l := ([] : List GToken)) (l2 := p0) u87 u87 ap118 rfl rfl rfl rfl st1.has st1.sp.size O Rp0 rfl rfl (by simpa using hs) (fun a c w2 O2 sp bl => ?_)
    refine bC rfl rfl (aC (.slice a p0.length c) rfl) ?_
    have st2 := St.call st1 sp (fun x e => .inl (Own.lbs O x e))
    refine aD ?_
    exact aJ e68_12 (cD Try.results68 rfl ⟨a,c,h0,rfl,st2,O2⟩)
abbrev ZSLl41_0 (k : Nat) : Prop := SLl41_0 k
theorem SLl41_0_z : SLl41_0 0 := by
  unfold SLl41_0; intros; rename_i H; exact absurd H (by simp [l41_0])
theorem SLl41_0_s (k : Nat) (ih : ZSLl41_0 k) : SLl41_0 (k + 1) := by
 intro w0 w h0 h σ l1 a1 a2 c1 c2 l2 r st s0 s3 R1 O1 H
 rw [l41_0] at H
 refine aB e41_7<|aB e41_8<|aA e41_9<|vv rfl (aE (.slice a1 l1.length c1) s0)<|vv rfl (bK u87 rfl)<|vv rfl (aQ .gtr .i64 (l1.length : Int) 0 (.bool (decide (0 < (l1.length : Int)))) 3 3 rfl rfl rfl)<|aD ?_
 rcases aM H with ⟨hc1,H⟩ | ⟨hc1,H⟩
 · refine tr e41_10 (dT hc1) rfl<|aL e41_11<|aT e41_13<|aB e41_14<|aA e41_15<|vv rfl (aE (.slice a1 l1.length c1) s0) ?_
   obtain ⟨r1,hr1,H⟩ := aK H
   refine aU [.slice a1 l1.length c1,.func (.func 67) #[] #[]] en66 rfl rfl rfl (F66 k st.has R1 hr1) ?_
   rintro _ w1 ⟨h2,rfl,sp1⟩
   have O2 := O1.call0 sp1
   have st2 := st.call0 sp1
   refine vv rfl (aC (I r1) rfl)<|aD<|aB e41_16<|aB e41_17<|aA e41_18<|vv rfl (aE (I r1) rfl)<|vv rfl (aQ .lss .i64 r1 0 (.bool (decide (r1 < 0))) 3 3 rfl rfl rfl)<|aD ?_
   rcases aM H with ⟨hc2,H⟩ | ⟨hc2,H⟩
   · refine tr e41_19 (dT hc2) rfl<|aB e41_20<|aA e41_21<|vv rfl (aE (.slice a2 l2.length c2) s3)<|vv rfl (aE (.slice a1 l1.length c1) s0) ?_
     obtain ⟨r2,hr2,H⟩ := aK H
     refine aU [.slice a1 l1.length c1] en68 rfl rfl rfl (F68 st2.has (SlR.mono sp1.le R1) hr2) ?_
     rintro _ w2 ⟨a3,c3,h3,rfl,sp2,R3⟩
     have O3 := O2.call0 sp2
     have st3 := st2.call0 sp2
     have O4 := R3.low st2.sp.size
     obtain ⟨h4,le2,st4,R4,kp2⟩ := O4.frz st3 (Nat.le_refl _)
     have O5 := O3.frB le2 kp2 (O3.ne_own O4 (by decide))
     refine cF [.slice none 0 0] [.slice a3 r2.length c3] [(0,.slice a3 r2.length c3)] u90 sz87 zr87 rfl rfl rfl rfl (by kernel_rfl) rfl (by kernel_rfl) (fun b1 w3 al1 => ?_)
     have li1 : Lits h4 [[.slice a3 r2.length c3]] ([r2] : List (List GToken)) := (Lits.cons ⟨_,_,rfl,R4⟩ Lits.nil)
     obtain ⟨h5,le3,g1,sp3⟩ := al1.fz st4.has
     have O6 := O5.call0 sp3
     have st5 := st4.call0 sp3
     have R5 : SlR _ _ _ ([r2] : List (List GToken)) := Lits.sl (n := 1) (Lits.mono le3 li1) rfl rfl (by decide) g1
     obtain ⟨hs1,H⟩ := cC H
     refine eF (α := (List GToken)) (B := w0.heap.size) (l := l2) (l2 := ([r2] : List (List GToken))) u90 u90 ap87 rfl rfl rfl rfl st5.has st5.sp.size O6 R5 rfl rfl hs1 (fun a4 c4 w4 O7 sp4 bl1 => ?_)
     have st6 := st5.call sp4 (fun x e => (.inl (O6.lbs x e)))
     refine vv rfl (aC (.slice a4 ((l2 ++ ([r2] : List (List GToken))).length) c4) rfl)<|aD ?_
     obtain ⟨h6,le4,st7,R6,kp3⟩ := O7.frz st6 (Nat.le_refl _)
     cases H
     exact aJ e41_22 (cD Try.results41 rfl ⟨a4,c4,h6,rfl,st7,R6⟩)
   refine fa e41_19 (dF hc2) rfl<|aL e41_23<|aB e41_24<|aA e41_25<|vv rfl (aE (.slice a2 l2.length c2) s3)<|vv rfl (aE (.slice a1 l1.length c1) s0)<|vv rfl (aE (I r1) rfl) ?_
   obtain ⟨hs2,H⟩ := cC H
   obtain ⟨a5,c5,ha1,hc3,R7⟩ := SlR.slice2 (lo := 0) (hi := r1) (SlR.mono sp1.le R1) hs2.1 hs2.2.1 hs2.2.2
   refine vv rfl (fM (l := 0) (h := r1) (kl := .i64) (kh := .i64) l1 rfl u87 eG rfl rfl rfl hs2.1 hs2.2.1 hs2.2.2 (SlR.mono sp1.le R1).lc ha1 hc3) ?_
   obtain ⟨r3,hr3,H⟩ := aK H
   refine aU [.slice a5 (((l1.take (r1 : Int).toNat).drop (0 : Int).toNat).length) c5] en68 rfl rfl rfl (F68 st2.has R7 hr3) ?_
   rintro _ w5 ⟨a6,c6,h7,rfl,sp5,R8⟩
   have O8 := O2.call0 sp5
   have st8 := st2.call0 sp5
   have O9 := R8.low st2.sp.size
   obtain ⟨h8,le5,st9,R9,kp4⟩ := O9.frz st8 (Nat.le_refl _)
   have O10 := O8.frB le5 kp4 (O8.ne_own O9 (by decide))
   refine cF [.slice none 0 0] [.slice a6 r3.length c6] [(0,.slice a6 r3.length c6)] u90 sz87 zr87 rfl rfl rfl rfl (by kernel_rfl) rfl (by kernel_rfl) (fun b2 w6 al2 => ?_)
   have li2 : Lits h8 [[.slice a6 r3.length c6]] ([r3] : List (List GToken)) := (Lits.cons ⟨_,_,rfl,R9⟩ Lits.nil)
   obtain ⟨h9,le6,g2,sp6⟩ := al2.fz st9.has
   have O11 := O10.call0 sp6
   have st10 := st9.call0 sp6
   have R10 : SlR _ _ _ ([r3] : List (List GToken)) := Lits.sl (n := 1) (Lits.mono le6 li2) rfl rfl (by decide) g2
   obtain ⟨hs3,H⟩ := cC H
   refine eF (α := (List GToken)) (B := w0.heap.size) (l := l2) (l2 := ([r3] : List (List GToken))) u90 u90 ap87 rfl rfl rfl rfl st10.has st10.sp.size O11 R10 rfl rfl hs3 (fun a7 c7 w7 O12 sp7 bl2 => ?_)
   have st11 := st10.call sp7 (fun x e => (.inl (O11.lbs x e)))
   refine vv rfl (aC (.slice a7 ((l2 ++ ([r3] : List (List GToken))).length) c7) rfl)<|aD<|aB e41_26<|aA e41_27<|vv rfl (aE (.slice a1 l1.length c1) s0)<|vv rfl (aE (I r1) rfl)<|vv rfl (aQ .add .i64 r1 1 (I (wr (r1 + 1))) 3 3 rfl rfl rfl) ?_
   obtain ⟨hs4,H⟩ := cC H
   obtain ⟨a8,c8,ha2,hc4,R11⟩ := SlR.slice2 (lo := (wr (r1 + 1))) (hi := (l1.length : Int)) (SlR.mono (sp1.le.trans (sp5.le.trans (le5.trans le6))) R1) hs4.1 hs4.2.1 hs4.2.2
   refine vv rfl (fM (l := (wr (r1 + 1))) (h := (l1.length : Int)) (kl := .i64) (kh := .i64) l1 rfl u87 eG rfl rfl rfl hs4.1 hs4.2.1 hs4.2.2 (SlR.mono (sp1.le.trans (sp5.le.trans (le5.trans le6))) R1).lc ha2 hc4)<|vv rfl (aC (.slice a8 (((l1.take ((l1.length : Int) : Int).toNat).drop (wr (r1 + 1) : Int).toNat).length) c8) rfl)<|aD<|aB e41_28<|aA e41_29<|vv rfl (aE (.slice a8 (((l1.take ((l1.length : Int) : Int).toNat).drop (wr (r1 + 1) : Int).toNat).length) c8) rfl)<|vv rfl (bK u87 rfl)<|vv rfl (aQ .eql .i64 (((l1.take ((l1.length : Int) : Int).toNat).drop (wr (r1 + 1) : Int).toNat).length : Int) 0 (.bool (decide ((((l1.take ((l1.length : Int) : Int).toNat).drop (wr (r1 + 1) : Int).toNat).length : Int) = 0))) 3 3 rfl rfl rfl)<|aD ?_
   obtain ⟨j3,hj3,H⟩ := dH H
   have Jj3 : ∀ {y1 : (List (List GToken))} {a10 : OA} {c10 : Nat} {σ1 : Env} {w10 : World} {h11 : Sto},Le h9 h11 → St w0 noM h0 h11 w10 → σ1 0 = .slice a8 (((l1.take ((l1.length : Int) : Int).toNat).drop (wr (r1 + 1) : Int).toNat).length) c8 → σ1 3 = .slice a10 y1.length c10 → SlR h11 a8 c8 ((l1.take ((l1.length : Int) : Int).toNat).drop (wr (r1 + 1) : Int).toNat) → Own 87 w0.heap.size h11 w10 a10 c10 y1 → j3 y1 = some r → Run X41 [.inBlock 1,.inLoop c41_7,.inBlock 0,.code c41_33] σ1 w10 (.fn (Q41 w0 h0 r)) := by
    intro y1 a10 c10 σ1 w10 h11 le8 st14 s0_j3 s3_j3 R13 O15 H
    rw [hj3] at H
    refine aZ<|bI ?_
    exact ih st14 s0_j3 s3_j3 R13 O15 H
   rcases aM H with ⟨hc5,H⟩ | ⟨hc5,H⟩
   · refine tr e41_30 (dT hc5) rfl<|aA e41_31<|vv rfl (aE (.slice a7 ((l2 ++ ([r3] : List (List GToken))).length) c7) rfl)<|cF [.slice none 0 0] [.slice none 0 0] [(0,.slice none 0 0)] u90 sz87 zr87 rfl rfl rfl rfl (by kernel_rfl) rfl (by kernel_rfl) (fun b3 w8 al3 => ?_)
     have li3 : Lits h9 [[.slice none 0 0]] ([([] : (List GToken))] : List (List GToken)) := (Lits.cons ⟨_,_,rfl,(SlR.none _)⟩ Lits.nil)
     obtain ⟨h10,le7,g3,sp8⟩ := al3.fz st11.has
     have O13 := O12.call0 sp8
     have st12 := st11.call0 sp8
     have R12 : SlR _ _ _ ([([] : (List GToken))] : List (List GToken)) := Lits.sl (n := 1) (Lits.mono le7 li3) rfl rfl (by decide) g3
     obtain ⟨hs5,H⟩ := cC H
     refine eF (α := (List GToken)) (B := w0.heap.size) (l := l2 ++ ([r3] : List (List GToken))) (l2 := ([([] : (List GToken))] : List (List GToken))) u90 u90 ap87 rfl rfl rfl rfl st12.has st12.sp.size O13 R12 rfl rfl hs5 (fun a9 c9 w9 O14 sp9 bl3 => ?_)
     have st13 := st12.call sp9 (fun x e => (.inl (O13.lbs x e)))
     refine vv rfl (aC (.slice a9 (((l2 ++ ([r3] : List (List GToken))) ++ ([([] : (List GToken))] : List (List GToken))).length) c9) rfl)<|aD ?_
     exact Jj3 le7 st13 rfl rfl (SlR.mono le7 R11) O14 H
   refine fa e41_30 (dF hc5) rfl<|aL e41_32 ?_
   exact Jj3 (Le.refl _) st11 rfl rfl R11 O12 H
 refine fa e41_10 (dF hc1) rfl<|bO e41_12 rfl<|aB e41_33<|aA e41_34<|vv rfl (aE (.slice a2 l2.length c2) s3)<|vv rfl (aC (.slice a2 l2.length c2) rfl)<|aD ?_
 obtain ⟨h1,le1,st1,R2,kp1⟩ := O1.frz st (Nat.le_refl _)
 cases H
 exact aJ e41_35 (cD Try.results41 rfl ⟨a2,c2,h1,rfl,st1,R2⟩)
theorem ZSLl41_0_all : ∀ k,ZSLl41_0 k
  | 0 => SLl41_0_z
  | k + 1 => SLl41_0_s k (ZSLl41_0_all k)
theorem Fl41_0 (k : Nat) : SLl41_0 k := (ZSLl41_0_all k)
theorem F41 (k : Nat) : S41 k := by
 intro p0 bD bE w0 h0 hh Rp0 r H
 unfold m41 at H
 refine aP (fn := Try.f41) Try.func41 rfl (Nat.le_of_ble_eq_true rfl) ?_
 show Run X41 [.code c41_0] (fun t => List.getD [.slice bD p0.length bE] t undef) w0 (.fn (Q41 w0 h0 r))
 have st0 := St.init hh noM
 refine aB e41_0<|aA e41_1<|vv rfl (aC (.slice none 0 0) rfl)<|aD<|aB e41_2<|aA e41_3<|vv rfl (aC (.slice none 0 0) rfl)<|aD<|aB e41_4<|aT e41_5 ?_
 refine bZ e41_6 ?_
 exact Fl41_0 k st0 rfl rfl Rp0 (Own.nil _ _ _ _) H
theorem F69 : S69 := by
 intro aS bW cK bX cY w0 h0 hh dU Mp0 r H
 unfold m69 at H
 refine aP (fn := Try.f69) Try.func69 rfl (Nat.le_of_ble_eq_true rfl) ?_
 show Run X69 [.code c69_0] (fun t => List.getD [.pointer (some ⟨aS,0,none⟩)] t undef) w0 (.fn (Q69 w0 h0 aS r))
 have st0 := St.init hh (fun x => x = aS)
 refine aB e69_0<|aA e69_1<|cG (.agg #[I 0,.string ByteArray.empty,I 0]) zr118 rfl rfl (fun b1 w1 al1 => ?_)
 replace al1 : Al _ (.cells (List.toArray [I 0,.string ByteArray.empty,I 0]) 118 (0,0)) b1 w1 := al1
 have M1 := Mut.new st0 al1
 have lb1 := st0.alB al1
 have sp1 := al1.st st0.has
 have M2 := Mp0.call0 sp1
 have st1 := st0.call0 sp1
 refine aD<|aB e69_2<|aB e69_3<|aA e69_4<|vv rfl (aE (.pointer (some ⟨aS,0,none⟩)) rfl)<|vv rfl (bJ ⟨aS,0,none⟩ rfl)<|vv rfl (aF (b := aS) (o := 0) fl94_0 rfl)<|vv rfl (aN (.slice bX cK.length bW) sc87 rfl ((aR M2.get).trans rfl))<|vv rfl (bK u87 rfl)<|vv rfl (aQ .gtr .i64 (cK.length : Int) 0 (.bool (decide (0 < (cK.length : Int)))) 3 3 rfl rfl rfl) ?_
 refine aD ?_
 obtain ⟨j1,hj1,H⟩ := dH H
 have Jj1 : ∀ {y1 y3 : Int} {y2 : ByteArray} {σ1 : Env} {w3 : World} {h1 : Sto},Le h0 h1 → St w0 (fun x => x = aS) h0 h1 w3 → σ1 2 = .pointer (some ⟨b1,0,none⟩) → SlR h1 bX bW cK → Mut h1 w3 aS (.cells (List.toArray [.slice bX cK.length bW,.bool cY]) 96 (0,0)) → Mut h1 w3 b1 (.cells (List.toArray [I y1,.string y2,I y3]) 118 (0,0)) → j1 y1 y2 y3 = some r → Run X69 [.code c69_8] σ1 w3 (.fn (Q69 w0 h0 aS r)) := by
  intro y1 y3 y2 σ1 w3 h1 le1 st3 s2_j1 R1 M5 M6 H
  rw [hj1] at H
  refine aB e69_8<|aA e69_9<|vv rfl (bH [I y1,.string y2,I y3] ag118 eG s2_j1 rfl (bA M6.get rfl))<|aV (o := 0) (n := 3) [I y1,.string y2,I y3] [I y1,.string y2,I y3] (.agg #[I y1,.string y2,I y3]) eG rfl rfl s2_j1 rfl M6 rfl rfl rfl rfl rfl (fun w4 wr2 M7 => ?_)
  have sp3 := wr2.st st3.has M6.none
  have M8 := M5.call sp3 (fun e => ((Mut.ne_ty M5 M6 (by decide)) e))
  have st4 := st3.call sp3 (fun x e => (.inl (e ▸ lb1)))
  refine aD ?_
  cases H
  exact aJ e69_10 (cD Try.results69 (eH [I y1,.string y2,I y3] ag118 eG s2_j1 rfl (bA M7.get rfl)) ⟨bX,bW,h1,rfl,st4,R1,M8⟩)
 rcases aM H with ⟨hc1,H⟩ | ⟨hc1,H⟩
 · refine tr e69_5 (dT hc1) rfl<|aA e69_6<|vv rfl (aE (.pointer (some ⟨aS,0,none⟩)) rfl)<|vv rfl (bJ ⟨aS,0,none⟩ rfl)<|vv rfl (aF (b := aS) (o := 0) fl94_0 rfl)<|vv rfl (aN (.slice bX cK.length bW) sc87 rfl ((aR M2.get).trans rfl)) ?_
   obtain ⟨x1,hx1,H⟩ := aK H
   have hi1 := dB hx1
   obtain ⟨b2,o1,vs1,ea1,rp1,cl1⟩ := SlR.at dU hi1.2.2
   obtain rfl := GToken.out rp1
   refine vv rfl (aY u87 eG rfl rfl ea1 hi1.1 hi1.2.1)<|vv rfl (bH [I x1.Kind,.string x1.S,I x1.N] ag118 eG rfl rfl (cl1 _ (Has.le (Le.refl _) st1.has)))<|aV (o := 0) (n := 3) [I x1.Kind,.string x1.S,I x1.N] [I x1.Kind,.string x1.S,I x1.N] (.agg #[I x1.Kind,.string x1.S,I x1.N]) eG rfl rfl rfl rfl M1 rfl rfl rfl rfl rfl (fun w2 wr1 M3 => ?_)
   have sp2 := wr1.st st1.has M1.none
   have M4 := M2.call sp2 (fun e => ((Mut.ne_ty M2 M1 (by decide)) e))
   have st2 := st1.call sp2 (fun x e => (.inl (e ▸ lb1)))
   refine aD ?_
   exact Jj1 (Le.refl _) st2 rfl dU M4 M3 H
 refine fa e69_5 (dF hc1) rfl<|aL e69_7 ?_
 exact Jj1 (Le.refl _) st1 rfl dU M2 M1 H
theorem F42 : S42 := by
 intro aS bW cK bX cY p1 w0 h0 hh dU Mp0 r H
 unfold m42 at H
 refine aP (fn := Try.f42) Try.func42 rfl (Nat.le_of_ble_eq_true rfl) ?_
 show Run X42 [.code c42_0] (fun t => List.getD [.pointer (some ⟨aS,0,none⟩),.string p1] t undef) w0 (.fn (Q42 w0 h0 aS r))
 have st0 := St.init hh (fun x => x = aS)
 refine aB e42_0<|aA e42_1<|vv rfl (aC (.bool false) rfl)<|aD<|aB e42_2<|aA e42_3<|vv rfl (aE (.pointer (some ⟨aS,0,none⟩)) rfl)<|vv rfl (bJ ⟨aS,0,none⟩ rfl)<|vv rfl (aF (b := aS) (o := 0) fl96_0 rfl) ?_
 obtain ⟨r1,hr1,H⟩ := aK H
 refine aU [.pointer (some ⟨aS,0,none⟩)] en69 rfl rfl rfl (F69 st0.has dU Mp0 hr1) ?_
 rintro _ w1 ⟨a1,c1,h1,rfl,sp1,R1,M1⟩
 have st1 := st0.call sp1 (fun x e => (.inr e))
 refine cG (.agg #[I 0,.string ByteArray.empty,I 0]) zr118 rfl rfl (fun b1 w2 al1 => ?_)
 replace al1 : Al _ (.cells (List.toArray [I 0,.string ByteArray.empty,I 0]) 118 (0,0)) b1 w2 := al1
 have M2 := Mut.new st1 al1
 have lb1 := st1.alB al1
 have sp2 := al1.st st1.has
 have M3 := M1.call0 sp2
 have st2 := st1.call0 sp2
 refine aV (o := 0) (n := 3) [I r1.1.Kind,.string r1.1.S,I r1.1.N] [I r1.1.Kind,.string r1.1.S,I r1.1.N] (.agg #[I r1.1.Kind,.string r1.1.S,I r1.1.N]) eG rfl rfl rfl rfl M2 rfl rfl rfl rfl rfl (fun w3 wr1 M4 => ?_)
 have sp3 := wr1.st st2.has M2.none
 have M5 := M3.call sp3 (fun e => ((Mut.ne_ty M3 M2 (by decide)) e))
 have st3 := st2.call sp3 (fun x e => (.inl (e ▸ lb1)))
 obtain ⟨h2,le1,g1,st4,kp1⟩ := M4.fz st3 lb1
 have M6 := M5.fr kp1 (Mut.ne_ty M5 M4 (by decide))
 refine aD<|aB e42_4<|aA e42_5 ?_
 obtain ⟨j1,hj1,H⟩ := dH H
 have Jj1 : ∀ {y1 : Bool} {σ1 : Env} {w4 : World} {h3 : Sto},Le h2 h3 → St w0 (fun x => x = aS) h0 h3 w4 → σ1 4 = .bool y1 → SlR h3 a1 c1 r1.2.1 → Mut h3 w4 aS (.cells (List.toArray [.slice a1 r1.2.1.length c1,.bool r1.2.2]) 96 (0,0)) → j1 y1 = some r → Run X42 [.code c42_6] σ1 w4 (.fn (Q42 w0 h0 aS r)) := by
  intro y1 σ1 w4 h3 le2 st5 s4_j1 R2 M7 H
  rw [hj1] at H
  cases H
  exact aJ e42_6 (cD Try.results42 s4_j1 ⟨a1,c1,h3,rfl,st5,R2,M7⟩)
 refine vv rfl (aE (.pointer (some ⟨aS,0,none⟩)) rfl)<|vv rfl (bJ ⟨aS,0,none⟩ rfl)<|vv rfl (aF (b := aS) (o := 0) fl96_1 rfl)<|vv rfl (aN (.bool r1.2.2) sc4 rfl ((aR M6.get).trans rfl))<|vv rfl (dV r1.2.2 4 rfl)<|vv rfl (aE (.bool (!r1.2.2)) rfl) ?_
 rcases aM H with ⟨hc1,H⟩ | ⟨hc1,H⟩
 · refine aO (wf2 (bN hc1) rfl) rfl<|aO (wf2 (bN hc1) rfl) rfl<|aO (wf2 (bN hc1) rfl) rfl<|aO (wf2 (bN hc1) rfl) rfl<|vv rfl (dE (.bool false) (bN hc1) rfl rfl)<|vv rfl (aE (.bool false) rfl)<|aO (wf (p := false) rfl rfl) rfl<|aO (wf (p := false) rfl rfl) rfl<|aO (wf (p := false) rfl rfl) rfl<|aO (wf (p := false) rfl rfl) rfl ?_
   refine aO (wu rfl) rfl<|aO (wu rfl) rfl<|aO (wu rfl) rfl<|aO (wf (p := false) rfl rfl) rfl<|vv rfl (cA (.bool false) (p := false) rfl rfl rfl)<|vv rfl (aC (.bool false) rfl)<|aD ?_
   exact Jj1 (Le.refl _) st4 rfl (SlR.mono le1 R1) M6 H
 refine bC (wt2 (bQ (bY hc1)) rfl) rfl (aF (b := b1) (o := 0) fl118_1 rfl)<|bC (wt2 (bQ (bY hc1)) rfl) rfl (aN (.string r1.1.S) sc9 rfl ((aR (st4.has _ _ g1)).trans rfl))<|bC (wt2 (bQ (bY hc1)) rfl) rfl (aE (.string p1) rfl)<|bC (wt2 (bQ (bY hc1)) rfl) rfl (x_strEq r1.1.S p1 9 9 rfl rfl)<|vv rfl (dD (.bool (decide (r1.1.S = p1))) (bQ (bY hc1)) rfl rfl)<|vv rfl (aE (.bool (decide (r1.1.S = p1))) rfl) ?_
 rcases aM H with ⟨hc2,H⟩ | ⟨hc2,H⟩
 · refine bC (wt2 (dT hc2) rfl) rfl (aF (b := b1) (o := 0) fl118_0 rfl)<|bC (wt2 (dT hc2) rfl) rfl (aN (I r1.1.Kind) sc3 rfl ((aR (st4.has _ _ g1)).trans rfl))<|bC (wt2 (dT hc2) rfl) rfl (aQ .eql .i64 r1.1.Kind 3 (.bool (decide (r1.1.Kind = 3))) 3 3 rfl rfl rfl)<|bC (wt2 (dT hc2) rfl) rfl (aE (.bool (decide (r1.1.Kind = 3))) rfl) ?_
   rcases aM H with ⟨hc3,H⟩ | ⟨hc3,H⟩
   · refine aO (wf2 (dT hc3) rfl) rfl<|aO (wf2 (dT hc3) rfl) rfl<|aO (wf2 (dT hc3) rfl) rfl<|bC (wt2 (dT hc2) rfl) rfl (dD (.bool true) (dT hc3) rfl rfl)<|vv rfl (dD (.bool true) (dT hc2) rfl rfl)<|vv rfl (aC (.bool true) rfl)<|aD ?_
     exact Jj1 (Le.refl _) st4 rfl (SlR.mono le1 R1) M6 H
   refine bC (wt2 (dF hc3) rfl) rfl (aF (b := b1) (o := 0) fl118_0 rfl)<|bC (wt2 (dF hc3) rfl) rfl (aN (I r1.1.Kind) sc3 rfl ((aR (st4.has _ _ g1)).trans rfl))<|bC (wt2 (dF hc3) rfl) rfl (aQ .eql .i64 r1.1.Kind 1 (.bool (decide (r1.1.Kind = 1))) 3 3 rfl rfl rfl)<|bC (wt2 (dT hc2) rfl) rfl (dE (.bool (decide (r1.1.Kind = 1))) (dF hc3) rfl rfl)<|vv rfl (dD (.bool (decide (r1.1.Kind = 1))) (dT hc2) rfl rfl)<|vv rfl (aC (.bool (decide (r1.1.Kind = 1))) rfl)<|aD ?_
   exact Jj1 (Le.refl _) st4 rfl (SlR.mono le1 R1) M6 H
 refine aO (wf2 (dF hc2) rfl) rfl<|aO (wf2 (dF hc2) rfl) rfl<|aO (wf2 (dF hc2) rfl) rfl<|aO (wf2 (dF hc2) rfl) rfl<|aO (wu rfl) rfl<|aO (wu rfl) rfl<|aO (wu rfl) rfl<|aO (wf2 (dF hc2) rfl) rfl<|vv rfl (dE (.bool false) (dF hc2) rfl rfl)<|vv rfl (aC (.bool false) rfl) ?_
 refine aD ?_
 exact Jj1 (Le.refl _) st4 rfl (SlR.mono le1 R1) M6 H
theorem F88 : S88 := by
 intro aS bW cK bX cY p1 w0 h0 hh dU Mp0 r H
 unfold m88 at H
 refine aP (fn := Try.f88) Try.func88 rfl (Nat.le_of_ble_eq_true rfl) ?_
 show Run X88 [.code c88_0] (fun t => List.getD [.pointer (some ⟨aS,0,none⟩),.string p1] t undef) w0 (.fn (Q88 w0 h0 aS r))
 have st0 := St.init hh (fun x => x = aS)
 refine aB e88_0<|aA e88_1<|vv rfl (aC (.bool false) rfl)<|aD<|aB e88_2<|aA e88_3<|vv rfl (aE (.pointer (some ⟨aS,0,none⟩)) rfl)<|vv rfl (aE (.string p1) rfl) ?_
 obtain ⟨r1,hr1,H⟩ := aK H
 refine aU [.pointer (some ⟨aS,0,none⟩),.string p1] en42 rfl rfl rfl (F42 st0.has dU Mp0 hr1) ?_
 rintro _ w1 ⟨a1,c1,h1,rfl,sp1,R1,M1⟩
 have st1 := st0.call sp1 (fun x e => (.inr e))
 refine vv rfl (aC (.bool r1.1) rfl)<|aD<|aB e88_4<|aB e88_5<|aA e88_6<|vv rfl (aE (.bool r1.1) rfl)<|aD ?_
 obtain ⟨j1,hj1,H⟩ := dH H
 have Jj1 : ∀ {y1 : (List GToken)} {a3 : OA} {c3 : Nat} {σ1 : Env} {w3 : World} {h2 : Sto},Le h1 h2 → St w0 (fun x => x = aS) h0 h2 w3 → σ1 5 = .bool r1.1 → SlR h2 a3 c3 y1 → Mut h2 w3 aS (.cells (List.toArray [.slice a3 y1.length c3,.bool r1.2.2]) 96 (0,0)) → j1 y1 = some r → Run X88 [.code c88_10] σ1 w3 (.fn (Q88 w0 h0 aS r)) := by
  intro y1 a3 c3 σ1 w3 h2 le1 st3 s5_j1 R3 M3 H
  rw [hj1] at H
  refine aB e88_10<|aA e88_11<|vv rfl (aE (.bool r1.1) s5_j1)<|vv rfl (aC (.bool r1.1) rfl)<|aD ?_
  cases H
  exact aJ e88_12 (cD Try.results88 rfl ⟨a3,c3,h2,rfl,st3,R3,M3⟩)
 rcases aM H with ⟨hc1,H⟩ | ⟨hc1,H⟩
 · refine tr e88_7 hc1 rfl<|aA e88_8<|vv rfl (aE (.pointer (some ⟨aS,0,none⟩)) rfl)<|vv rfl (aE (.pointer (some ⟨aS,0,none⟩)) rfl)<|vv rfl (bJ ⟨aS,0,none⟩ rfl)<|vv rfl (aF (b := aS) (o := 0) fl96_0 rfl)<|vv rfl (aF (b := aS) (o := 0) fl94_0 rfl)<|vv rfl (aN (.slice a1 r1.2.1.length c1) sc87 rfl ((aR M1.get).trans rfl)) ?_
   obtain ⟨hs1,H⟩ := cC H
   obtain ⟨a2,c2,ha1,hc2,R2⟩ := SlR.slice2 (lo := 1) (hi := (r1.2.1.length : Int)) R1 hs1.1 hs1.2.1 hs1.2.2
   refine vv rfl (fM (l := 1) (h := (r1.2.1.length : Int)) (kl := .i64) (kh := .i64) r1.2.1 rfl u87 eG rfl rfl rfl hs1.1 hs1.2.1 hs1.2.2 R1.lc ha1 hc2)<|vv rfl (bJ ⟨aS,0,none⟩ rfl)<|vv rfl (aF (b := aS) (o := 0) fl96_0 rfl)<|vv rfl (aF (b := aS) (o := 0) fl94_0 rfl)<|aV (o := 0) (n := 1) [.slice a2 (((r1.2.1.take ((r1.2.1.length : Int) : Int).toNat).drop (1 : Int).toNat).length) c2] [.slice a2 (((r1.2.1.take ((r1.2.1.length : Int) : Int).toNat).drop (1 : Int).toNat).length) c2,.bool r1.2.2] (.slice a2 (((r1.2.1.take ((r1.2.1.length : Int) : Int).toNat).drop (1 : Int).toNat).length) c2) sz87 rfl rfl rfl rfl M1 rfl rfl rfl rfl rfl (fun w2 wr1 M2 => ?_)
   have sp2 := wr1.st st1.has M1.none
   have st2 := st1.call sp2 (fun x e => (.inr e))
   refine aD ?_
   exact Jj1 (Le.refl _) st2 rfl R2 M2 H
 refine fa e88_7 (bY hc1) rfl<|aL e88_9 ?_
 exact Jj1 (Le.refl _) st1 rfl R1 M1 H
theorem F70 : S70 := by
 intro aS bW cK bX cY p1 w0 h0 hh dU Mp0 r H
 unfold m70 at H
 refine aP (fn := Try.f70) Try.func70 rfl (Nat.le_of_ble_eq_true rfl) ?_
 show Run X70 [.code c70_0] (fun t => List.getD [.pointer (some ⟨aS,0,none⟩),.string p1] t undef) w0 (.fn (Q70 w0 h0 aS r))
 have st0 := St.init hh (fun x => x = aS)
 refine aB e70_0<|aA e70_1<|vv rfl (aE (.pointer (some ⟨aS,0,none⟩)) rfl)<|vv rfl (aE (.string p1) rfl) ?_
 obtain ⟨r1,hr1,H⟩ := aK H
 refine aU [.pointer (some ⟨aS,0,none⟩),.string p1] en88 rfl rfl rfl (F88 st0.has dU Mp0 hr1) ?_
 rintro _ w1 ⟨a1,c1,h1,rfl,sp1,R1,M1⟩
 have st1 := st0.call sp1 (fun x e => (.inr e))
 refine vv rfl (dV r1.1 4 rfl)<|aD ?_
 obtain ⟨j1,hj1,H⟩ := dH H
 have Jj1 : ∀ {y1 : Bool} {σ1 : Env} {w3 : World} {h2 : Sto},Le h1 h2 → St w0 (fun x => x = aS) h0 h2 w3 → SlR h2 a1 c1 r1.2.1 → Mut h2 w3 aS (.cells (List.toArray [.slice a1 r1.2.1.length c1,.bool y1]) 96 (0,0)) → j1 y1 = some r → Run X70 [] σ1 w3 (.fn (Q70 w0 h0 aS r)) := by
  intro y1 σ1 w3 h2 le1 st3 R2 M3 H
  rw [hj1] at H
  cases H
  exact run_end (res0 Try.results70 ⟨a1,c1,h2,rfl,st3,R2,M3⟩)
 rcases aM H with ⟨hc1,H⟩ | ⟨hc1,H⟩
 · refine fa e70_2 (bN hc1) rfl<|aL e70_4 ?_
   exact Jj1 (Le.refl _) st1 R1 M1 H
 refine tr e70_2 (bQ (bY hc1)) rfl<|aA e70_3<|vv rfl (aE (.pointer (some ⟨aS,0,none⟩)) rfl)<|vv rfl (bJ ⟨aS,0,none⟩ rfl)<|vv rfl (aF (b := aS) (o := 0) fl96_1 rfl)<|aV (o := 1) (n := 1) [.bool true] [.slice a1 r1.2.1.length c1,.bool true] (.bool true) sz4 rfl rfl rfl rfl M1 rfl rfl rfl rfl rfl (fun w2 wr1 M2 => ?_)
 have sp2 := wr1.st st1.has M1.none
 have st2 := st1.call sp2 (fun x e => (.inr e))
 refine aD ?_
 exact Jj1 (Le.refl _) st2 R1 M2 H
theorem F74 : S74 := by
 intro aS bW cK bX cY p1 w0 h0 hh dU Mp0 r H
 unfold m74 at H
 refine aP (fn := Try.f74) Try.func74 rfl (Nat.le_of_ble_eq_true rfl) ?_
 show Run X74 [.code c74_0] (fun t => List.getD [.pointer (some ⟨aS,0,none⟩),I p1] t undef) w0 (.fn (Q74 w0 h0 aS r))
 have st0 := St.init hh (fun x => x = aS)
 refine aB e74_0<|aA e74_1<|cG (.agg #[I 0,.string ByteArray.empty,I 0]) zr118 rfl rfl (fun b1 w1 al1 => ?_)
 replace al1 : Al _ (.cells (List.toArray [I 0,.string ByteArray.empty,I 0]) 118 (0,0)) b1 w1 := al1
 have M1 := Mut.new st0 al1
 have lb1 := st0.alB al1
 have sp1 := al1.st st0.has
 have M2 := Mp0.call0 sp1
 have st1 := st0.call0 sp1
 refine aD<|aB e74_2<|aA e74_3<|vv rfl (aE (.pointer (some ⟨aS,0,none⟩)) rfl)<|vv rfl (bJ ⟨aS,0,none⟩ rfl)<|vv rfl (aF (b := aS) (o := 0) fl96_0 rfl) ?_
 obtain ⟨r1,hr1,H⟩ := aK H
 refine aU [.pointer (some ⟨aS,0,none⟩)] en69 rfl rfl rfl (F69 st1.has dU M2 hr1) ?_
 rintro _ w2 ⟨a1,c1,h1,rfl,sp2,R1,M3⟩
 have M4 := M1.call sp2 (fun e => ((Mut.ne_ty M1 M2 (by decide)) e))
 have st2 := st1.call sp2 (fun x e => (.inr e))
 refine cG (.agg #[I 0,.string ByteArray.empty,I 0]) zr118 rfl rfl (fun b2 w3 al2 => ?_)
 replace al2 : Al _ (.cells (List.toArray [I 0,.string ByteArray.empty,I 0]) 118 (0,0)) b2 w3 := al2
 have ne1 := M4.ne_al al2
 have M5 := Mut.new st2 al2
 have lb2 := st2.alB al2
 have sp3 := al2.st st2.has
 have M6 := M3.call0 sp3
 have M7 := M4.call0 sp3
 have st3 := st2.call0 sp3
 refine aV (o := 0) (n := 3) [I r1.1.Kind,.string r1.1.S,I r1.1.N] [I r1.1.Kind,.string r1.1.S,I r1.1.N] (.agg #[I r1.1.Kind,.string r1.1.S,I r1.1.N]) eG rfl rfl rfl rfl M5 rfl rfl rfl rfl rfl (fun w4 wr1 M8 => ?_)
 have sp4 := wr1.st st3.has M5.none
 have M9 := M6.call sp4 (fun e => ((Mut.ne_ty M6 M5 (by decide)) e))
 have M10 := M7.call sp4 (fun e => (ne1 e))
 have st4 := st3.call sp4 (fun x e => (.inl (e ▸ lb2)))
 obtain ⟨h2,le1,g1,st5,kp1⟩ := M8.fz st4 lb2
 have M11 := M9.fr kp1 (Mut.ne_ty M9 M8 (by decide))
 have M12 := M10.fr kp1 ne1
 refine aD<|aB e74_4<|aB e74_5<|aA e74_6<|vv rfl (aE (.pointer (some ⟨aS,0,none⟩)) rfl)<|vv rfl (bJ ⟨aS,0,none⟩ rfl)<|vv rfl (aF (b := aS) (o := 0) fl96_1 rfl)<|vv rfl (aN (.bool r1.2.2) sc4 rfl ((aR M11.get).trans rfl))<|vv rfl (aE (.bool r1.2.2) rfl) ?_
 rcases aM H with ⟨hc1,H⟩ | ⟨hc1,H⟩
 · refine aO (wf2 hc1 rfl) rfl<|aO (wf2 hc1 rfl) rfl<|aO (wf2 hc1 rfl) rfl<|aO (wf2 hc1 rfl) rfl<|vv rfl (dD (.bool true) hc1 rfl rfl)<|aD<|cZ e74_7 (p := true) rfl rfl<|aB e74_8<|aA e74_9<|vv rfl (aE (.pointer (some ⟨aS,0,none⟩)) rfl) ?_
   refine vv rfl (bJ ⟨aS,0,none⟩ rfl)<|vv rfl (aF (b := aS) (o := 0) fl96_1 rfl)<|aV (o := 1) (n := 1) [.bool true] [.slice a1 r1.2.1.length c1,.bool true] (.bool true) sz4 rfl rfl rfl rfl M11 rfl rfl rfl rfl rfl (fun w5 wr2 M13 => ?_)
   have sp5 := wr2.st st5.has M11.none
   have M14 := M12.call sp5 (fun e => ((Mut.ne_ty M12 M11 (by decide)) e))
   have st6 := st5.call sp5 (fun x e => (.inr e))
   refine aD<|aB e74_10<|aA e74_11<|vv rfl (dJ (vs := [I 0,.string ByteArray.empty,I 0]) [] bd118 rfl rfl)<|aV (o := 0) (n := 3) [I 0,.string ByteArray.empty,I 0] [I 0,.string ByteArray.empty,I 0] (.agg #[I 0,.string ByteArray.empty,I 0]) eG rfl rfl rfl rfl M14 rfl rfl rfl rfl rfl (fun w6 wr3 M15 => ?_)
   have sp6 := wr3.st st6.has M14.none
   have M16 := M13.call sp6 (fun e => ((Mut.ne_ty M13 M14 (by decide)) e))
   have st7 := st6.call sp6 (fun x e => (.inl (e ▸ lb1)))
   refine aD ?_
   cases H
   exact aJ e74_12 (cD Try.results74 (eH [I 0,.string ByteArray.empty,I 0] ag118 eG rfl rfl (bA M15.get rfl)) ⟨a1,c1,h2,rfl,st7,(SlR.mono le1 R1),M16⟩)
 refine bC (wt2 (bY hc1) rfl) rfl (aF (b := b2) (o := 0) fl118_0 rfl)<|bC (wt2 (bY hc1) rfl) rfl (aN (I r1.1.Kind) sc3 rfl ((aR (st5.has _ _ g1)).trans rfl))<|bC (wt2 (bY hc1) rfl) rfl (aE (I p1) rfl)<|bC (wt2 (bY hc1) rfl) rfl (aQ .neq .i64 r1.1.Kind p1 (.bool (!decide (r1.1.Kind = p1))) 3 3 rfl rfl rfl)<|vv rfl (dE (.bool (!decide (r1.1.Kind = p1))) (bY hc1) rfl rfl)<|aD ?_
 rcases aM H with ⟨hc2,H⟩ | ⟨hc2,H⟩
 · refine fa e74_7 (bN (dT hc2)) rfl<|aL e74_13<|aB e74_14<|aA e74_15<|vv rfl (aE (.pointer (some ⟨aS,0,none⟩)) rfl)<|vv rfl (aE (.pointer (some ⟨aS,0,none⟩)) rfl)<|vv rfl (bJ ⟨aS,0,none⟩ rfl)<|vv rfl (aF (b := aS) (o := 0) fl96_0 rfl)<|vv rfl (aF (b := aS) (o := 0) fl94_0 rfl)<|vv rfl (aN (.slice a1 r1.2.1.length c1) sc87 rfl ((aR M11.get).trans rfl)) ?_
   obtain ⟨hs1,H⟩ := cC H
   obtain ⟨a2,c2,ha1,hc3,R2⟩ := SlR.slice2 (lo := 1) (hi := (r1.2.1.length : Int)) (SlR.mono le1 R1) hs1.1 hs1.2.1 hs1.2.2
   refine vv rfl (fM (l := 1) (h := (r1.2.1.length : Int)) (kl := .i64) (kh := .i64) r1.2.1 rfl u87 eG rfl rfl rfl hs1.1 hs1.2.1 hs1.2.2 (SlR.mono le1 R1).lc ha1 hc3)<|vv rfl (bJ ⟨aS,0,none⟩ rfl)<|vv rfl (aF (b := aS) (o := 0) fl96_0 rfl)<|vv rfl (aF (b := aS) (o := 0) fl94_0 rfl)<|aV (o := 0) (n := 1) [.slice a2 (((r1.2.1.take ((r1.2.1.length : Int) : Int).toNat).drop (1 : Int).toNat).length) c2] [.slice a2 (((r1.2.1.take ((r1.2.1.length : Int) : Int).toNat).drop (1 : Int).toNat).length) c2,.bool r1.2.2] (.slice a2 (((r1.2.1.take ((r1.2.1.length : Int) : Int).toNat).drop (1 : Int).toNat).length) c2) sz87 rfl rfl rfl rfl M11 rfl rfl rfl rfl rfl (fun w9 wr6 M21 => ?_)
   have sp9 := wr6.st st5.has M11.none
   have M22 := M12.call sp9 (fun e => ((Mut.ne_ty M12 M11 (by decide)) e))
   have st10 := st5.call sp9 (fun x e => (.inr e))
   refine aD<|aB e74_16<|aA e74_17<|vv rfl (bH [I r1.1.Kind,.string r1.1.S,I r1.1.N] ag118 eG rfl rfl (bA (st10.has _ _ g1) rfl))<|aV (o := 0) (n := 3) [I r1.1.Kind,.string r1.1.S,I r1.1.N] [I r1.1.Kind,.string r1.1.S,I r1.1.N] (.agg #[I r1.1.Kind,.string r1.1.S,I r1.1.N]) eG rfl rfl rfl rfl M22 rfl rfl rfl rfl rfl (fun w10 wr7 M23 => ?_)
   have sp10 := wr7.st st10.has M22.none
   have M24 := M21.call sp10 (fun e => ((Mut.ne_ty M21 M22 (by decide)) e))
   have st11 := st10.call sp10 (fun x e => (.inl (e ▸ lb1)))
   refine aD ?_
   cases H
   exact aJ e74_18 (cD Try.results74 (eH [I r1.1.Kind,.string r1.1.S,I r1.1.N] ag118 eG rfl rfl (bA M23.get rfl)) ⟨a2,c2,h2,rfl,st11,R2,M24⟩)
 refine tr e74_7 (bQ (dF hc2)) rfl<|aB e74_8<|aA e74_9<|vv rfl (aE (.pointer (some ⟨aS,0,none⟩)) rfl)<|vv rfl (bJ ⟨aS,0,none⟩ rfl)<|vv rfl (aF (b := aS) (o := 0) fl96_1 rfl)<|aV (o := 1) (n := 1) [.bool true] [.slice a1 r1.2.1.length c1,.bool true] (.bool true) sz4 rfl rfl rfl rfl M11 rfl rfl rfl rfl rfl (fun w7 wr4 M17 => ?_)
 have sp7 := wr4.st st5.has M11.none
 have M18 := M12.call sp7 (fun e => ((Mut.ne_ty M12 M11 (by decide)) e))
 have st8 := st5.call sp7 (fun x e => (.inr e))
 refine aD<|aB e74_10<|aA e74_11<|vv rfl (dJ (vs := [I 0,.string ByteArray.empty,I 0]) [] bd118 rfl rfl)<|aV (o := 0) (n := 3) [I 0,.string ByteArray.empty,I 0] [I 0,.string ByteArray.empty,I 0] (.agg #[I 0,.string ByteArray.empty,I 0]) eG rfl rfl rfl rfl M18 rfl rfl rfl rfl rfl (fun w8 wr5 M19 => ?_)
 have sp8 := wr5.st st8.has M18.none
 have M20 := M17.call sp8 (fun e => ((Mut.ne_ty M17 M18 (by decide)) e))
 have st9 := st8.call sp8 (fun x e => (.inl (e ▸ lb1)))
 refine aD ?_
 cases H
 exact aJ e74_12 (cD Try.results74 (eH [I 0,.string ByteArray.empty,I 0] ag118 eG rfl rfl (bA M19.get rfl)) ⟨a1,c1,h2,rfl,st9,(SlR.mono le1 R1),M20⟩)
theorem F71 (k : Nat) : S71 k := by
 intro aS bW cK bX cY w0 h0 hh dU Mp0 r H
 unfold m71 at H
 refine aP (fn := Try.f71) Try.func71 rfl (Nat.le_of_ble_eq_true rfl) ?_
 show Run X71 [.code c71_0] (fun t => List.getD [.pointer (some ⟨aS,0,none⟩)] t undef) w0 (.fn (Q71 w0 h0 aS r))
 have st0 := St.init hh (fun x => x = aS)
 refine aB e71_0<|aA e71_1<|vv rfl (aC (.string ByteArray.empty) rfl)<|aD<|aB e71_2<|aA e71_3<|vv rfl (aE (.pointer (some ⟨aS,0,none⟩)) rfl) ?_
 obtain ⟨r1,hr1,H⟩ := aK H
 refine aU [.pointer (some ⟨aS,0,none⟩),I 1] en74 rfl rfl rfl (F74 st0.has dU Mp0 hr1) ?_
 rintro _ w1 ⟨a1,c1,h1,rfl,sp1,R1,M1⟩
 have st1 := st0.call sp1 (fun x e => (.inr e))
 refine vv rfl (x_fS (.string r1.1.S) ft118_1 sc9 rfl rfl)<|vv rfl (aC (.string r1.1.S) rfl)<|aD<|aB e71_4<|aB e71_5<|aA e71_6<|vv rfl (aE (.string r1.1.S) rfl) ?_
 obtain ⟨r2,hr2,H⟩ := aK H
 refine aU [.string r1.1.S] en46 rfl rfl rfl (F46 k st1.has hr2) ?_
 rintro _ w2 ⟨h2,rfl,sp2⟩
 have M2 := M1.call0 sp2
 have st2 := st1.call0 sp2
 refine vv rfl (dV r2 4 rfl)<|aD ?_
 obtain ⟨j1,hj1,H⟩ := dH H
 have Jj1 : ∀ {y1 : Bool} {σ1 : Env} {w4 : World} {h3 : Sto},Le h2 h3 → St w0 (fun x => x = aS) h0 h3 w4 → σ1 3 = .string r1.1.S → SlR h3 a1 c1 r1.2.1 → Mut h3 w4 aS (.cells (List.toArray [.slice a1 r1.2.1.length c1,.bool y1]) 96 (0,0)) → j1 y1 = some r → Run X71 [.code c71_10] σ1 w4 (.fn (Q71 w0 h0 aS r)) := by
  intro y1 σ1 w4 h3 le1 st4 s3_j1 R2 M4 H
  rw [hj1] at H
  refine aB e71_10<|aA e71_11<|vv rfl (aE (.string r1.1.S) s3_j1)<|vv rfl (aC (.string r1.1.S) rfl)<|aD ?_
  cases H
  exact aJ e71_12 (cD Try.results71 rfl ⟨a1,c1,h3,rfl,st4,R2,M4⟩)
 rcases aM H with ⟨hc1,H⟩ | ⟨hc1,H⟩
 · refine fa e71_7 (bN hc1) rfl<|aL e71_9 ?_
   exact Jj1 (Le.refl _) st2 rfl (SlR.mono sp2.le R1) M2 H
 refine tr e71_7 (bQ (bY hc1)) rfl<|aA e71_8<|vv rfl (aE (.pointer (some ⟨aS,0,none⟩)) rfl)<|vv rfl (bJ ⟨aS,0,none⟩ rfl)<|vv rfl (aF (b := aS) (o := 0) fl96_1 rfl)<|aV (o := 1) (n := 1) [.bool true] [.slice a1 r1.2.1.length c1,.bool true] (.bool true) sz4 rfl rfl rfl rfl M2 rfl rfl rfl rfl rfl (fun w3 wr1 M3 => ?_)
 have sp3 := wr1.st st2.has M2.none
 have st3 := st2.call sp3 (fun x e => (.inr e))
 refine aD ?_
 exact Jj1 (Le.refl _) st3 rfl (SlR.mono sp2.le R1) M3 H
theorem F73 : S73 := by
 intro aS bW cK bX cY w0 h0 hh dU Mp0 r H
 unfold m73 at H
 refine aP (fn := Try.f73) Try.func73 rfl (Nat.le_of_ble_eq_true rfl) ?_
 show Run X73 [.code c73_0] (fun t => List.getD [.pointer (some ⟨aS,0,none⟩)] t undef) w0 (.fn (Q73 w0 h0 aS r))
 have st0 := St.init hh (fun x => x = aS)
 refine aB e73_0<|aA e73_1<|vv rfl (aC (I 0) rfl)<|aD<|aB e73_2<|aA e73_3<|vv rfl (aE (.pointer (some ⟨aS,0,none⟩)) rfl) ?_
 obtain ⟨r1,hr1,H⟩ := aK H
 refine aU [.pointer (some ⟨aS,0,none⟩),I 2] en74 rfl rfl rfl (F74 st0.has dU Mp0 hr1) ?_
 rintro _ w1 ⟨a1,c1,h1,rfl,sp1,R1,M1⟩
 have st1 := st0.call sp1 (fun x e => (.inr e))
 refine vv rfl (x_fS (I r1.1.N) ft118_2 sc2 rfl rfl)<|vv rfl (aC (I r1.1.N) rfl)<|aD ?_
 cases H
 exact aJ e73_4 (cD Try.results73 rfl ⟨a1,c1,h1,rfl,st1,R1,M1⟩)
abbrev ZSLl72_0 (k : Nat) : Prop := SLl72_0 k
theorem SLl72_0_z : SLl72_0 0 := by
  unfold SLl72_0; intros; rename_i H; exact absurd H (by simp [l72_0])
theorem SLl72_0_s (k : Nat) (ih : ZSLl72_0 k) : SLl72_0 (k + 1) := by
 intro aS c3 c4 w0 w h0 h σ l1 a3 a4 b1 b2 l2 r st s0 s1 s4 s5 R3 M3 O1 H
 rw [l72_0] at H
 refine aB e72_17<|aB e72_18<|aA e72_19<|vv rfl (aE (.bool b2) s5)<|vv rfl (aE (.bool b2) rfl) ?_
 rcases aM H with ⟨hc2,H⟩ | ⟨hc2,H⟩
 · refine bC (wt2 hc2 rfl) rfl (aE (.pointer (some ⟨aS,0,none⟩)) s0)<|bC (wt2 hc2 rfl) rfl (bJ ⟨aS,0,none⟩ rfl)<|bC (wt2 hc2 rfl) rfl (aF (b := aS) (o := 0) fl96_1 rfl)<|bC (wt2 hc2 rfl) rfl (aN (.bool b1) sc4 rfl ((aR M3.get).trans rfl))<|bC (wt2 hc2 rfl) rfl (dV b1 4 rfl)<|vv rfl (dD (.bool (!b1)) hc2 rfl rfl)<|aD ?_
   rcases aM H with ⟨hc3,H⟩ | ⟨hc3,H⟩
   · refine fa e72_20 (bN hc3) rfl<|bO e72_22 rfl<|aB e72_27<|aA e72_28<|vv rfl (aE (.pointer (some ⟨aS,0,none⟩)) s0) ?_
     obtain ⟨r3,hr3,H⟩ := aK H
     refine aU [.pointer (some ⟨aS,0,none⟩),.string (⟨#[93]⟩ : ByteArray)] en70 rfl rfl rfl (F70 st.has R3 M3 hr3) ?_
     rintro _ w3 ⟨a5,c5,h3,rfl,sp3,R4,M4⟩
     have O2 := O1.call sp3 (fun x hx e => (absurd (e ▸ hx) (O1.ne_mut M3 (by decide))))
     have st3 := st.call sp3 (fun x e => (.inr e))
     refine aD<|aB e72_29<|aA e72_30<|vv rfl (aE (.slice a4 l2.length c4) s4)<|vv rfl (aC (.slice a4 l2.length c4) rfl)<|aD ?_
     obtain ⟨h4,le1,st4,R5,kp1⟩ := O2.frz st3 (Nat.le_refl _)
     have M5 := M4.frB kp1 (O2.ne_mut M4 (by decide))
     cases H
     exact aJ e72_31 (cD Try.results72 rfl ⟨a4,c4,a5,c5,h4,rfl,st4,R5,(SlR.mono le1 R4),M5⟩)
   refine tr e72_20 (bQ (bY hc3)) rfl<|aL e72_21<|aB e72_23<|aT e72_24<|aA e72_25<|vv rfl (aE (.slice a4 l2.length c4) s4)<|vv rfl (aE (.func (.func 73) #[.pointer (some ⟨aS,0,none⟩)] #[]) s1) ?_
   obtain ⟨r5,hr5,H⟩ := aK H
   refine dQ [.pointer (some ⟨aS,0,none⟩)] [] [] [.pointer (some ⟨aS,0,none⟩)] en73 rfl rfl rfl rfl rfl (F73 st.has R3 M3 hr5) ?_
   rintro _ w5 ⟨a7,c7,h7,rfl,sp5,R8,M8⟩
   have O4 := O1.call sp5 (fun x hx e => (absurd (e ▸ hx) (O1.ne_mut M3 (by decide))))
   have st7 := st.call sp5 (fun x e => (.inr e))
   refine cF [I 0] [I r5.1] [(0,I r5.1)] u43 sz3 zr3 rfl rfl rfl rfl (by kernel_rfl) rfl (by kernel_rfl) (fun b3 w6 al1 => ?_)
   have li1 : Lits h7 [[I r5.1]] ([r5.1] : List Int) := (Lits.cons rfl Lits.nil)
   obtain ⟨h8,le3,g1,sp6⟩ := al1.fz st7.has
   have M9 := M8.call0 sp6
   have O5 := O4.call0 sp6
   have st8 := st7.call0 sp6
   have R9 : SlR _ _ _ ([r5.1] : List Int) := Lits.sl (n := 1) (Lits.mono le3 li1) rfl rfl (by decide) g1
   obtain ⟨hs1,H⟩ := cC H
   refine eF (α := Int) (B := w0.heap.size) (l := l2) (l2 := ([r5.1] : List Int)) u43 u43 ap3 rfl rfl rfl rfl st8.has st8.sp.size O5 R9 rfl rfl hs1 (fun a8 c8 w7 O6 sp7 bl1 => ?_)
   have M10 := M9.call sp7 (fun e => ((O5.ne_mut M9 (by decide)) e))
   have st9 := st8.call sp7 (fun x e => (.inl (O5.lbs x e)))
   refine vv rfl (aC (.slice a8 ((l2 ++ ([r5.1] : List Int)).length) c8) rfl)<|aD<|aZ<|aA e72_26<|vv rfl (aE (.pointer (some ⟨aS,0,none⟩)) s0) ?_
   obtain ⟨r6,hr6,H⟩ := aK H
   refine aU [.pointer (some ⟨aS,0,none⟩),.string (⟨#[44]⟩ : ByteArray)] en88 rfl rfl rfl (F88 st9.has (SlR.mono le3 R8) M10 hr6) ?_
   rintro _ w8 ⟨a9,c9,h9,rfl,sp8,R10,M11⟩
   have O7 := O6.call sp8 (fun x hx e => (absurd (e ▸ hx) (O6.ne_mut M10 (by decide))))
   have st10 := st9.call sp8 (fun x e => (.inr e))
   refine vv rfl (aC (.bool r6.1) rfl)<|aD<|bI ?_
   exact ih st10 s0 s1 rfl rfl R10 M11 O7 H
 refine aO (wf2 (bY hc2) rfl) rfl<|aO (wf2 (bY hc2) rfl) rfl<|aO (wf2 (bY hc2) rfl) rfl<|aO (wf2 (bY hc2) rfl) rfl<|aO (wf2 (bY hc2) rfl) rfl<|vv rfl (dE (.bool false) (bY hc2) rfl rfl)<|aD<|dK e72_20 (p := false) rfl rfl<|bO e72_22 rfl<|aB e72_27 ?_
 refine aA e72_28<|vv rfl (aE (.pointer (some ⟨aS,0,none⟩)) s0) ?_
 obtain ⟨r4,hr4,H⟩ := aK H
 refine aU [.pointer (some ⟨aS,0,none⟩),.string (⟨#[93]⟩ : ByteArray)] en70 rfl rfl rfl (F70 st.has R3 M3 hr4) ?_
 rintro _ w4 ⟨a6,c6,h5,rfl,sp4,R6,M6⟩
 have O3 := O1.call sp4 (fun x hx e => (absurd (e ▸ hx) (O1.ne_mut M3 (by decide))))
 have st5 := st.call sp4 (fun x e => (.inr e))
 refine aD<|aB e72_29<|aA e72_30<|vv rfl (aE (.slice a4 l2.length c4) s4)<|vv rfl (aC (.slice a4 l2.length c4) rfl)<|aD ?_
 obtain ⟨h6,le2,st6,R7,kp2⟩ := O3.frz st5 (Nat.le_refl _)
 have M7 := M6.frB kp2 (O3.ne_mut M6 (by decide))
 cases H
 exact aJ e72_31 (cD Try.results72 rfl ⟨a4,c4,a6,c6,h6,rfl,st6,R7,(SlR.mono le2 R6),M7⟩)
theorem ZSLl72_0_all : ∀ k,ZSLl72_0 k
  | 0 => SLl72_0_z
  | k + 1 => SLl72_0_s k (ZSLl72_0_all k)
theorem Fl72_0 (k : Nat) : SLl72_0 k := (ZSLl72_0_all k)
theorem F72 (k : Nat) : S72 k := by
 intro aS bW cK bX cY w0 h0 hh dU Mp0 r H
 unfold m72 at H
 refine aP (fn := Try.f72) Try.func72 rfl (Nat.le_of_ble_eq_true rfl) ?_
 show Run X72 [.code c72_0] (fun t => List.getD [.pointer (some ⟨aS,0,none⟩),.func (.func 73) #[.pointer (some ⟨aS,0,none⟩)] #[]] t undef) w0 (.fn (Q72 w0 h0 aS r))
 have st0 := St.init hh (fun x => x = aS)
 refine aB e72_0<|aA e72_1<|vv rfl (aC (.slice none 0 0) rfl)<|aD<|aB e72_2<|aA e72_3<|vv rfl (aE (.pointer (some ⟨aS,0,none⟩)) rfl) ?_
 obtain ⟨r1,hr1,H⟩ := aK H
 refine aU [.pointer (some ⟨aS,0,none⟩),.string (⟨#[91]⟩ : ByteArray)] en70 rfl rfl rfl (F70 st0.has dU Mp0 hr1) ?_
 rintro _ w1 ⟨a1,c1,h1,rfl,sp1,R1,M1⟩
 have st1 := st0.call sp1 (fun x e => (.inr e))
 refine aD<|aB e72_4<|aB e72_5<|aA e72_6<|vv rfl (aE (.pointer (some ⟨aS,0,none⟩)) rfl) ?_
 obtain ⟨r2,hr2,H⟩ := aK H
 refine aU [.pointer (some ⟨aS,0,none⟩),.string (⟨#[93]⟩ : ByteArray)] en88 rfl rfl rfl (F88 st1.has R1 M1 hr2) ?_
 rintro _ w2 ⟨a2,c2,h2,rfl,sp2,R2,M2⟩
 have st2 := st1.call sp2 (fun x e => (.inr e))
 refine aD ?_
 rcases aM H with ⟨hc1,H⟩ | ⟨hc1,H⟩
 · refine tr e72_7 hc1 rfl<|aB e72_8<|aA e72_9<|vv rfl (aC (.slice none 0 0) rfl)<|aD ?_
   cases H
   exact aJ e72_10 (cD Try.results72 rfl ⟨none,0,a2,c2,h2,rfl,st2,(SlR.none _),R2,M2⟩)
 refine fa e72_7 (bY hc1) rfl<|aL e72_11<|aB e72_12<|aB e72_13<|aA e72_14<|vv rfl (aC (.bool true) rfl)<|aD<|aT e72_15<|bZ e72_16 ?_
 exact Fl72_0 k st2 rfl rfl rfl rfl R2 M2 (Own.nil _ _ _ _) H
theorem F43 (k : Nat) : S43 k := by
 intro aS bW cK bX cY w0 h0 hh dU Mp0 r H
 unfold m43 at H
 refine aP (fn := Try.f43) Try.func43 rfl (Nat.le_of_ble_eq_true rfl) ?_
 show Run X43 [.code c43_0] (fun t => List.getD [.pointer (some ⟨aS,0,none⟩)] t undef) w0 (.fn (Q43 w0 h0 aS r))
 have st0 := St.init hh (fun x => x = aS)
 refine aB e43_0<|aA e43_1<|cG (.agg #[.string ByteArray.empty,.slice none 0 0,.string ByteArray.empty,I 0]) zr45 rfl rfl (fun b1 w1 al1 => ?_)
 replace al1 : Al _ (.cells (List.toArray [.string ByteArray.empty,.slice none 0 0,.string ByteArray.empty,I 0]) 45 (0,0)) b1 w1 := al1
 have M1 := Mut.new st0 al1
 have lb1 := st0.alB al1
 have sp1 := al1.st st0.has
 have M2 := Mp0.call0 sp1
 have st1 := st0.call0 sp1
 refine aD<|aB e43_2<|aA e43_3<|vv rfl (aE (.pointer (some ⟨aS,0,none⟩)) rfl) ?_
 obtain ⟨r1,hr1,H⟩ := aK H
 refine aU [.pointer (some ⟨aS,0,none⟩),.string (⟨#[116,101,110,115,111,114]⟩ : ByteArray)] en70 rfl rfl rfl (F70 st1.has dU M2 hr1) ?_
 rintro _ w2 ⟨a1,c1,h1,rfl,sp2,R1,M3⟩
 have M4 := M1.call sp2 (fun e => ((Mut.ne_ty M1 M2 (by decide)) e))
 have st2 := st1.call sp2 (fun x e => (.inr e))
 refine aD<|aB e43_4<|aA e43_5<|vv rfl (aE (.pointer (some ⟨aS,0,none⟩)) rfl) ?_
 obtain ⟨r2,hr2,H⟩ := aK H
 refine aU [.pointer (some ⟨aS,0,none⟩)] en71 rfl rfl rfl (F71 k st2.has R1 M3 hr2) ?_
 rintro _ w3 ⟨a2,c2,h2,rfl,sp3,R2,M5⟩
 have M6 := M4.call sp3 (fun e => ((Mut.ne_ty M4 M3 (by decide)) e))
 have st3 := st2.call sp3 (fun x e => (.inr e))
 refine vv rfl (aF (b := b1) (o := 0) fl45_0 rfl)<|aV (o := 0) (n := 1) [.string r2.1] [.string r2.1,.slice none 0 0,.string ByteArray.empty,I 0] (.string r2.1) sz9 rfl rfl rfl rfl M6 rfl rfl rfl rfl rfl (fun w4 wr1 M7 => ?_)
 have sp4 := wr1.st st3.has M6.none
 have M8 := M5.call sp4 (fun e => ((Mut.ne_ty M5 M6 (by decide)) e))
 have st4 := st3.call sp4 (fun x e => (.inl (e ▸ lb1)))
 refine aD<|aB e43_6<|aA e43_7<|vv rfl (aE (.pointer (some ⟨aS,0,none⟩)) rfl)<|vv rfl (aE (.pointer (some ⟨aS,0,none⟩)) rfl)<|vv rfl (eU (.func (.func 73) #[.pointer (some ⟨aS,0,none⟩)] #[]) (mf rfl rfl)) ?_
 obtain ⟨r3,hr3,H⟩ := aK H
 refine aU [.pointer (some ⟨aS,0,none⟩),.func (.func 73) #[.pointer (some ⟨aS,0,none⟩)] #[]] en72 rfl rfl rfl (F72 k st4.has R2 M8 hr3) ?_
 rintro _ w5 ⟨a3,c3,a4,c4,h3,rfl,sp5,R3,R4,M9⟩
 have M10 := M7.call sp5 (fun e => ((Mut.ne_ty M7 M8 (by decide)) e))
 have st5 := st4.call sp5 (fun x e => (.inr e))
 refine vv rfl (aF (b := b1) (o := 0) fl45_1 rfl)<|aV (o := 1) (n := 1) [.slice a3 r3.1.length c3] [.string r2.1,.slice a3 r3.1.length c3,.string ByteArray.empty,I 0] (.slice a3 r3.1.length c3) sz43 rfl rfl rfl rfl M10 rfl rfl rfl rfl rfl (fun w6 wr2 M11 => ?_)
 have sp6 := wr2.st st5.has M10.none
 have M12 := M9.call sp6 (fun e => ((Mut.ne_ty M9 M10 (by decide)) e))
 have st6 := st5.call sp6 (fun x e => (.inl (e ▸ lb1)))
 refine aD<|aB e43_8<|aA e43_9<|vv rfl (aE (.pointer (some ⟨aS,0,none⟩)) rfl) ?_
 obtain ⟨r4,hr4,H⟩ := aK H
 refine aU [.pointer (some ⟨aS,0,none⟩),.string (⟨#[58]⟩ : ByteArray)] en70 rfl rfl rfl (F70 st6.has R4 M12 hr4) ?_
 rintro _ w7 ⟨a5,c5,h4,rfl,sp7,R5,M13⟩
 have M14 := M11.call sp7 (fun e => ((Mut.ne_ty M11 M12 (by decide)) e))
 have st7 := st6.call sp7 (fun x e => (.inr e))
 refine aD<|aB e43_10<|aA e43_11<|vv rfl (aE (.pointer (some ⟨aS,0,none⟩)) rfl) ?_
 obtain ⟨r5,hr5,H⟩ := aK H
 refine aU [.pointer (some ⟨aS,0,none⟩),I 1] en74 rfl rfl rfl (F74 st7.has R5 M13 hr5) ?_
 rintro _ w8 ⟨a6,c6,h5,rfl,sp8,R6,M15⟩
 have M16 := M14.call sp8 (fun e => ((Mut.ne_ty M14 M13 (by decide)) e))
 have st8 := st7.call sp8 (fun x e => (.inr e))
 refine vv rfl (x_fS (.string r5.1.S) ft118_1 sc9 rfl rfl)<|vv rfl (aF (b := b1) (o := 0) fl45_2 rfl)<|aV (o := 2) (n := 1) [.string r5.1.S] [.string r2.1,.slice a3 r3.1.length c3,.string r5.1.S,I 0] (.string r5.1.S) sz9 rfl rfl rfl rfl M16 rfl rfl rfl rfl rfl (fun w9 wr3 M17 => ?_)
 have sp9 := wr3.st st8.has M16.none
 have M18 := M15.call sp9 (fun e => ((Mut.ne_ty M15 M16 (by decide)) e))
 have st9 := st8.call sp9 (fun x e => (.inl (e ▸ lb1)))
 refine aD<|aB e43_12<|aB e43_13<|aA e43_14<|vv rfl (aE (.pointer (some ⟨aS,0,none⟩)) rfl)<|vv rfl (bJ ⟨aS,0,none⟩ rfl)<|vv rfl (aF (b := aS) (o := 0) fl96_0 rfl) ?_
 obtain ⟨r6,hr6,H⟩ := aK H
 refine aU [.pointer (some ⟨aS,0,none⟩)] en69 rfl rfl rfl (F69 st9.has R6 M18 hr6) ?_
 rintro _ w10 ⟨a7,c7,h6,rfl,sp10,R7,M19⟩
 have M20 := M17.call sp10 (fun e => ((Mut.ne_ty M17 M18 (by decide)) e))
 have st10 := st9.call sp10 (fun x e => (.inr e))
 refine vv rfl (x_fS (I r6.1.Kind) ft118_0 sc3 rfl rfl)<|vv rfl (aQ .eql .i64 r6.1.Kind 2 (.bool (decide (r6.1.Kind = 2))) 3 3 rfl rfl rfl)<|aD ?_
 obtain ⟨j1,hj1,H⟩ := dH H
 have Jj1 : ∀ {y1 : (List GToken)} {y2 : Bool} {y3 : Int} {a9 : OA} {c9 : Nat} {σ1 : Env} {w13 : World} {h8 : Sto},Le h6 h8 → St w0 (fun x => x = aS) h0 h8 w13 → σ1 2 = .pointer (some ⟨b1,0,none⟩) → SlR h8 a9 c9 y1 → Mut h8 w13 aS (.cells (List.toArray [.slice a9 y1.length c9,.bool y2]) 96 (0,0)) → SlR h8 a3 c3 r3.1 → Mut h8 w13 b1 (.cells (List.toArray [.string r2.1,.slice a3 r3.1.length c3,.string r5.1.S,I y3]) 45 (0,0)) → j1 y1 y2 y3 = some r → Run X43 [.code c43_18] σ1 w13 (.fn (Q43 w0 h0 aS r)) := by
  intro y1 y2 y3 a9 c9 σ1 w13 h8 le1 st13 s2_j1 R9 M25 R10 M26 H
  rw [hj1] at H
  refine aB e43_18<|aA e43_19<|vv rfl (bH [.string r2.1,.slice a3 r3.1.length c3,.string r5.1.S,I y3] ag45 sz45 s2_j1 rfl (bA M26.get rfl))<|aV (o := 0) (n := 4) [.string r2.1,.slice a3 r3.1.length c3,.string r5.1.S,I y3] [.string r2.1,.slice a3 r3.1.length c3,.string r5.1.S,I y3] (.agg #[.string r2.1,.slice a3 r3.1.length c3,.string r5.1.S,I y3]) sz45 rfl rfl s2_j1 rfl M26 rfl rfl rfl rfl rfl (fun w14 wr5 M27 => ?_)
  have sp13 := wr5.st st13.has M26.none
  have M28 := M25.call sp13 (fun e => ((Mut.ne_ty M25 M26 (by decide)) e))
  have st14 := st13.call sp13 (fun x e => (.inl (e ▸ lb1)))
  refine aD ?_
  cases H
  exact aJ e43_20 (cD Try.results43 (eH [.string r2.1,.slice a3 r3.1.length c3,.string r5.1.S,I y3] ag45 sz45 s2_j1 rfl (bA M27.get rfl)) ⟨a3,c3,a9,c9,h8,rfl,st14,R10,R9,M28⟩)
 rcases aM H with ⟨hc1,H⟩ | ⟨hc1,H⟩
 · refine tr e43_15 (dT hc1) rfl<|aA e43_16<|vv rfl (aE (.pointer (some ⟨aS,0,none⟩)) rfl) ?_
   obtain ⟨r7,hr7,H⟩ := aK H
   refine aU [.pointer (some ⟨aS,0,none⟩)] en73 rfl rfl rfl (F73 st10.has R7 M19 hr7) ?_
   rintro _ w11 ⟨a8,c8,h7,rfl,sp11,R8,M21⟩
   have M22 := M20.call sp11 (fun e => ((Mut.ne_ty M20 M19 (by decide)) e))
   have st11 := st10.call sp11 (fun x e => (.inr e))
   refine vv rfl (aF (b := b1) (o := 0) fl45_3 rfl)<|aV (o := 3) (n := 1) [I r7.1] [.string r2.1,.slice a3 r3.1.length c3,.string r5.1.S,I r7.1] (I r7.1) sz3 rfl rfl rfl rfl M22 rfl rfl rfl rfl rfl (fun w12 wr4 M23 => ?_)
   have sp12 := wr4.st st11.has M22.none
   have M24 := M21.call sp12 (fun e => ((Mut.ne_ty M21 M22 (by decide)) e))
   have st12 := st11.call sp12 (fun x e => (.inl (e ▸ lb1)))
   refine aD ?_
   exact Jj1 sp11.le st12 rfl R8 M24 (SlR.mono (sp7.le.trans (sp8.le.trans (sp10.le.trans sp11.le))) R3) M23 H
 refine fa e43_15 (dF hc1) rfl<|aL e43_17 ?_
 exact Jj1 (Le.refl _) st10 rfl R7 M19 (SlR.mono (sp7.le.trans (sp8.le.trans sp10.le)) R3) M20 H
abbrev ZSLl75_0 (k : Nat) : Prop := SLl75_0 k
theorem SLl75_0_z : SLl75_0 0 := by
  unfold SLl75_0; intros; rename_i H; exact absurd H (by simp [l75_0])
theorem SLl75_0_s (k : Nat) (ih : ZSLl75_0 k) : SLl75_0 (k + 1) := by
 intro aS c3 c4 w0 w h0 h σ l1 a3 a4 b1 b2 l2 r st s0 s1 s4 s5 R3 M3 O1 H
 rw [l75_0] at H
 refine aB e75_17<|aB e75_18<|aA e75_19<|vv rfl (aE (.bool b2) s5)<|vv rfl (aE (.bool b2) rfl) ?_
 rcases aM H with ⟨hc2,H⟩ | ⟨hc2,H⟩
 · refine bC (wt2 hc2 rfl) rfl (aE (.pointer (some ⟨aS,0,none⟩)) s0)<|bC (wt2 hc2 rfl) rfl (bJ ⟨aS,0,none⟩ rfl)<|bC (wt2 hc2 rfl) rfl (aF (b := aS) (o := 0) fl96_1 rfl)<|bC (wt2 hc2 rfl) rfl (aN (.bool b1) sc4 rfl ((aR M3.get).trans rfl))<|bC (wt2 hc2 rfl) rfl (dV b1 4 rfl)<|vv rfl (dD (.bool (!b1)) hc2 rfl rfl)<|aD ?_
   rcases aM H with ⟨hc3,H⟩ | ⟨hc3,H⟩
   · refine fa e75_20 (bN hc3) rfl<|bO e75_22 rfl<|aB e75_27<|aA e75_28<|vv rfl (aE (.pointer (some ⟨aS,0,none⟩)) s0) ?_
     obtain ⟨r3,hr3,H⟩ := aK H
     refine aU [.pointer (some ⟨aS,0,none⟩),.string (⟨#[93]⟩ : ByteArray)] en70 rfl rfl rfl (F70 st.has R3 M3 hr3) ?_
     rintro _ w3 ⟨a5,c5,h3,rfl,sp3,R4,M4⟩
     have O2 := O1.call sp3 (fun x hx e => (absurd (e ▸ hx) (O1.ne_mut M3 (by decide))))
     have st3 := st.call sp3 (fun x e => (.inr e))
     refine aD<|aB e75_29<|aA e75_30<|vv rfl (aE (.slice a4 l2.length c4) s4)<|vv rfl (aC (.slice a4 l2.length c4) rfl)<|aD ?_
     obtain ⟨h4,le1,st4,R5,kp1⟩ := O2.frz st3 (Nat.le_refl _)
     have M5 := M4.frB kp1 (O2.ne_mut M4 (by decide))
     cases H
     exact aJ e75_31 (cD Try.results75 rfl ⟨a4,c4,a5,c5,h4,rfl,st4,R5,(SlR.mono le1 R4),M5⟩)
   refine tr e75_20 (bQ (bY hc3)) rfl<|aL e75_21<|aB e75_23<|aT e75_24<|aA e75_25<|vv rfl (aE (.slice a4 l2.length c4) s4)<|vv rfl (aE (.func (.func 71) #[.pointer (some ⟨aS,0,none⟩)] #[]) s1) ?_
   obtain ⟨r5,hr5,H⟩ := aK H
   refine dQ [.pointer (some ⟨aS,0,none⟩)] [] [] [.pointer (some ⟨aS,0,none⟩)] en71 rfl rfl rfl rfl rfl (F71 k st.has R3 M3 hr5) ?_
   rintro _ w5 ⟨a7,c7,h7,rfl,sp5,R8,M8⟩
   have O4 := O1.call sp5 (fun x hx e => (absurd (e ▸ hx) (O1.ne_mut M3 (by decide))))
   have st7 := st.call sp5 (fun x e => (.inr e))
   refine cF [.string ByteArray.empty] [.string r5.1] [(0,.string r5.1)] u28 sz9 zr9 rfl rfl rfl rfl (by kernel_rfl) rfl (by kernel_rfl) (fun b3 w6 al1 => ?_)
   have li1 : Lits h7 [[.string r5.1]] ([r5.1] : List ByteArray) := (Lits.cons rfl Lits.nil)
   obtain ⟨h8,le3,g1,sp6⟩ := al1.fz st7.has
   have M9 := M8.call0 sp6
   have O5 := O4.call0 sp6
   have st8 := st7.call0 sp6
   have R9 : SlR _ _ _ ([r5.1] : List ByteArray) := Lits.sl (n := 1) (Lits.mono le3 li1) rfl rfl (by decide) g1
   obtain ⟨hs1,H⟩ := cC H
   refine eF (α := ByteArray) (B := w0.heap.size) (l := l2) (l2 := ([r5.1] : List ByteArray)) u28 u28 ap9 rfl rfl rfl rfl st8.has st8.sp.size O5 R9 rfl rfl hs1 (fun a8 c8 w7 O6 sp7 bl1 => ?_)
   have M10 := M9.call sp7 (fun e => ((O5.ne_mut M9 (by decide)) e))
   have st9 := st8.call sp7 (fun x e => (.inl (O5.lbs x e)))
   refine vv rfl (aC (.slice a8 ((l2 ++ ([r5.1] : List ByteArray)).length) c8) rfl)<|aD<|aZ<|aA e75_26<|vv rfl (aE (.pointer (some ⟨aS,0,none⟩)) s0) ?_
   obtain ⟨r6,hr6,H⟩ := aK H
   refine aU [.pointer (some ⟨aS,0,none⟩),.string (⟨#[44]⟩ : ByteArray)] en88 rfl rfl rfl (F88 st9.has (SlR.mono le3 R8) M10 hr6) ?_
   rintro _ w8 ⟨a9,c9,h9,rfl,sp8,R10,M11⟩
   have O7 := O6.call sp8 (fun x hx e => (absurd (e ▸ hx) (O6.ne_mut M10 (by decide))))
   have st10 := st9.call sp8 (fun x e => (.inr e))
   refine vv rfl (aC (.bool r6.1) rfl)<|aD<|bI ?_
   exact ih st10 s0 s1 rfl rfl R10 M11 O7 H
 refine aO (wf2 (bY hc2) rfl) rfl<|aO (wf2 (bY hc2) rfl) rfl<|aO (wf2 (bY hc2) rfl) rfl<|aO (wf2 (bY hc2) rfl) rfl<|aO (wf2 (bY hc2) rfl) rfl<|vv rfl (dE (.bool false) (bY hc2) rfl rfl)<|aD<|dK e75_20 (p := false) rfl rfl<|bO e75_22 rfl<|aB e75_27 ?_
 refine aA e75_28<|vv rfl (aE (.pointer (some ⟨aS,0,none⟩)) s0) ?_
 obtain ⟨r4,hr4,H⟩ := aK H
 refine aU [.pointer (some ⟨aS,0,none⟩),.string (⟨#[93]⟩ : ByteArray)] en70 rfl rfl rfl (F70 st.has R3 M3 hr4) ?_
 rintro _ w4 ⟨a6,c6,h5,rfl,sp4,R6,M6⟩
 have O3 := O1.call sp4 (fun x hx e => (absurd (e ▸ hx) (O1.ne_mut M3 (by decide))))
 have st5 := st.call sp4 (fun x e => (.inr e))
 refine aD<|aB e75_29<|aA e75_30<|vv rfl (aE (.slice a4 l2.length c4) s4)<|vv rfl (aC (.slice a4 l2.length c4) rfl)<|aD ?_
 obtain ⟨h6,le2,st6,R7,kp2⟩ := O3.frz st5 (Nat.le_refl _)
 have M7 := M6.frB kp2 (O3.ne_mut M6 (by decide))
 cases H
 exact aJ e75_31 (cD Try.results75 rfl ⟨a4,c4,a6,c6,h6,rfl,st6,R7,(SlR.mono le2 R6),M7⟩)
theorem ZSLl75_0_all : ∀ k,ZSLl75_0 k
  | 0 => SLl75_0_z
  | k + 1 => SLl75_0_s k (ZSLl75_0_all k)
theorem Fl75_0 (k : Nat) : SLl75_0 k := (ZSLl75_0_all k)
theorem F75 (k : Nat) : S75 k := by
 intro aS bW cK bX cY w0 h0 hh dU Mp0 r H
 unfold m75 at H
 refine aP (fn := Try.f75) Try.func75 rfl (Nat.le_of_ble_eq_true rfl) ?_
 show Run X75 [.code c75_0] (fun t => List.getD [.pointer (some ⟨aS,0,none⟩),.func (.func 71) #[.pointer (some ⟨aS,0,none⟩)] #[]] t undef) w0 (.fn (Q75 w0 h0 aS r))
 have st0 := St.init hh (fun x => x = aS)
 refine aB e75_0<|aA e75_1<|vv rfl (aC (.slice none 0 0) rfl)<|aD<|aB e75_2<|aA e75_3<|vv rfl (aE (.pointer (some ⟨aS,0,none⟩)) rfl) ?_
 obtain ⟨r1,hr1,H⟩ := aK H
 refine aU [.pointer (some ⟨aS,0,none⟩),.string (⟨#[91]⟩ : ByteArray)] en70 rfl rfl rfl (F70 st0.has dU Mp0 hr1) ?_
 rintro _ w1 ⟨a1,c1,h1,rfl,sp1,R1,M1⟩
 have st1 := st0.call sp1 (fun x e => (.inr e))
 refine aD<|aB e75_4<|aB e75_5<|aA e75_6<|vv rfl (aE (.pointer (some ⟨aS,0,none⟩)) rfl) ?_
 obtain ⟨r2,hr2,H⟩ := aK H
 refine aU [.pointer (some ⟨aS,0,none⟩),.string (⟨#[93]⟩ : ByteArray)] en88 rfl rfl rfl (F88 st1.has R1 M1 hr2) ?_
 rintro _ w2 ⟨a2,c2,h2,rfl,sp2,R2,M2⟩
 have st2 := st1.call sp2 (fun x e => (.inr e))
 refine aD ?_
 rcases aM H with ⟨hc1,H⟩ | ⟨hc1,H⟩
 · refine tr e75_7 hc1 rfl<|aB e75_8<|aA e75_9<|vv rfl (aC (.slice none 0 0) rfl)<|aD ?_
   cases H
   exact aJ e75_10 (cD Try.results75 rfl ⟨none,0,a2,c2,h2,rfl,st2,(SlR.none _),R2,M2⟩)
 refine fa e75_7 (bY hc1) rfl<|aL e75_11<|aB e75_12<|aB e75_13<|aA e75_14<|vv rfl (aC (.bool true) rfl)<|aD<|aT e75_15<|bZ e75_16 ?_
 exact Fl75_0 k st2 rfl rfl rfl rfl R2 M2 (Own.nil _ _ _ _) H
abbrev ZS100 (k : Nat) : Prop := S100 k ∧ S76 k ∧ S89 k ∧ SLl89_0 k ∧ S90 k ∧ S89_1 k ∧ SLl89_1_0 k ∧ S96 k
theorem S100_z : S100 0 := by
  unfold S100; intros; rename_i H; exact absurd H (by simp [m100])
theorem S100_s (k : Nat) (ih : ZS100 k) : S100 (k + 1) := by
 intro aS bW cK bX cY w0 h0 hh dU Mp0 r H
 rw [m100] at H
 refine aP (fn := Try.f100) Try.func100 rfl (Nat.le_of_ble_eq_true rfl) ?_
 show Run X100 [.code c100_0] (fun t => List.getD [.pointer (some ⟨aS,0,none⟩)] t undef) w0 (.fn (Q100 w0 h0 aS r))
 have st0 := St.init hh (fun x => x = aS)
 refine aB e100_0<|aA e100_1<|cG (.agg #[I 0,I 0,.string ByteArray.empty,.slice none 0 0,.slice none 0 0]) zr31 rfl rfl (fun b1 w1 al1 => ?_)
 replace al1 : Al _ (.cells (List.toArray [I 0,I 0,.string ByteArray.empty,.slice none 0 0,.slice none 0 0]) 31 (0,0)) b1 w1 := al1
 have M1 := Mut.new st0 al1
 have lb1 := st0.alB al1
 have sp1 := al1.st st0.has
 have M2 := Mp0.call0 sp1
 have st1 := st0.call0 sp1
 refine aD<|aB e100_2<|aA e100_3<|vv rfl (aE (.pointer (some ⟨aS,0,none⟩)) rfl) ?_
 obtain ⟨r1,hr1,H⟩ := aK H
 refine aU [.pointer (some ⟨aS,0,none⟩),.string (⟨#[40]⟩ : ByteArray)] en70 rfl rfl rfl (F70 st1.has dU M2 hr1) ?_
 rintro _ w2 ⟨a1,c1,h1,rfl,sp2,R1,M3⟩
 have M4 := M1.call sp2 (fun e => ((Mut.ne_ty M1 M2 (by decide)) e))
 have st2 := st1.call sp2 (fun x e => (.inr e))
 refine aD<|aB e100_4<|aA e100_5<|vv rfl (aE (.pointer (some ⟨aS,0,none⟩)) rfl) ?_
 obtain ⟨r2,hr2,H⟩ := aK H
 refine aU [.pointer (some ⟨aS,0,none⟩)] en71 rfl rfl rfl (F71 k st2.has R1 M3 hr2) ?_
 rintro _ w3 ⟨a2,c2,h2,rfl,sp3,R2,M5⟩
 have M6 := M4.call sp3 (fun e => ((Mut.ne_ty M4 M3 (by decide)) e))
 have st3 := st2.call sp3 (fun x e => (.inr e))
 refine vv rfl (aF (b := b1) (o := 0) fl31_0 rfl)<|aV (o := 0) (n := 1) [I 7] [I 7,I 0,.string ByteArray.empty,.slice none 0 0,.slice none 0 0] (I 7) sz3 rfl rfl rfl rfl M6 rfl rfl rfl rfl rfl (fun w4 wr1 M7 => ?_)
 have sp4 := wr1.st st3.has M6.none
 have M8 := M5.call sp4 (fun e => ((Mut.ne_ty M5 M6 (by decide)) e))
 have st4 := st3.call sp4 (fun x e => (.inl (e ▸ lb1)))
 refine vv rfl (aF (b := b1) (o := 0) fl31_2 rfl)<|aV (o := 2) (n := 1) [.string r2.1] [I 7,I 0,.string r2.1,.slice none 0 0,.slice none 0 0] (.string r2.1) sz9 rfl rfl rfl rfl M7 rfl rfl rfl rfl rfl (fun w5 wr2 M9 => ?_)
 have sp5 := wr2.st st4.has M7.none
 have M10 := M8.call sp5 (fun e => ((Mut.ne_ty M8 M7 (by decide)) e))
 have st5 := st4.call sp5 (fun x e => (.inl (e ▸ lb1)))
 refine aD<|aB e100_6<|aA e100_7<|vv rfl (aE (.pointer (some ⟨aS,0,none⟩)) rfl) ?_
 obtain ⟨r3,hr3,H⟩ := aK H
 refine aU [.pointer (some ⟨aS,0,none⟩),.string (⟨#[44]⟩ : ByteArray)] en70 rfl rfl rfl (F70 st5.has R2 M10 hr3) ?_
 rintro _ w6 ⟨a3,c3,h3,rfl,sp6,R3,M11⟩
 have M12 := M9.call sp6 (fun e => ((Mut.ne_ty M9 M10 (by decide)) e))
 have st6 := st5.call sp6 (fun x e => (.inr e))
 refine aD<|aB e100_8<|aA e100_9<|vv rfl (aE (.pointer (some ⟨aS,0,none⟩)) rfl) ?_
 obtain ⟨r4,hr4,H⟩ := aK H
 refine aU [.pointer (some ⟨aS,0,none⟩)] en76 rfl rfl rfl (ih.2.1 st6.has R3 M11 hr4) ?_
 rintro _ w7 ⟨a4,c4,a5,c5,a6,c6,h4,rfl,sp7,R4,R5,R6,M13⟩
 have M14 := M12.call sp7 (fun e => ((Mut.ne_ty M12 M11 (by decide)) e))
 have st7 := st6.call sp7 (fun x e => (.inr e))
 refine cF [I 0,I 0,.string ByteArray.empty,.slice none 0 0,.slice none 0 0] [I r4.1.Op,I r4.1.N,.string r4.1.Name,.slice a4 r4.1.Index.length c4,.slice a5 r4.1.L.length c5] [(0,.agg #[I r4.1.Op,I r4.1.N,.string r4.1.Name,.slice a4 r4.1.Index.length c4,.slice a5 r4.1.L.length c5])] u29 cP zr31 rfl rfl rfl rfl (by kernel_rfl) rfl (by kernel_rfl) (fun b2 w8 al2 => ?_)
 have li1 : Lits h4 [[I r4.1.Op,I r4.1.N,.string r4.1.Name,.slice a4 r4.1.Index.length c4,.slice a5 r4.1.L.length c5]] ([r4.1] : List GNode) := (Lits.cons (GNode.into (h := h4) (x := r4.1) R4 R5) Lits.nil)
 obtain ⟨h5,le1,g1,sp8⟩ := al2.fz st7.has
 have M15 := M13.call0 sp8
 have M16 := M14.call0 sp8
 have st8 := st7.call0 sp8
 have R7 : SlR _ _ _ ([r4.1] : List GNode) := Lits.sl (n := 1) (Lits.mono le1 li1) rfl rfl (by decide) g1
 refine vv rfl (aF (b := b1) (o := 0) fl31_4 rfl)<|aV (o := 4) (n := 1) [.slice (some ⟨b2,0,none⟩) 1 1] [I 7,I 0,.string r2.1,.slice none 0 0,.slice (some ⟨b2,0,none⟩) 1 1] (.slice (some ⟨b2,0,none⟩) 1 1) sz29 rfl rfl rfl rfl M16 rfl rfl rfl rfl rfl (fun w9 wr3 M17 => ?_)
 have sp9 := wr3.st st8.has M16.none
 have M18 := M15.call sp9 (fun e => ((Mut.ne_ty M15 M16 (by decide)) e))
 have st9 := st8.call sp9 (fun x e => (.inl (e ▸ lb1)))
 refine aD<|aB e100_10<|aA e100_11<|vv rfl (aE (.pointer (some ⟨aS,0,none⟩)) rfl) ?_
 obtain ⟨r5,hr5,H⟩ := aK H
 refine aU [.pointer (some ⟨aS,0,none⟩),.string (⟨#[41]⟩ : ByteArray)] en70 rfl rfl rfl (F70 st9.has (SlR.mono le1 R6) M18 hr5) ?_
 rintro _ w10 ⟨a7,c7,h6,rfl,sp10,R8,M19⟩
 have M20 := M17.call sp10 (fun e => ((Mut.ne_ty M17 M18 (by decide)) e))
 have st10 := st9.call sp10 (fun x e => (.inr e))
 refine aD<|aB e100_12<|aA e100_13<|vv rfl (bH [I 7,I 0,.string r2.1,.slice none 0 0,.slice (some ⟨b2,0,none⟩) 1 1] dX cP rfl rfl (bA M20.get rfl))<|aV (o := 0) (n := 5) [I 7,I 0,.string r2.1,.slice none 0 0,.slice (some ⟨b2,0,none⟩) 1 1] [I 7,I 0,.string r2.1,.slice none 0 0,.slice (some ⟨b2,0,none⟩) 1 1] (.agg #[I 7,I 0,.string r2.1,.slice none 0 0,.slice (some ⟨b2,0,none⟩) 1 1]) cP rfl rfl rfl rfl M20 rfl rfl rfl rfl rfl (fun w11 wr4 M21 => ?_)
 have sp11 := wr4.st st10.has M20.none
 have M22 := M19.call sp11 (fun e => ((Mut.ne_ty M19 M20 (by decide)) e))
 have st11 := st10.call sp11 (fun x e => (.inl (e ▸ lb1)))
 refine aD ?_
 cases H
 exact aJ e100_14 (cD Try.results100 (eH [I 7,I 0,.string r2.1,.slice none 0 0,.slice (some ⟨b2,0,none⟩) 1 1] dX cP rfl rfl (bA M21.get rfl)) ⟨none,0,some ⟨b2,0,none⟩,1,a7,c7,h6,rfl,st11,(SlR.none _),(SlR.mono sp10.le R7),R8,M22⟩)
theorem S76_z : S76 0 := by
  unfold S76; intros; rename_i H; exact absurd H (by simp [m76])
theorem S76_s (k : Nat) (ih : ZS100 k) : S76 (k + 1) := by
 intro aS bW cK bX cY w0 h0 hh dU Mp0 r H
 rw [m76] at H
 refine aP (fn := Try.f76) Try.func76 rfl (Nat.le_of_ble_eq_true rfl) ?_
 show Run X76 [.code c76_0] (fun t => List.getD [.pointer (some ⟨aS,0,none⟩)] t undef) w0 (.fn (Q76 w0 h0 aS r))
 have st0 := St.init hh (fun x => x = aS)
 refine aB e76_0<|aA e76_1<|cG (.agg #[I 0,I 0,.string ByteArray.empty,.slice none 0 0,.slice none 0 0]) zr31 rfl rfl (fun b1 w1 al1 => ?_)
 replace al1 : Al _ (.cells (List.toArray [I 0,I 0,.string ByteArray.empty,.slice none 0 0,.slice none 0 0]) 31 (0,0)) b1 w1 := al1
 have M1 := Mut.new st0 al1
 have lb1 := st0.alB al1
 have sp1 := al1.st st0.has
 have M2 := Mp0.call0 sp1
 have st1 := st0.call0 sp1
 refine aD<|aB e76_2<|aA e76_3<|vv rfl (aE (.pointer (some ⟨aS,0,none⟩)) rfl)<|vv rfl (aE (.pointer (some ⟨aS,0,none⟩)) rfl)<|vv rfl (eU (.func (.func 90) #[.pointer (some ⟨aS,0,none⟩)] #[]) (mf rfl rfl))<|rr_makeMap rfl rfl (fun b2 w2 al2 => ?_)
 have M3 : MpM _ _ b2 ([] : (List (ByteArray × Int))) := MpM.new st1 al2
 have lb2 := st1.alB al2
 have sp2 := al2.st st1.has
 have M4 := M2.call0 sp2
 have M5 := M1.call0 sp2
 have st2 := st1.call0 sp2
 refine rr_insert (l := ([] : (List (ByteArray × Int)))) (key := (⟨#[43]⟩ : ByteArray)) (v := (I 3)) 3 mt148 rfl rfl rfl rfl rfl M3 rfl st2.has (fun w3 M6 sp3 => ?_)
 have M7 := M4.call sp3 (fun e => ((Ne.symm (MpM.ne_mut M3 M4)) e))
 have M8 := M5.call sp3 (fun e => ((Ne.symm (MpM.ne_mut M3 M5)) e))
 have st3 := st2.call sp3 (fun x e => (.inl (e ▸ lb2)))
 refine rr_insert (l := (cH ([] : (List (ByteArray × Int))) (⟨#[43]⟩ : ByteArray) 3)) (key := (⟨#[45]⟩ : ByteArray)) (v := (I 4)) 4 mt148 rfl rfl rfl rfl rfl M6 rfl st3.has (fun w4 M9 sp4 => ?_)
 have M10 := M7.call sp4 (fun e => ((Ne.symm (MpM.ne_mut M6 M7)) e))
 have M11 := M8.call sp4 (fun e => ((Ne.symm (MpM.ne_mut M6 M8)) e))
 have st4 := st3.call sp4 (fun x e => (.inl (e ▸ lb2)))
 refine vv rfl (aE (.map (some b2)) rfl) ?_
 obtain ⟨h1,le1,g1,st5,kp1⟩ := M9.fz st4 lb2
 have M12 := M10.fr kp1 (Ne.symm (MpM.ne_mut M9 M10))
 have M13 := M11.fr kp1 (Ne.symm (MpM.ne_mut M9 M11))
 obtain ⟨r1,hr1,H⟩ := aK H
 refine aU [.pointer (some ⟨aS,0,none⟩),.func (.func 90) #[.pointer (some ⟨aS,0,none⟩)] #[],.map (some b2)] en89 rfl rfl rfl (ih.2.2.1 st5.has (SlR.mono le1 dU) M12 g1 hr1) ?_
 rintro _ w5 ⟨a1,c1,a2,c2,a3,c3,h2,rfl,sp5,R1,R2,R3,M14⟩
 have M15 := M13.call sp5 (fun e => ((Mut.ne_ty M13 M12 (by decide)) e))
 have st6 := st5.call sp5 (fun x e => (.inr e))
 refine aV (o := 0) (n := 5) [I r1.1.Op,I r1.1.N,.string r1.1.Name,.slice a1 r1.1.Index.length c1,.slice a2 r1.1.L.length c2] [I r1.1.Op,I r1.1.N,.string r1.1.Name,.slice a1 r1.1.Index.length c1,.slice a2 r1.1.L.length c2] (.agg #[I r1.1.Op,I r1.1.N,.string r1.1.Name,.slice a1 r1.1.Index.length c1,.slice a2 r1.1.L.length c2]) cP rfl rfl rfl rfl M15 rfl rfl rfl rfl rfl (fun w6 wr1 M16 => ?_)
 have sp6 := wr1.st st6.has M15.none
 have M17 := M14.call sp6 (fun e => ((Mut.ne_ty M14 M15 (by decide)) e))
 have st7 := st6.call sp6 (fun x e => (.inl (e ▸ lb1)))
 obtain ⟨h3,le2,g2,st8,kp2⟩ := M16.fz st7 lb1
 have M18 := M17.fr kp2 (Mut.ne_ty M17 M16 (by decide))
 refine aD ?_
 cases H
 exact aJ e76_4 (cD Try.results76 (eH [I r1.1.Op,I r1.1.N,.string r1.1.Name,.slice a1 r1.1.Index.length c1,.slice a2 r1.1.L.length c2] dX cP rfl rfl (bA (st8.has _ _ g2) rfl)) ⟨a1,c1,a2,c2,a3,c3,h3,rfl,st8,(SlR.mono le2 R1),(SlR.mono le2 R2),(SlR.mono le2 R3),M18⟩)
theorem S89_z : S89 0 := by
  unfold S89; intros; rename_i H; exact absurd H (by simp [m89])
theorem S89_s (k : Nat) (ih : ZS100 k) : S89 (k + 1) := by
 intro aS bW p2_b cK bX cY p2 w0 h0 hh dU Mp0 gp2 r H
 rw [m89] at H
 refine aP (fn := Try.f89) Try.func89 rfl (Nat.le_of_ble_eq_true rfl) ?_
 show Run X89 [.code c89_0] (fun t => List.getD [.pointer (some ⟨aS,0,none⟩),.func (.func 90) #[.pointer (some ⟨aS,0,none⟩)] #[],.map (some p2_b)] t undef) w0 (.fn (Q89 w0 h0 aS r))
 have st0 := St.init hh (fun x => x = aS)
 refine aB e89_0<|aA e89_1<|cG (.agg #[I 0,I 0,.string ByteArray.empty,.slice none 0 0,.slice none 0 0]) zr31 rfl rfl (fun b1 w1 al1 => ?_)
 replace al1 : Al _ (.cells (List.toArray [I 0,I 0,.string ByteArray.empty,.slice none 0 0,.slice none 0 0]) 31 (0,0)) b1 w1 := al1
 have M1 := Mut.new st0 al1
 have lb1 := st0.alB al1
 have sp1 := al1.st st0.has
 have M2 := Mp0.call0 sp1
 have st1 := st0.call0 sp1
 refine aD<|aB e89_2<|aA e89_3<|vv rfl (aE (.func (.func 90) #[.pointer (some ⟨aS,0,none⟩)] #[]) rfl) ?_
 obtain ⟨r1,hr1,H⟩ := aK H
 refine dQ [.pointer (some ⟨aS,0,none⟩)] [] [] [.pointer (some ⟨aS,0,none⟩)] en90 rfl rfl rfl rfl rfl (ih.2.2.2.2.1 st1.has dU M2 hr1) ?_
 rintro _ w2 ⟨a1,c1,a2,c2,a3,c3,h1,rfl,sp2,R1,R2,R3,M3⟩
 have M4 := M1.call sp2 (fun e => ((Mut.ne_ty M1 M2 (by decide)) e))
 have st2 := st1.call sp2 (fun x e => (.inr e))
 refine cG (.agg #[I 0,I 0,.string ByteArray.empty,.slice none 0 0,.slice none 0 0]) zr31 rfl rfl (fun b2 w3 al2 => ?_)
 replace al2 : Al _ (.cells (List.toArray [I 0,I 0,.string ByteArray.empty,.slice none 0 0,.slice none 0 0]) 31 (0,0)) b2 w3 := al2
 have ne1 := M4.ne_al al2
 have M5 := Mut.new st2 al2
 have lb2 := st2.alB al2
 have sp3 := al2.st st2.has
 have M6 := M3.call0 sp3
 have M7 := M4.call0 sp3
 have st3 := st2.call0 sp3
 refine aV (o := 0) (n := 5) [I r1.1.Op,I r1.1.N,.string r1.1.Name,.slice a1 r1.1.Index.length c1,.slice a2 r1.1.L.length c2] [I r1.1.Op,I r1.1.N,.string r1.1.Name,.slice a1 r1.1.Index.length c1,.slice a2 r1.1.L.length c2] (.agg #[I r1.1.Op,I r1.1.N,.string r1.1.Name,.slice a1 r1.1.Index.length c1,.slice a2 r1.1.L.length c2]) cP rfl rfl rfl rfl M5 rfl rfl rfl rfl rfl (fun w4 wr1 M8 => ?_)
 have sp4 := wr1.st st3.has M5.none
 have M9 := M6.call sp4 (fun e => ((Mut.ne_ty M6 M5 (by decide)) e))
 have M10 := M7.call sp4 (fun e => (ne1 e))
 have st4 := st3.call sp4 (fun x e => (.inl (e ▸ lb2)))
 refine aD<|aB e89_4<|aT e89_5<|bZ e89_6 ?_
 exact ih.2.2.2.1 st4 rfl rfl rfl rfl rfl R3 M9 (MpF.mono sp2.le gp2) M10 lb1 R1 R2 M8 lb2 ne1 H
theorem SLl89_0_z : SLl89_0 0 := by
  unfold SLl89_0; intros; rename_i H; exact absurd H (by simp [l89_0])
theorem SLl89_0_s (k : Nat) (ih : ZS100 k) : SLl89_0 (k + 1) := by
 intro aS p2_b b1 b2 c4 c5 c6 p2 w0 w h0 h σ l1 a4 a5 a6 b3 i1 i2 str1 l2 l3 r st s0 s1 s2 s6 s7 R4 M11 g1 M12 lb3 R5 R6 M13 lb4 ne2 H
 rw [l89_0] at H
 refine aB e89_7<|aB e89_8<|aA e89_9<|vv rfl (aE (.pointer (some ⟨aS,0,none⟩)) s0)<|vv rfl (bJ ⟨aS,0,none⟩ rfl)<|vv rfl (aF (b := aS) (o := 0) fl96_1 rfl)<|vv rfl (aN (.bool b3) sc4 rfl ((aR M11.get).trans rfl))<|vv rfl (dV b3 4 rfl)<|aD ?_
 rcases aM H with ⟨hc1,H⟩ | ⟨hc1,H⟩
 · refine fa e89_10 (bN hc1) rfl<|bO e89_12 rfl<|aB e89_25<|aA e89_26<|vv rfl (bH [I i1,I i2,.string str1,.slice a5 l2.length c5,.slice a6 l3.length c6] dX cP s7 rfl (bA M13.get rfl))<|aV (o := 0) (n := 5) [I i1,I i2,.string str1,.slice a5 l2.length c5,.slice a6 l3.length c6] [I i1,I i2,.string str1,.slice a5 l2.length c5,.slice a6 l3.length c6] (.agg #[I i1,I i2,.string str1,.slice a5 l2.length c5,.slice a6 l3.length c6]) cP rfl rfl s6 rfl M12 rfl rfl rfl rfl rfl (fun w5 wr2 M14 => ?_)
   have sp5 := wr2.st st.has M12.none
   have M15 := M11.call sp5 (fun e => ((Mut.ne_ty M11 M12 (by decide)) e))
   have M16 := M13.call sp5 (fun e => ((Ne.symm ne2) e))
   have st5 := st.call sp5 (fun x e => (.inl (e ▸ lb3)))
   obtain ⟨h2,le1,g2,st6,kp1⟩ := M14.fz st5 lb3
   have M17 := M15.fr kp1 (Mut.ne_ty M15 M14 (by decide))
   have M18 := M16.fr kp1 (Ne.symm ne2)
   refine aD ?_
   cases H
   exact aJ e89_27 (cD Try.results89 (eH [I i1,I i2,.string str1,.slice a5 l2.length c5,.slice a6 l3.length c6] dX cP s6 rfl (bA (st6.has _ _ g2) rfl)) ⟨a5,c5,a6,c6,a4,c4,h2,rfl,st6,(SlR.mono le1 R5),(SlR.mono le1 R6),(SlR.mono le1 R4),M17⟩)
 refine tr e89_10 (bQ (bY hc1)) rfl<|aL e89_11<|aT e89_13<|aB e89_14<|aA e89_15<|vv rfl (aE (.map (some p2_b)) s2)<|vv rfl (aE (.pointer (some ⟨aS,0,none⟩)) s0)<|vv rfl (bJ ⟨aS,0,none⟩ rfl)<|vv rfl (aF (b := aS) (o := 0) fl96_0 rfl) ?_
 obtain ⟨r2,hr2,H⟩ := aK H
 refine aU [.pointer (some ⟨aS,0,none⟩)] en69 rfl rfl rfl (F69 st.has R4 M11 hr2) ?_
 rintro _ w6 ⟨a7,c7,h3,rfl,sp6,R7,M19⟩
 have M20 := M12.call sp6 (fun e => ((Mut.ne_ty M12 M11 (by decide)) e))
 have M21 := M13.call sp6 (fun e => ((Mut.ne_ty M13 M11 (by decide)) e))
 have st7 := st.call sp6 (fun x e => (.inr e))
 refine vv rfl (x_fS (.string r2.1.S) ft118_1 sc9 rfl rfl) ?_
 obtain ⟨v1,rp1,lk1⟩ := MpF.look (zv := (I 0)) (zu := 0) (MpF.mono sp6.le g1) mt148 zr3 rfl r2.1.S
 obtain rfl := rep_int rp1
 refine vv rfl (x_lookup (v := (I ((dZ p2 r2.1.S).getD 0))) rfl rfl (lk1 w6 st7.has false))<|vv rfl (aC (I ((dZ p2 r2.1.S).getD 0)) rfl)<|aD<|aB e89_16<|aB e89_17<|aA e89_18<|vv rfl (aE (I ((dZ p2 r2.1.S).getD 0)) rfl)<|vv rfl (aQ .eql .i64 ((dZ p2 r2.1.S).getD 0) 0 (.bool (decide (((dZ p2 r2.1.S).getD 0) = 0))) 3 3 rfl rfl rfl)<|vv rfl (aE (.bool (decide (((dZ p2 r2.1.S).getD 0) = 0))) rfl) ?_
 rcases aM H with ⟨hc2,H⟩ | ⟨hc2,H⟩
 · refine aO (wf2 (dT hc2) rfl) rfl<|aO (wf2 (dT hc2) rfl) rfl<|aO (wf2 (dT hc2) rfl) rfl<|aO (wf2 (dT hc2) rfl) rfl<|aO (wf2 (dT hc2) rfl) rfl<|aO (wf2 (dT hc2) rfl) rfl<|vv rfl (dD (.bool true) (dT hc2) rfl rfl)<|aD<|cZ e89_19 (p := true) rfl rfl<|bO e89_20 rfl ?_
   refine aB e89_25<|aA e89_26<|vv rfl (bH [I i1,I i2,.string str1,.slice a5 l2.length c5,.slice a6 l3.length c6] dX cP s7 rfl (bA M21.get rfl))<|aV (o := 0) (n := 5) [I i1,I i2,.string str1,.slice a5 l2.length c5,.slice a6 l3.length c6] [I i1,I i2,.string str1,.slice a5 l2.length c5,.slice a6 l3.length c6] (.agg #[I i1,I i2,.string str1,.slice a5 l2.length c5,.slice a6 l3.length c6]) cP rfl rfl s6 rfl M20 rfl rfl rfl rfl rfl (fun w7 wr3 M22 => ?_)
   have sp7 := wr3.st st7.has M20.none
   have M23 := M19.call sp7 (fun e => ((Mut.ne_ty M19 M20 (by decide)) e))
   have M24 := M21.call sp7 (fun e => ((Ne.symm ne2) e))
   have st8 := st7.call sp7 (fun x e => (.inl (e ▸ lb3)))
   obtain ⟨h4,le2,g3,st9,kp2⟩ := M22.fz st8 lb3
   have M25 := M23.fr kp2 (Mut.ne_ty M23 M22 (by decide))
   have M26 := M24.fr kp2 (Ne.symm ne2)
   refine aD ?_
   cases H
   exact aJ e89_27 (cD Try.results89 (eH [I i1,I i2,.string str1,.slice a5 l2.length c5,.slice a6 l3.length c6] dX cP s6 rfl (bA (st9.has _ _ g3) rfl)) ⟨a5,c5,a6,c6,a7,c7,h4,rfl,st9,(SlR.mono (sp6.le.trans le2) R5),(SlR.mono (sp6.le.trans le2) R6),(SlR.mono le2 R7),M25⟩)
 refine bC (wt2 (dF hc2) rfl) rfl (aE (.pointer (some ⟨aS,0,none⟩)) s0)<|bC (wt2 (dF hc2) rfl) rfl (bJ ⟨aS,0,none⟩ rfl)<|bC (wt2 (dF hc2) rfl) rfl (aF (b := aS) (o := 0) fl96_0 rfl) ?_
 obtain ⟨r3,hr3,H⟩ := aK H
 refine aU [.pointer (some ⟨aS,0,none⟩)] en69 (wt2 (dF hc2) rfl) rfl rfl (F69 st7.has R7 M19 hr3) ?_
 rintro _ w8 ⟨a8,c8,h5,rfl,sp8,R8,M27⟩
 have M28 := M20.call sp8 (fun e => ((Mut.ne_ty M20 M19 (by decide)) e))
 have M29 := M21.call sp8 (fun e => ((Mut.ne_ty M21 M19 (by decide)) e))
 have st10 := st7.call sp8 (fun x e => (.inr e))
 refine bC (wt2 (dF hc2) rfl) rfl (x_fS (I r3.1.Kind) ft118_0 sc3 rfl rfl)<|bC (wt2 (dF hc2) rfl) rfl (aQ .neq .i64 r3.1.Kind 3 (.bool (!decide (r3.1.Kind = 3))) 3 3 rfl rfl rfl)<|vv rfl (dE (.bool (!decide (r3.1.Kind = 3))) (dF hc2) rfl rfl)<|aD ?_
 rcases aM H with ⟨hc3,H⟩ | ⟨hc3,H⟩
 · refine fa e89_19 (bN (dT hc3)) rfl<|aL e89_21<|aB e89_22<|aA e89_23<|vv rfl (aE (.pointer (some ⟨aS,0,none⟩)) s0)<|vv rfl (aE (.pointer (some ⟨aS,0,none⟩)) s0)<|vv rfl (bJ ⟨aS,0,none⟩ rfl)<|vv rfl (aF (b := aS) (o := 0) fl96_0 rfl)<|vv rfl (aF (b := aS) (o := 0) fl94_0 rfl)<|vv rfl (aN (.slice a8 r3.2.1.length c8) sc87 rfl ((aR M27.get).trans rfl)) ?_
   obtain ⟨hs1,H⟩ := cC H
   obtain ⟨a9,c9,ha1,hc4,R9⟩ := SlR.slice2 (lo := 1) (hi := (r3.2.1.length : Int)) R8 hs1.1 hs1.2.1 hs1.2.2
   refine vv rfl (fM (l := 1) (h := (r3.2.1.length : Int)) (kl := .i64) (kh := .i64) r3.2.1 rfl u87 eG rfl rfl rfl hs1.1 hs1.2.1 hs1.2.2 R8.lc ha1 hc4)<|vv rfl (bJ ⟨aS,0,none⟩ rfl)<|vv rfl (aF (b := aS) (o := 0) fl96_0 rfl)<|vv rfl (aF (b := aS) (o := 0) fl94_0 rfl)<|aV (o := 0) (n := 1) [.slice a9 (((r3.2.1.take ((r3.2.1.length : Int) : Int).toNat).drop (1 : Int).toNat).length) c9] [.slice a9 (((r3.2.1.take ((r3.2.1.length : Int) : Int).toNat).drop (1 : Int).toNat).length) c9,.bool r3.2.2] (.slice a9 (((r3.2.1.take ((r3.2.1.length : Int) : Int).toNat).drop (1 : Int).toNat).length) c9) sz87 rfl rfl rfl rfl M27 rfl rfl rfl rfl rfl (fun w10 wr5 M35 => ?_)
   have sp10 := wr5.st st10.has M27.none
   have M36 := M28.call sp10 (fun e => ((Mut.ne_ty M28 M27 (by decide)) e))
   have M37 := M29.call sp10 (fun e => ((Mut.ne_ty M29 M27 (by decide)) e))
   have st13 := st10.call sp10 (fun x e => (.inr e))
   refine aD ?_
   refine dY [[(0,false),(1,false),(2,false),(3,true),(4,true),(5,false),(6,true)]] [3,4,6] [0,1,2,3,4,5,6] [0,1,2,3,4,5,6] (fun w_ => Has h5 w_ ∧ w_.heap[b2]? = some (.cells (List.toArray [I i1,I i2,.string str1,.slice a5 l2.length c5,.slice a6 l3.length c6]) 31 (0,0)) ∧ True) e89_24 k89_24 m89_24 (fun w11 al3 => ?_)
   have sp11 := al3.st st13.has
   have M38 := M35.call0 sp11
   have M39 := M36.call0 sp11
   have M40 := M37.call0 sp11
   have st14 := st13.call0 sp11
   refine ⟨⟨Has.le (Le.refl _) st14.has,M40.get,trivial⟩,?_,trivial⟩
   refine bV rfl rfl (fun w_ ok_ => aE (I ((dZ p2 r2.1.S).getD 0)) rfl)<|bV rfl rfl (fun w_ ok_ => bH [I i1,I i2,.string str1,.slice a5 l2.length c5,.slice a6 l3.length c6] dX cP s7 rfl (bA ok_.2.1 rfl))<|bV rfl rfl (fun w_ ok_ => aE (.func (.func 90) #[.pointer (some ⟨aS,0,none⟩)] #[]) s1) ?_
   obtain ⟨bU,hrd1_3_2,H⟩ := aK H
   refine dr_c rfl (od_callV [.pointer (some ⟨aS,0,none⟩)] [] [] [.pointer (some ⟨aS,0,none⟩)] en90 rfl rfl rfl rfl (ih.2.2.2.2.1 st14.has R9 M38 hrd1_3_2) ?_)
   rintro _ wd1_3_3 ⟨ad1_3_6,cd1_3_7,ad1_3_9,cd1_3_10,ad1_3_12,cd1_3_13,hd1_3_4,rfl,dC,Rd1_3_8,Rd1_3_11,Rd1_3_14,Md1_3_15⟩
   have Md1_3_16 := M39.call dC (fun e => ((Mut.ne_ty M39 M38 (by decide)) e))
   have Md1_3_17 := M40.call dC (fun e => ((Mut.ne_ty M40 M38 (by decide)) e))
   have std1_3_18 := st14.call dC (fun x e => (.inr e))
   refine ⟨.inr ⟨Has.le dC.le std1_3_18.has,Md1_3_17.get,trivial⟩,?_⟩
   refine dr_c rfl (eJ [I 0,I 0,.string ByteArray.empty,.slice none 0 0,.slice none 0 0,I 0,I 0,.string ByteArray.empty,.slice none 0 0,.slice none 0 0] [I i1,I i2,.string str1,.slice a5 l2.length c5,.slice a6 l3.length c6,I bU.1.Op,I bU.1.N,.string bU.1.Name,.slice ad1_3_6 bU.1.Index.length cd1_3_7,.slice ad1_3_9 bU.1.L.length cd1_3_10] [(0,.agg #[I i1,I i2,.string str1,.slice a5 l2.length c5,.slice a6 l3.length c6]),(1,.agg #[I bU.1.Op,I bU.1.N,.string bU.1.Name,.slice ad1_3_6 bU.1.Index.length cd1_3_7,.slice ad1_3_9 bU.1.L.length cd1_3_10])] u29 cP zr31 rfl rfl rfl (by kernel_rfl) rfl (by kernel_rfl) (fun fU wd1_4_2 ald1_4_3 => ?_))
   have lid1_4_8 : Lits hd1_3_4 [[I i1,I i2,.string str1,.slice a5 l2.length c5,.slice a6 l3.length c6],[I bU.1.Op,I bU.1.N,.string bU.1.Name,.slice ad1_3_6 bU.1.Index.length cd1_3_7,.slice ad1_3_9 bU.1.L.length cd1_3_10]] ([(⟨i1,i2,str1,l2,l3⟩ : GNode),bU.1] : List GNode) := (Lits.cons (GNode.into (h := hd1_3_4) (x := (⟨i1,i2,str1,l2,l3⟩ : GNode)) (SlR.mono (sp6.le.trans (sp8.le.trans dC.le)) R5) (SlR.mono (sp6.le.trans (sp8.le.trans dC.le)) R6)) (Lits.cons (GNode.into (h := hd1_3_4) (x := bU.1) Rd1_3_8 Rd1_3_11) Lits.nil))
   obtain ⟨hd1_4_4,dA,gd1_4_6,dO⟩ := ald1_4_3.fz std1_3_18.has
   have Md1_4_9 := Md1_3_15.call0 dO
   have Md1_4_10 := Md1_3_16.call0 dO
   have Md1_4_11 := Md1_3_17.call0 dO
   have std1_4_12 := std1_3_18.call0 dO
   have Rd1_4_13 : SlR _ _ _ ([(⟨i1,i2,str1,l2,l3⟩ : GNode),bU.1] : List GNode) := Lits.sl (n := 2) (Lits.mono dA lid1_4_8) rfl rfl (by decide) gd1_4_6
   refine ⟨.inr ⟨Has.le (dC.le.trans dA) std1_4_12.has,Md1_4_11.get,trivial⟩,?_⟩
   refine bV rfl rfl (fun w_ ok_ => dJ (vs := [I ((dZ p2 r2.1.S).getD 0),I 0,.string ByteArray.empty,.slice none 0 0,.slice (some ⟨fU,0,none⟩) 2 2]) [(0,I ((dZ p2 r2.1.S).getD 0)),(4,.slice (some ⟨fU,0,none⟩) 2 2)] bd31 rfl rfl)<|dr_c rfl (od_store (o := 0) (n := 5) [I ((dZ p2 r2.1.S).getD 0),I 0,.string ByteArray.empty,.slice none 0 0,.slice (some ⟨fU,0,none⟩) 2 2] [I ((dZ p2 r2.1.S).getD 0),I 0,.string ByteArray.empty,.slice none 0 0,.slice (some ⟨fU,0,none⟩) 2 2] (.agg #[I ((dZ p2 r2.1.S).getD 0),I 0,.string ByteArray.empty,.slice none 0 0,.slice (some ⟨fU,0,none⟩) 2 2]) cP rfl s7 rfl Md1_4_11 rfl rfl rfl rfl rfl (fun wd1_6_1 wrd1_6_2 Md1_6_3 => ?_))
   have spd1_6_4 := wrd1_6_2.st std1_4_12.has Md1_4_11.none
   have Md1_6_5 := Md1_4_9.call spd1_6_4 (fun e => ((Mut.ne_ty Md1_4_9 Md1_4_11 (by decide)) e))
   have Md1_6_6 := Md1_4_10.call spd1_6_4 (fun e => (ne2 e))
   have std1_6_7 := std1_4_12.call spd1_6_4 (fun x e => (.inl (e ▸ lb4)))
   refine ⟨.inl rfl,?_⟩
   refine eL<|aZ<|bI ?_
   exact ih.2.2.2.1 std1_6_7 s0 s1 s2 s6 s7 (SlR.mono dA Rd1_3_14) Md1_6_5 (MpF.mono (sp6.le.trans (sp8.le.trans (dC.le.trans dA))) g1) Md1_6_6 lb3 (SlR.none _) Rd1_4_13 Md1_6_3 lb4 ne2 H
 refine tr e89_19 (bQ (dF hc3)) rfl<|bO e89_20 rfl<|aB e89_25<|aA e89_26<|vv rfl (bH [I i1,I i2,.string str1,.slice a5 l2.length c5,.slice a6 l3.length c6] dX cP s7 rfl (bA M29.get rfl))<|aV (o := 0) (n := 5) [I i1,I i2,.string str1,.slice a5 l2.length c5,.slice a6 l3.length c6] [I i1,I i2,.string str1,.slice a5 l2.length c5,.slice a6 l3.length c6] (.agg #[I i1,I i2,.string str1,.slice a5 l2.length c5,.slice a6 l3.length c6]) cP rfl rfl s6 rfl M28 rfl rfl rfl rfl rfl (fun w9 wr4 M30 => ?_)
 have sp9 := wr4.st st10.has M28.none
 have M31 := M27.call sp9 (fun e => ((Mut.ne_ty M27 M28 (by decide)) e))
 have M32 := M29.call sp9 (fun e => ((Ne.symm ne2) e))
 have st11 := st10.call sp9 (fun x e => (.inl (e ▸ lb3)))
 obtain ⟨h6,le3,g4,st12,kp3⟩ := M30.fz st11 lb3
 have M33 := M31.fr kp3 (Mut.ne_ty M31 M30 (by decide))
 have M34 := M32.fr kp3 (Ne.symm ne2)
 refine aD ?_
 cases H
 exact aJ e89_27 (cD Try.results89 (eH [I i1,I i2,.string str1,.slice a5 l2.length c5,.slice a6 l3.length c6] dX cP s6 rfl (bA (st12.has _ _ g4) rfl)) ⟨a5,c5,a6,c6,a8,c8,h6,rfl,st12,(SlR.mono (sp6.le.trans (sp8.le.trans le3)) R5),(SlR.mono (sp6.le.trans (sp8.le.trans le3)) R6),(SlR.mono le3 R8),M33⟩)
theorem S90_z : S90 0 := by
  unfold S90; intros; rename_i H; exact absurd H (by simp [m90])
theorem S90_s (k : Nat) (ih : ZS100 k) : S90 (k + 1) := by
 intro aS bW cK bX cY w0 h0 hh dU Mp0 r H
 rw [m90] at H
 refine aP (fn := Try.f90) Try.func90 rfl (Nat.le_of_ble_eq_true rfl) ?_
 show Run X90 [.code c90_0] (fun t => List.getD [.pointer (some ⟨aS,0,none⟩)] t undef) w0 (.fn (Q90 w0 h0 aS r))
 have st0 := St.init hh (fun x => x = aS)
 refine aB e90_0<|aA e90_1<|cG (.agg #[I 0,I 0,.string ByteArray.empty,.slice none 0 0,.slice none 0 0]) zr31 rfl rfl (fun b1 w1 al1 => ?_)
 replace al1 : Al _ (.cells (List.toArray [I 0,I 0,.string ByteArray.empty,.slice none 0 0,.slice none 0 0]) 31 (0,0)) b1 w1 := al1
 have M1 := Mut.new st0 al1
 have lb1 := st0.alB al1
 have sp1 := al1.st st0.has
 have M2 := Mp0.call0 sp1
 have st1 := st0.call0 sp1
 refine aD<|aB e90_2<|aA e90_3<|vv rfl (aE (.pointer (some ⟨aS,0,none⟩)) rfl)<|vv rfl (aE (.pointer (some ⟨aS,0,none⟩)) rfl)<|vv rfl (eU (.func (.func 96) #[.pointer (some ⟨aS,0,none⟩)] #[]) (mf rfl rfl))<|rr_makeMap rfl rfl (fun b2 w2 al2 => ?_)
 have M3 : MpM _ _ b2 ([] : (List (ByteArray × Int))) := MpM.new st1 al2
 have lb2 := st1.alB al2
 have sp2 := al2.st st1.has
 have M4 := M2.call0 sp2
 have M5 := M1.call0 sp2
 have st2 := st1.call0 sp2
 refine rr_insert (l := ([] : (List (ByteArray × Int)))) (key := (⟨#[42]⟩ : ByteArray)) (v := (I 5)) 5 mt148 rfl rfl rfl rfl rfl M3 rfl st2.has (fun w3 M6 sp3 => ?_)
 have M7 := M4.call sp3 (fun e => ((Ne.symm (MpM.ne_mut M3 M4)) e))
 have M8 := M5.call sp3 (fun e => ((Ne.symm (MpM.ne_mut M3 M5)) e))
 have st3 := st2.call sp3 (fun x e => (.inl (e ▸ lb2)))
 refine vv rfl (aE (.map (some b2)) rfl) ?_
 obtain ⟨h1,le1,g1,st4,kp1⟩ := M6.fz st3 lb2
 have M9 := M7.fr kp1 (Ne.symm (MpM.ne_mut M6 M7))
 have M10 := M8.fr kp1 (Ne.symm (MpM.ne_mut M6 M8))
 obtain ⟨r1,hr1,H⟩ := aK H
 refine aU [.pointer (some ⟨aS,0,none⟩),.func (.func 96) #[.pointer (some ⟨aS,0,none⟩)] #[],.map (some b2)] en89 rfl rfl rfl (ih.2.2.2.2.2.1 st4.has (SlR.mono le1 dU) M9 g1 hr1) ?_
 rintro _ w4 ⟨a1,c1,a2,c2,a3,c3,h2,rfl,sp4,R1,R2,R3,M11⟩
 have M12 := M10.call sp4 (fun e => ((Mut.ne_ty M10 M9 (by decide)) e))
 have st5 := st4.call sp4 (fun x e => (.inr e))
 refine aV (o := 0) (n := 5) [I r1.1.Op,I r1.1.N,.string r1.1.Name,.slice a1 r1.1.Index.length c1,.slice a2 r1.1.L.length c2] [I r1.1.Op,I r1.1.N,.string r1.1.Name,.slice a1 r1.1.Index.length c1,.slice a2 r1.1.L.length c2] (.agg #[I r1.1.Op,I r1.1.N,.string r1.1.Name,.slice a1 r1.1.Index.length c1,.slice a2 r1.1.L.length c2]) cP rfl rfl rfl rfl M12 rfl rfl rfl rfl rfl (fun w5 wr1 M13 => ?_)
 have sp5 := wr1.st st5.has M12.none
 have M14 := M11.call sp5 (fun e => ((Mut.ne_ty M11 M12 (by decide)) e))
 have st6 := st5.call sp5 (fun x e => (.inl (e ▸ lb1)))
 obtain ⟨h3,le2,g2,st7,kp2⟩ := M13.fz st6 lb1
 have M15 := M14.fr kp2 (Mut.ne_ty M14 M13 (by decide))
 refine aD ?_
 cases H
 exact aJ e90_4 (cD Try.results90 (eH [I r1.1.Op,I r1.1.N,.string r1.1.Name,.slice a1 r1.1.Index.length c1,.slice a2 r1.1.L.length c2] dX cP rfl rfl (bA (st7.has _ _ g2) rfl)) ⟨a1,c1,a2,c2,a3,c3,h3,rfl,st7,(SlR.mono le2 R1),(SlR.mono le2 R2),(SlR.mono le2 R3),M15⟩)
theorem S89_1_z : S89_1 0 := by
  unfold S89_1; intros; rename_i H; exact absurd H (by simp [m89_1])
theorem S89_1_s (k : Nat) (ih : ZS100 k) : S89_1 (k + 1) := by
 intro aS bW p2_b cK bX cY p2 w0 h0 hh dU Mp0 gp2 r H
 rw [m89_1] at H
 refine aP (fn := Try.f89) Try.func89 rfl (Nat.le_of_ble_eq_true rfl) ?_
 show Run X89 [.code c89_0] (fun t => List.getD [.pointer (some ⟨aS,0,none⟩),.func (.func 96) #[.pointer (some ⟨aS,0,none⟩)] #[],.map (some p2_b)] t undef) w0 (.fn (Q89_1 w0 h0 aS r))
 have st0 := St.init hh (fun x => x = aS)
 refine aB e89_0<|aA e89_1<|cG (.agg #[I 0,I 0,.string ByteArray.empty,.slice none 0 0,.slice none 0 0]) zr31 rfl rfl (fun b1 w1 al1 => ?_)
 replace al1 : Al _ (.cells (List.toArray [I 0,I 0,.string ByteArray.empty,.slice none 0 0,.slice none 0 0]) 31 (0,0)) b1 w1 := al1
 have M1 := Mut.new st0 al1
 have lb1 := st0.alB al1
 have sp1 := al1.st st0.has
 have M2 := Mp0.call0 sp1
 have st1 := st0.call0 sp1
 refine aD<|aB e89_2<|aA e89_3<|vv rfl (aE (.func (.func 96) #[.pointer (some ⟨aS,0,none⟩)] #[]) rfl) ?_
 obtain ⟨r1,hr1,H⟩ := aK H
 refine dQ [.pointer (some ⟨aS,0,none⟩)] [] [] [.pointer (some ⟨aS,0,none⟩)] en96 rfl rfl rfl rfl rfl (ih.2.2.2.2.2.2.2 st1.has dU M2 hr1) ?_
 rintro _ w2 ⟨a1,c1,a2,c2,a3,c3,h1,rfl,sp2,R1,R2,R3,M3⟩
 have M4 := M1.call sp2 (fun e => ((Mut.ne_ty M1 M2 (by decide)) e))
 have st2 := st1.call sp2 (fun x e => (.inr e))
 refine cG (.agg #[I 0,I 0,.string ByteArray.empty,.slice none 0 0,.slice none 0 0]) zr31 rfl rfl (fun b2 w3 al2 => ?_)
 replace al2 : Al _ (.cells (List.toArray [I 0,I 0,.string ByteArray.empty,.slice none 0 0,.slice none 0 0]) 31 (0,0)) b2 w3 := al2
 have ne1 := M4.ne_al al2
 have M5 := Mut.new st2 al2
 have lb2 := st2.alB al2
 have sp3 := al2.st st2.has
 have M6 := M3.call0 sp3
 have M7 := M4.call0 sp3
 have st3 := st2.call0 sp3
 refine aV (o := 0) (n := 5) [I r1.1.Op,I r1.1.N,.string r1.1.Name,.slice a1 r1.1.Index.length c1,.slice a2 r1.1.L.length c2] [I r1.1.Op,I r1.1.N,.string r1.1.Name,.slice a1 r1.1.Index.length c1,.slice a2 r1.1.L.length c2] (.agg #[I r1.1.Op,I r1.1.N,.string r1.1.Name,.slice a1 r1.1.Index.length c1,.slice a2 r1.1.L.length c2]) cP rfl rfl rfl rfl M5 rfl rfl rfl rfl rfl (fun w4 wr1 M8 => ?_)
 have sp4 := wr1.st st3.has M5.none
 have M9 := M6.call sp4 (fun e => ((Mut.ne_ty M6 M5 (by decide)) e))
 have M10 := M7.call sp4 (fun e => (ne1 e))
 have st4 := st3.call sp4 (fun x e => (.inl (e ▸ lb2)))
 refine aD<|aB e89_4<|aT e89_5<|bZ e89_6 ?_
 exact ih.2.2.2.2.2.2.1 st4 rfl rfl rfl rfl rfl R3 M9 (MpF.mono sp2.le gp2) M10 lb1 R1 R2 M8 lb2 ne1 H
theorem SLl89_1_0_z : SLl89_1_0 0 := by
  unfold SLl89_1_0; intros; rename_i H; exact absurd H (by simp [l89_1_0])
theorem SLl89_1_0_s (k : Nat) (ih : ZS100 k) : SLl89_1_0 (k + 1) := by
 intro aS p2_b b1 b2 c4 c5 c6 p2 w0 w h0 h σ l1 a4 a5 a6 b3 i1 i2 str1 l2 l3 r st s0 s1 s2 s6 s7 R4 M11 g1 M12 lb3 R5 R6 M13 lb4 ne2 H
 rw [l89_1_0] at H
 refine aB e89_7<|aB e89_8<|aA e89_9<|vv rfl (aE (.pointer (some ⟨aS,0,none⟩)) s0)<|vv rfl (bJ ⟨aS,0,none⟩ rfl)<|vv rfl (aF (b := aS) (o := 0) fl96_1 rfl)<|vv rfl (aN (.bool b3) sc4 rfl ((aR M11.get).trans rfl))<|vv rfl (dV b3 4 rfl)<|aD ?_
 rcases aM H with ⟨hc1,H⟩ | ⟨hc1,H⟩
 · refine fa e89_10 (bN hc1) rfl<|bO e89_12 rfl<|aB e89_25<|aA e89_26<|vv rfl (bH [I i1,I i2,.string str1,.slice a5 l2.length c5,.slice a6 l3.length c6] dX cP s7 rfl (bA M13.get rfl))<|aV (o := 0) (n := 5) [I i1,I i2,.string str1,.slice a5 l2.length c5,.slice a6 l3.length c6] [I i1,I i2,.string str1,.slice a5 l2.length c5,.slice a6 l3.length c6] (.agg #[I i1,I i2,.string str1,.slice a5 l2.length c5,.slice a6 l3.length c6]) cP rfl rfl s6 rfl M12 rfl rfl rfl rfl rfl (fun w5 wr2 M14 => ?_)
   have sp5 := wr2.st st.has M12.none
   have M15 := M11.call sp5 (fun e => ((Mut.ne_ty M11 M12 (by decide)) e))
   have M16 := M13.call sp5 (fun e => ((Ne.symm ne2) e))
   have st5 := st.call sp5 (fun x e => (.inl (e ▸ lb3)))
   obtain ⟨h2,le1,g2,st6,kp1⟩ := M14.fz st5 lb3
   have M17 := M15.fr kp1 (Mut.ne_ty M15 M14 (by decide))
   have M18 := M16.fr kp1 (Ne.symm ne2)
   refine aD ?_
   cases H
   exact aJ e89_27 (cD Try.results89 (eH [I i1,I i2,.string str1,.slice a5 l2.length c5,.slice a6 l3.length c6] dX cP s6 rfl (bA (st6.has _ _ g2) rfl)) ⟨a5,c5,a6,c6,a4,c4,h2,rfl,st6,(SlR.mono le1 R5),(SlR.mono le1 R6),(SlR.mono le1 R4),M17⟩)
 refine tr e89_10 (bQ (bY hc1)) rfl<|aL e89_11<|aT e89_13<|aB e89_14<|aA e89_15<|vv rfl (aE (.map (some p2_b)) s2)<|vv rfl (aE (.pointer (some ⟨aS,0,none⟩)) s0)<|vv rfl (bJ ⟨aS,0,none⟩ rfl)<|vv rfl (aF (b := aS) (o := 0) fl96_0 rfl) ?_
 obtain ⟨r2,hr2,H⟩ := aK H
 refine aU [.pointer (some ⟨aS,0,none⟩)] en69 rfl rfl rfl (F69 st.has R4 M11 hr2) ?_
 rintro _ w6 ⟨a7,c7,h3,rfl,sp6,R7,M19⟩
 have M20 := M12.call sp6 (fun e => ((Mut.ne_ty M12 M11 (by decide)) e))
 have M21 := M13.call sp6 (fun e => ((Mut.ne_ty M13 M11 (by decide)) e))
 have st7 := st.call sp6 (fun x e => (.inr e))
 refine vv rfl (x_fS (.string r2.1.S) ft118_1 sc9 rfl rfl) ?_
 obtain ⟨v1,rp1,lk1⟩ := MpF.look (zv := (I 0)) (zu := 0) (MpF.mono sp6.le g1) mt148 zr3 rfl r2.1.S
 obtain rfl := rep_int rp1
 refine vv rfl (x_lookup (v := (I ((dZ p2 r2.1.S).getD 0))) rfl rfl (lk1 w6 st7.has false))<|vv rfl (aC (I ((dZ p2 r2.1.S).getD 0)) rfl)<|aD<|aB e89_16<|aB e89_17<|aA e89_18<|vv rfl (aE (I ((dZ p2 r2.1.S).getD 0)) rfl)<|vv rfl (aQ .eql .i64 ((dZ p2 r2.1.S).getD 0) 0 (.bool (decide (((dZ p2 r2.1.S).getD 0) = 0))) 3 3 rfl rfl rfl)<|vv rfl (aE (.bool (decide (((dZ p2 r2.1.S).getD 0) = 0))) rfl) ?_
 rcases aM H with ⟨hc2,H⟩ | ⟨hc2,H⟩
 · refine aO (wf2 (dT hc2) rfl) rfl<|aO (wf2 (dT hc2) rfl) rfl<|aO (wf2 (dT hc2) rfl) rfl<|aO (wf2 (dT hc2) rfl) rfl<|aO (wf2 (dT hc2) rfl) rfl<|aO (wf2 (dT hc2) rfl) rfl<|vv rfl (dD (.bool true) (dT hc2) rfl rfl)<|aD<|cZ e89_19 (p := true) rfl rfl<|bO e89_20 rfl ?_
   refine aB e89_25<|aA e89_26<|vv rfl (bH [I i1,I i2,.string str1,.slice a5 l2.length c5,.slice a6 l3.length c6] dX cP s7 rfl (bA M21.get rfl))<|aV (o := 0) (n := 5) [I i1,I i2,.string str1,.slice a5 l2.length c5,.slice a6 l3.length c6] [I i1,I i2,.string str1,.slice a5 l2.length c5,.slice a6 l3.length c6] (.agg #[I i1,I i2,.string str1,.slice a5 l2.length c5,.slice a6 l3.length c6]) cP rfl rfl s6 rfl M20 rfl rfl rfl rfl rfl (fun w7 wr3 M22 => ?_)
   have sp7 := wr3.st st7.has M20.none
   have M23 := M19.call sp7 (fun e => ((Mut.ne_ty M19 M20 (by decide)) e))
   have M24 := M21.call sp7 (fun e => ((Ne.symm ne2) e))
   have st8 := st7.call sp7 (fun x e => (.inl (e ▸ lb3)))
   obtain ⟨h4,le2,g3,st9,kp2⟩ := M22.fz st8 lb3
   have M25 := M23.fr kp2 (Mut.ne_ty M23 M22 (by decide))
   have M26 := M24.fr kp2 (Ne.symm ne2)
   refine aD ?_
   cases H
   exact aJ e89_27 (cD Try.results89 (eH [I i1,I i2,.string str1,.slice a5 l2.length c5,.slice a6 l3.length c6] dX cP s6 rfl (bA (st9.has _ _ g3) rfl)) ⟨a5,c5,a6,c6,a7,c7,h4,rfl,st9,(SlR.mono (sp6.le.trans le2) R5),(SlR.mono (sp6.le.trans le2) R6),(SlR.mono le2 R7),M25⟩)
 refine bC (wt2 (dF hc2) rfl) rfl (aE (.pointer (some ⟨aS,0,none⟩)) s0)<|bC (wt2 (dF hc2) rfl) rfl (bJ ⟨aS,0,none⟩ rfl)<|bC (wt2 (dF hc2) rfl) rfl (aF (b := aS) (o := 0) fl96_0 rfl) ?_
 obtain ⟨r3,hr3,H⟩ := aK H
 refine aU [.pointer (some ⟨aS,0,none⟩)] en69 (wt2 (dF hc2) rfl) rfl rfl (F69 st7.has R7 M19 hr3) ?_
 rintro _ w8 ⟨a8,c8,h5,rfl,sp8,R8,M27⟩
 have M28 := M20.call sp8 (fun e => ((Mut.ne_ty M20 M19 (by decide)) e))
 have M29 := M21.call sp8 (fun e => ((Mut.ne_ty M21 M19 (by decide)) e))
 have st10 := st7.call sp8 (fun x e => (.inr e))
 refine bC (wt2 (dF hc2) rfl) rfl (x_fS (I r3.1.Kind) ft118_0 sc3 rfl rfl)<|bC (wt2 (dF hc2) rfl) rfl (aQ .neq .i64 r3.1.Kind 3 (.bool (!decide (r3.1.Kind = 3))) 3 3 rfl rfl rfl)<|vv rfl (dE (.bool (!decide (r3.1.Kind = 3))) (dF hc2) rfl rfl)<|aD ?_
 rcases aM H with ⟨hc3,H⟩ | ⟨hc3,H⟩
 · refine fa e89_19 (bN (dT hc3)) rfl<|aL e89_21<|aB e89_22<|aA e89_23<|vv rfl (aE (.pointer (some ⟨aS,0,none⟩)) s0)<|vv rfl (aE (.pointer (some ⟨aS,0,none⟩)) s0)<|vv rfl (bJ ⟨aS,0,none⟩ rfl)<|vv rfl (aF (b := aS) (o := 0) fl96_0 rfl)<|vv rfl (aF (b := aS) (o := 0) fl94_0 rfl)<|vv rfl (aN (.slice a8 r3.2.1.length c8) sc87 rfl ((aR M27.get).trans rfl)) ?_
   obtain ⟨hs1,H⟩ := cC H
   obtain ⟨a9,c9,ha1,hc4,R9⟩ := SlR.slice2 (lo := 1) (hi := (r3.2.1.length : Int)) R8 hs1.1 hs1.2.1 hs1.2.2
   refine vv rfl (fM (l := 1) (h := (r3.2.1.length : Int)) (kl := .i64) (kh := .i64) r3.2.1 rfl u87 eG rfl rfl rfl hs1.1 hs1.2.1 hs1.2.2 R8.lc ha1 hc4)<|vv rfl (bJ ⟨aS,0,none⟩ rfl)<|vv rfl (aF (b := aS) (o := 0) fl96_0 rfl)<|vv rfl (aF (b := aS) (o := 0) fl94_0 rfl)<|aV (o := 0) (n := 1) [.slice a9 (((r3.2.1.take ((r3.2.1.length : Int) : Int).toNat).drop (1 : Int).toNat).length) c9] [.slice a9 (((r3.2.1.take ((r3.2.1.length : Int) : Int).toNat).drop (1 : Int).toNat).length) c9,.bool r3.2.2] (.slice a9 (((r3.2.1.take ((r3.2.1.length : Int) : Int).toNat).drop (1 : Int).toNat).length) c9) sz87 rfl rfl rfl rfl M27 rfl rfl rfl rfl rfl (fun w10 wr5 M35 => ?_)
   have sp10 := wr5.st st10.has M27.none
   have M36 := M28.call sp10 (fun e => ((Mut.ne_ty M28 M27 (by decide)) e))
   have M37 := M29.call sp10 (fun e => ((Mut.ne_ty M29 M27 (by decide)) e))
   have st13 := st10.call sp10 (fun x e => (.inr e))
   refine aD ?_
   refine dY [[(0,false),(1,false),(2,false),(3,true),(4,true),(5,false),(6,true)]] [3,4,6] [0,1,2,3,4,5,6] [0,1,2,3,4,5,6] (fun w_ => Has h5 w_ ∧ w_.heap[b2]? = some (.cells (List.toArray [I i1,I i2,.string str1,.slice a5 l2.length c5,.slice a6 l3.length c6]) 31 (0,0)) ∧ True) e89_24 k89_24 m89_24 (fun w11 al3 => ?_)
   have sp11 := al3.st st13.has
   have M38 := M35.call0 sp11
   have M39 := M36.call0 sp11
   have M40 := M37.call0 sp11
   have st14 := st13.call0 sp11
   refine ⟨⟨Has.le (Le.refl _) st14.has,M40.get,trivial⟩,?_,trivial⟩
   refine bV rfl rfl (fun w_ ok_ => aE (I ((dZ p2 r2.1.S).getD 0)) rfl)<|bV rfl rfl (fun w_ ok_ => bH [I i1,I i2,.string str1,.slice a5 l2.length c5,.slice a6 l3.length c6] dX cP s7 rfl (bA ok_.2.1 rfl))<|bV rfl rfl (fun w_ ok_ => aE (.func (.func 96) #[.pointer (some ⟨aS,0,none⟩)] #[]) s1) ?_
   obtain ⟨bU,hrd1_3_2,H⟩ := aK H
   refine dr_c rfl (od_callV [.pointer (some ⟨aS,0,none⟩)] [] [] [.pointer (some ⟨aS,0,none⟩)] en96 rfl rfl rfl rfl (ih.2.2.2.2.2.2.2 st14.has R9 M38 hrd1_3_2) ?_)
   rintro _ wd1_3_3 ⟨ad1_3_6,cd1_3_7,ad1_3_9,cd1_3_10,ad1_3_12,cd1_3_13,hd1_3_4,rfl,dC,Rd1_3_8,Rd1_3_11,Rd1_3_14,Md1_3_15⟩
   have Md1_3_16 := M39.call dC (fun e => ((Mut.ne_ty M39 M38 (by decide)) e))
   have Md1_3_17 := M40.call dC (fun e => ((Mut.ne_ty M40 M38 (by decide)) e))
   have std1_3_18 := st14.call dC (fun x e => (.inr e))
   refine ⟨.inr ⟨Has.le dC.le std1_3_18.has,Md1_3_17.get,trivial⟩,?_⟩
   refine dr_c rfl (eJ [I 0,I 0,.string ByteArray.empty,.slice none 0 0,.slice none 0 0,I 0,I 0,.string ByteArray.empty,.slice none 0 0,.slice none 0 0] [I i1,I i2,.string str1,.slice a5 l2.length c5,.slice a6 l3.length c6,I bU.1.Op,I bU.1.N,.string bU.1.Name,.slice ad1_3_6 bU.1.Index.length cd1_3_7,.slice ad1_3_9 bU.1.L.length cd1_3_10] [(0,.agg #[I i1,I i2,.string str1,.slice a5 l2.length c5,.slice a6 l3.length c6]),(1,.agg #[I bU.1.Op,I bU.1.N,.string bU.1.Name,.slice ad1_3_6 bU.1.Index.length cd1_3_7,.slice ad1_3_9 bU.1.L.length cd1_3_10])] u29 cP zr31 rfl rfl rfl (by kernel_rfl) rfl (by kernel_rfl) (fun fU wd1_4_2 ald1_4_3 => ?_))
   have lid1_4_8 : Lits hd1_3_4 [[I i1,I i2,.string str1,.slice a5 l2.length c5,.slice a6 l3.length c6],[I bU.1.Op,I bU.1.N,.string bU.1.Name,.slice ad1_3_6 bU.1.Index.length cd1_3_7,.slice ad1_3_9 bU.1.L.length cd1_3_10]] ([(⟨i1,i2,str1,l2,l3⟩ : GNode),bU.1] : List GNode) := (Lits.cons (GNode.into (h := hd1_3_4) (x := (⟨i1,i2,str1,l2,l3⟩ : GNode)) (SlR.mono (sp6.le.trans (sp8.le.trans dC.le)) R5) (SlR.mono (sp6.le.trans (sp8.le.trans dC.le)) R6)) (Lits.cons (GNode.into (h := hd1_3_4) (x := bU.1) Rd1_3_8 Rd1_3_11) Lits.nil))
   obtain ⟨hd1_4_4,dA,gd1_4_6,dO⟩ := ald1_4_3.fz std1_3_18.has
   have Md1_4_9 := Md1_3_15.call0 dO
   have Md1_4_10 := Md1_3_16.call0 dO
   have Md1_4_11 := Md1_3_17.call0 dO
   have std1_4_12 := std1_3_18.call0 dO
   have Rd1_4_13 : SlR _ _ _ ([(⟨i1,i2,str1,l2,l3⟩ : GNode),bU.1] : List GNode) := Lits.sl (n := 2) (Lits.mono dA lid1_4_8) rfl rfl (by decide) gd1_4_6
   refine ⟨.inr ⟨Has.le (dC.le.trans dA) std1_4_12.has,Md1_4_11.get,trivial⟩,?_⟩
   refine bV rfl rfl (fun w_ ok_ => dJ (vs := [I ((dZ p2 r2.1.S).getD 0),I 0,.string ByteArray.empty,.slice none 0 0,.slice (some ⟨fU,0,none⟩) 2 2]) [(0,I ((dZ p2 r2.1.S).getD 0)),(4,.slice (some ⟨fU,0,none⟩) 2 2)] bd31 rfl rfl)<|dr_c rfl (od_store (o := 0) (n := 5) [I ((dZ p2 r2.1.S).getD 0),I 0,.string ByteArray.empty,.slice none 0 0,.slice (some ⟨fU,0,none⟩) 2 2] [I ((dZ p2 r2.1.S).getD 0),I 0,.string ByteArray.empty,.slice none 0 0,.slice (some ⟨fU,0,none⟩) 2 2] (.agg #[I ((dZ p2 r2.1.S).getD 0),I 0,.string ByteArray.empty,.slice none 0 0,.slice (some ⟨fU,0,none⟩) 2 2]) cP rfl s7 rfl Md1_4_11 rfl rfl rfl rfl rfl (fun wd1_6_1 wrd1_6_2 Md1_6_3 => ?_))
   have spd1_6_4 := wrd1_6_2.st std1_4_12.has Md1_4_11.none
   have Md1_6_5 := Md1_4_9.call spd1_6_4 (fun e => ((Mut.ne_ty Md1_4_9 Md1_4_11 (by decide)) e))
   have Md1_6_6 := Md1_4_10.call spd1_6_4 (fun e => (ne2 e))
   have std1_6_7 := std1_4_12.call spd1_6_4 (fun x e => (.inl (e ▸ lb4)))
   refine ⟨.inl rfl,?_⟩
   refine eL<|aZ<|bI ?_
   exact ih.2.2.2.2.2.2.1 std1_6_7 s0 s1 s2 s6 s7 (SlR.mono dA Rd1_3_14) Md1_6_5 (MpF.mono (sp6.le.trans (sp8.le.trans (dC.le.trans dA))) g1) Md1_6_6 lb3 (SlR.none _) Rd1_4_13 Md1_6_3 lb4 ne2 H
 refine tr e89_19 (bQ (dF hc3)) rfl<|bO e89_20 rfl<|aB e89_25<|aA e89_26<|vv rfl (bH [I i1,I i2,.string str1,.slice a5 l2.length c5,.slice a6 l3.length c6] dX cP s7 rfl (bA M29.get rfl))<|aV (o := 0) (n := 5) [I i1,I i2,.string str1,.slice a5 l2.length c5,.slice a6 l3.length c6] [I i1,I i2,.string str1,.slice a5 l2.length c5,.slice a6 l3.length c6] (.agg #[I i1,I i2,.string str1,.slice a5 l2.length c5,.slice a6 l3.length c6]) cP rfl rfl s6 rfl M28 rfl rfl rfl rfl rfl (fun w9 wr4 M30 => ?_)
 have sp9 := wr4.st st10.has M28.none
 have M31 := M27.call sp9 (fun e => ((Mut.ne_ty M27 M28 (by decide)) e))
 have M32 := M29.call sp9 (fun e => ((Ne.symm ne2) e))
 have st11 := st10.call sp9 (fun x e => (.inl (e ▸ lb3)))
 obtain ⟨h6,le3,g4,st12,kp3⟩ := M30.fz st11 lb3
 have M33 := M31.fr kp3 (Mut.ne_ty M31 M30 (by decide))
 have M34 := M32.fr kp3 (Ne.symm ne2)
 refine aD ?_
 cases H
 exact aJ e89_27 (cD Try.results89 (eH [I i1,I i2,.string str1,.slice a5 l2.length c5,.slice a6 l3.length c6] dX cP s6 rfl (bA (st12.has _ _ g4) rfl)) ⟨a5,c5,a6,c6,a8,c8,h6,rfl,st12,(SlR.mono (sp6.le.trans (sp8.le.trans le3)) R5),(SlR.mono (sp6.le.trans (sp8.le.trans le3)) R6),(SlR.mono le3 R8),M33⟩)
theorem S96_z : S96 0 := by
  unfold S96; intros; rename_i H; exact absurd H (by simp [m96])
theorem S96_s (k : Nat) (ih : ZS100 k) : S96 (k + 1) := by
 intro aS bW cK bX cY w0 h0 hh dU Mp0 r H
 rw [m96] at H
 refine aP (fn := Try.f96) Try.func96 rfl (Nat.le_of_ble_eq_true rfl) ?_
 show Run X96 [.code c96_0] (fun t => List.getD [.pointer (some ⟨aS,0,none⟩)] t undef) w0 (.fn (Q96 w0 h0 aS r))
 have st0 := St.init hh (fun x => x = aS)
 refine aB e96_0<|aA e96_1<|cG (.agg #[I 0,I 0,.string ByteArray.empty,.slice none 0 0,.slice none 0 0]) zr31 rfl rfl (fun b1 w1 al1 => ?_)
 replace al1 : Al _ (.cells (List.toArray [I 0,I 0,.string ByteArray.empty,.slice none 0 0,.slice none 0 0]) 31 (0,0)) b1 w1 := al1
 have M1 := Mut.new st0 al1
 have lb1 := st0.alB al1
 have sp1 := al1.st st0.has
 have M2 := Mp0.call0 sp1
 have st1 := st0.call0 sp1
 refine aD<|aB e96_2<|aT e96_3<|aB e96_4<|aA e96_5<|vv rfl (aE (.pointer (some ⟨aS,0,none⟩)) rfl)<|vv rfl (bJ ⟨aS,0,none⟩ rfl)<|vv rfl (aF (b := aS) (o := 0) fl96_1 rfl)<|vv rfl (aN (.bool cY) sc4 rfl ((aR M2.get).trans rfl))<|vv rfl (aC (.bool cY) rfl) ?_
 refine aD ?_
 obtain ⟨j1,hj1,H⟩ := dH H
 have Jj1 : ∀ {y1 : (List GToken)} {y2 : Bool} {y3 y4 : Int} {y5 : ByteArray} {y6 : (List ByteArray)} {y7 : (List GNode)} {a19 a20 a21 : OA} {c19 c20 c21 : Nat} {σ1 : Env} {w21 : World} {h13 : Sto},Le h0 h13 → St w0 (fun x => x = aS) h0 h13 w21 → σ1 2 = .pointer (some ⟨b1,0,none⟩) → SlR h13 a19 c19 y1 → Mut h13 w21 aS (.cells (List.toArray [.slice a19 y1.length c19,.bool y2]) 96 (0,0)) → SlR h13 a20 c20 y6 → SlR h13 a21 c21 y7 → Mut h13 w21 b1 (.cells (List.toArray [I y3,I y4,.string y5,.slice a20 y6.length c20,.slice a21 y7.length c21]) 31 (0,0)) → j1 y1 y2 y3 y4 y5 y6 y7 = some r → Run X96 [.inBlock 0,.code c96_29] σ1 w21 (.fn (Q96 w0 h0 aS r)) := by
  intro y1 y2 y3 y4 y5 y6 y7 a19 a20 a21 c19 c20 c21 σ1 w21 h13 le2 st21 s2_j1 R20 M41 R21 R22 M42 H
  rw [hj1] at H
  refine aZ<|aB e96_29<|aA e96_30<|vv rfl (bH [I y3,I y4,.string y5,.slice a20 y6.length c20,.slice a21 y7.length c21] dX cP s2_j1 rfl (bA M42.get rfl))<|aV (o := 0) (n := 5) [I y3,I y4,.string y5,.slice a20 y6.length c20,.slice a21 y7.length c21] [I y3,I y4,.string y5,.slice a20 y6.length c20,.slice a21 y7.length c21] (.agg #[I y3,I y4,.string y5,.slice a20 y6.length c20,.slice a21 y7.length c21]) cP rfl rfl s2_j1 rfl M42 rfl rfl rfl rfl rfl (fun w22 wr8 M43 => ?_)
  have sp21 := wr8.st st21.has M42.none
  have M44 := M41.call sp21 (fun e => ((Mut.ne_ty M41 M42 (by decide)) e))
  have st22 := st21.call sp21 (fun x e => (.inl (e ▸ lb1)))
  refine aD ?_
  cases H
  exact aJ e96_31 (cD Try.results96 (eH [I y3,I y4,.string y5,.slice a20 y6.length c20,.slice a21 y7.length c21] dX cP s2_j1 rfl (bA M43.get rfl)) ⟨a20,c20,a21,c21,a19,c19,h13,rfl,st22,R21,R22,R20,M44⟩)
 rcases aM H with ⟨hc1,H⟩ | ⟨hc1,H⟩
 · refine tr e96_6 hc1 rfl<|aL e96_7 ?_
   exact Jj1 (Le.refl _) st1 rfl dU M2 (SlR.none _) (SlR.none _) M1 H
 refine fa e96_6 (bY hc1) rfl<|aB e96_8<|aA e96_9<|vv rfl (aE (.pointer (some ⟨aS,0,none⟩)) rfl) ?_
 obtain ⟨r1,hr1,H⟩ := aK H
 refine aU [.pointer (some ⟨aS,0,none⟩),.string (⟨#[45]⟩ : ByteArray)] en88 rfl rfl rfl (F88 st1.has dU M2 hr1) ?_
 rintro _ w2 ⟨a1,c1,h1,rfl,sp2,R1,M3⟩
 have M4 := M1.call sp2 (fun e => ((Mut.ne_ty M1 M2 (by decide)) e))
 have st2 := st1.call sp2 (fun x e => (.inr e))
 refine vv rfl (aC (.bool r1.1) rfl)<|aD ?_
 rcases aM H with ⟨hc2,H⟩ | ⟨hc2,H⟩
 · refine tr e96_10 hc2 rfl<|aA e96_11<|vv rfl (aE (.pointer (some ⟨aS,0,none⟩)) rfl) ?_
   obtain ⟨r2,hr2,H⟩ := aK H
   refine aU [.pointer (some ⟨aS,0,none⟩)] en96 rfl rfl rfl (ih.2.2.2.2.2.2.2 st2.has R1 M3 hr2) ?_
   rintro _ w3 ⟨a2,c2,a3,c3,a4,c4,h2,rfl,sp3,R2,R3,R4,M5⟩
   have M6 := M4.call sp3 (fun e => ((Mut.ne_ty M4 M3 (by decide)) e))
   have st3 := st2.call sp3 (fun x e => (.inr e))
   refine cF [I 0,I 0,.string ByteArray.empty,.slice none 0 0,.slice none 0 0] [I r2.1.Op,I r2.1.N,.string r2.1.Name,.slice a2 r2.1.Index.length c2,.slice a3 r2.1.L.length c3] [(0,.agg #[I r2.1.Op,I r2.1.N,.string r2.1.Name,.slice a2 r2.1.Index.length c2,.slice a3 r2.1.L.length c3])] u29 cP zr31 rfl rfl rfl rfl (by kernel_rfl) rfl (by kernel_rfl) (fun b2 w4 al2 => ?_)
   have li1 : Lits h2 [[I r2.1.Op,I r2.1.N,.string r2.1.Name,.slice a2 r2.1.Index.length c2,.slice a3 r2.1.L.length c3]] ([r2.1] : List GNode) := (Lits.cons (GNode.into (h := h2) (x := r2.1) R2 R3) Lits.nil)
   obtain ⟨h3,le1,g1,sp4⟩ := al2.fz st3.has
   have M7 := M5.call0 sp4
   have M8 := M6.call0 sp4
   have st4 := st3.call0 sp4
   have R5 : SlR _ _ _ ([r2.1] : List GNode) := Lits.sl (n := 1) (Lits.mono le1 li1) rfl rfl (by decide) g1
   refine vv rfl (dJ (vs := [I 6,I 0,.string ByteArray.empty,.slice none 0 0,.slice (some ⟨b2,0,none⟩) 1 1]) [(0,I 6),(4,.slice (some ⟨b2,0,none⟩) 1 1)] bd31 rfl rfl)<|aV (o := 0) (n := 5) [I 6,I 0,.string ByteArray.empty,.slice none 0 0,.slice (some ⟨b2,0,none⟩) 1 1] [I 6,I 0,.string ByteArray.empty,.slice none 0 0,.slice (some ⟨b2,0,none⟩) 1 1] (.agg #[I 6,I 0,.string ByteArray.empty,.slice none 0 0,.slice (some ⟨b2,0,none⟩) 1 1]) cP rfl rfl rfl rfl M8 rfl rfl rfl rfl rfl (fun w5 wr1 M9 => ?_)
   have sp5 := wr1.st st4.has M8.none
   have M10 := M7.call sp5 (fun e => ((Mut.ne_ty M7 M8 (by decide)) e))
   have st5 := st4.call sp5 (fun x e => (.inl (e ▸ lb1)))
   refine aD ?_
   exact Jj1 (sp2.le.trans (sp3.le.trans le1)) st5 rfl (SlR.mono le1 R4) M10 (SlR.none _) R5 M9 H
 refine fa e96_10 (bY hc2) rfl<|aB e96_12<|aA e96_13<|vv rfl (aE (.pointer (some ⟨aS,0,none⟩)) rfl) ?_
 obtain ⟨r3,hr3,H⟩ := aK H
 refine aU [.pointer (some ⟨aS,0,none⟩),.string (⟨#[40]⟩ : ByteArray)] en88 rfl rfl rfl (F88 st2.has R1 M3 hr3) ?_
 rintro _ w6 ⟨a5,c5,h4,rfl,sp6,R6,M11⟩
 have M12 := M4.call sp6 (fun e => ((Mut.ne_ty M4 M3 (by decide)) e))
 have st6 := st2.call sp6 (fun x e => (.inr e))
 refine vv rfl (aC (.bool r3.1) rfl)<|aD ?_
 rcases aM H with ⟨hc3,H⟩ | ⟨hc3,H⟩
 · refine tr e96_14 hc3 rfl<|aB e96_15<|aA e96_16<|vv rfl (aE (.pointer (some ⟨aS,0,none⟩)) rfl) ?_
   obtain ⟨r4,hr4,H⟩ := aK H
   refine aU [.pointer (some ⟨aS,0,none⟩)] en76 rfl rfl rfl (ih.2.1 st6.has R6 M11 hr4) ?_
   rintro _ w7 ⟨a6,c6,a7,c7,a8,c8,h5,rfl,sp7,R7,R8,R9,M13⟩
   have M14 := M12.call sp7 (fun e => ((Mut.ne_ty M12 M11 (by decide)) e))
   have st7 := st6.call sp7 (fun x e => (.inr e))
   refine aV (o := 0) (n := 5) [I r4.1.Op,I r4.1.N,.string r4.1.Name,.slice a6 r4.1.Index.length c6,.slice a7 r4.1.L.length c7] [I r4.1.Op,I r4.1.N,.string r4.1.Name,.slice a6 r4.1.Index.length c6,.slice a7 r4.1.L.length c7] (.agg #[I r4.1.Op,I r4.1.N,.string r4.1.Name,.slice a6 r4.1.Index.length c6,.slice a7 r4.1.L.length c7]) cP rfl rfl rfl rfl M14 rfl rfl rfl rfl rfl (fun w8 wr2 M15 => ?_)
   have sp8 := wr2.st st7.has M14.none
   have M16 := M13.call sp8 (fun e => ((Mut.ne_ty M13 M14 (by decide)) e))
   have st8 := st7.call sp8 (fun x e => (.inl (e ▸ lb1)))
   refine aD<|aA e96_17<|vv rfl (aE (.pointer (some ⟨aS,0,none⟩)) rfl) ?_
   obtain ⟨r5,hr5,H⟩ := aK H
   refine aU [.pointer (some ⟨aS,0,none⟩),.string (⟨#[41]⟩ : ByteArray)] en70 rfl rfl rfl (F70 st8.has R9 M16 hr5) ?_
   rintro _ w9 ⟨a9,c9,h6,rfl,sp9,R10,M17⟩
   have M18 := M15.call sp9 (fun e => ((Mut.ne_ty M15 M16 (by decide)) e))
   have st9 := st8.call sp9 (fun x e => (.inr e))
   refine aD ?_
   exact Jj1 (sp2.le.trans (sp6.le.trans (sp7.le.trans sp9.le))) st9 rfl R10 M17 (SlR.mono sp9.le R7) (SlR.mono sp9.le R8) M18 H
 refine fa e96_14 (bY hc3) rfl<|aB e96_18<|aA e96_19<|vv rfl (aE (.pointer (some ⟨aS,0,none⟩)) rfl) ?_
 obtain ⟨r6,hr6,H⟩ := aK H
 refine aU [.pointer (some ⟨aS,0,none⟩),.string (⟨#[115,117,109]⟩ : ByteArray)] en88 rfl rfl rfl (F88 st6.has R6 M11 hr6) ?_
 rintro _ w10 ⟨a10,c10,h7,rfl,sp10,R11,M19⟩
 have M20 := M12.call sp10 (fun e => ((Mut.ne_ty M12 M11 (by decide)) e))
 have st10 := st6.call sp10 (fun x e => (.inr e))
 refine vv rfl (aC (.bool r6.1) rfl)<|aD ?_
 rcases aM H with ⟨hc4,H⟩ | ⟨hc4,H⟩
 · refine tr e96_20 hc4 rfl<|aA e96_21<|vv rfl (aE (.pointer (some ⟨aS,0,none⟩)) rfl) ?_
   obtain ⟨r7,hr7,H⟩ := aK H
   refine aU [.pointer (some ⟨aS,0,none⟩)] en100 rfl rfl rfl (ih.1 st10.has R11 M19 hr7) ?_
   rintro _ w11 ⟨a11,c11,a12,c12,a13,c13,h8,rfl,sp11,R12,R13,R14,M21⟩
   have M22 := M20.call sp11 (fun e => ((Mut.ne_ty M20 M19 (by decide)) e))
   have st11 := st10.call sp11 (fun x e => (.inr e))
   refine aV (o := 0) (n := 5) [I r7.1.Op,I r7.1.N,.string r7.1.Name,.slice a11 r7.1.Index.length c11,.slice a12 r7.1.L.length c12] [I r7.1.Op,I r7.1.N,.string r7.1.Name,.slice a11 r7.1.Index.length c11,.slice a12 r7.1.L.length c12] (.agg #[I r7.1.Op,I r7.1.N,.string r7.1.Name,.slice a11 r7.1.Index.length c11,.slice a12 r7.1.L.length c12]) cP rfl rfl rfl rfl M22 rfl rfl rfl rfl rfl (fun w12 wr3 M23 => ?_)
   have sp12 := wr3.st st11.has M22.none
   have M24 := M21.call sp12 (fun e => ((Mut.ne_ty M21 M22 (by decide)) e))
   have st12 := st11.call sp12 (fun x e => (.inl (e ▸ lb1)))
   refine aD ?_
   exact Jj1 (sp2.le.trans (sp6.le.trans (sp10.le.trans sp11.le))) st12 rfl R14 M24 R12 R13 M23 H
 refine fa e96_20 (bY hc4) rfl<|aB e96_22<|aA e96_23<|vv rfl (aE (.pointer (some ⟨aS,0,none⟩)) rfl)<|vv rfl (bJ ⟨aS,0,none⟩ rfl)<|vv rfl (aF (b := aS) (o := 0) fl96_0 rfl) ?_
 obtain ⟨r8,hr8,H⟩ := aK H
 refine aU [.pointer (some ⟨aS,0,none⟩)] en69 rfl rfl rfl (F69 st10.has R11 M19 hr8) ?_
 rintro _ w13 ⟨a14,c14,h9,rfl,sp13,R15,M25⟩
 have M26 := M20.call sp13 (fun e => ((Mut.ne_ty M20 M19 (by decide)) e))
 have st13 := st10.call sp13 (fun x e => (.inr e))
 refine vv rfl (x_fS (I r8.1.Kind) ft118_0 sc3 rfl rfl)<|vv rfl (aQ .eql .i64 r8.1.Kind 2 (.bool (decide (r8.1.Kind = 2))) 3 3 rfl rfl rfl)<|vv rfl (aC (.bool (decide (r8.1.Kind = 2))) rfl)<|aD ?_
 rcases aM H with ⟨hc5,H⟩ | ⟨hc5,H⟩
 · refine tr e96_24 (dT hc5) rfl<|aA e96_25<|vv rfl (aE (.pointer (some ⟨aS,0,none⟩)) rfl) ?_
   obtain ⟨r9,hr9,H⟩ := aK H
   refine aU [.pointer (some ⟨aS,0,none⟩),I 2] en74 rfl rfl rfl (F74 st13.has R15 M25 hr9) ?_
   rintro _ w14 ⟨a15,c15,h10,rfl,sp14,R16,M27⟩
   have M28 := M26.call sp14 (fun e => ((Mut.ne_ty M26 M25 (by decide)) e))
   have st14 := st13.call sp14 (fun x e => (.inr e))
   refine vv rfl (x_fS (I r9.1.N) ft118_2 sc2 rfl rfl)<|vv rfl (dJ (vs := [I 1,I r9.1.N,.string ByteArray.empty,.slice none 0 0,.slice none 0 0]) [(0,I 1),(1,I r9.1.N)] bd31 rfl rfl)<|aV (o := 0) (n := 5) [I 1,I r9.1.N,.string ByteArray.empty,.slice none 0 0,.slice none 0 0] [I 1,I r9.1.N,.string ByteArray.empty,.slice none 0 0,.slice none 0 0] (.agg #[I 1,I r9.1.N,.string ByteArray.empty,.slice none 0 0,.slice none 0 0]) cP rfl rfl rfl rfl M28 rfl rfl rfl rfl rfl (fun w15 wr4 M29 => ?_)
   have sp15 := wr4.st st14.has M28.none
   have M30 := M27.call sp15 (fun e => ((Mut.ne_ty M27 M28 (by decide)) e))
   have st15 := st14.call sp15 (fun x e => (.inl (e ▸ lb1)))
   refine aD ?_
   exact Jj1 (sp2.le.trans (sp6.le.trans (sp10.le.trans (sp13.le.trans sp14.le)))) st15 rfl R16 M30 (SlR.none _) (SlR.none _) M29 H
 refine fa e96_24 (dF hc5) rfl<|aB e96_26<|aA e96_27<|vv rfl (aE (.pointer (some ⟨aS,0,none⟩)) rfl) ?_
 obtain ⟨r10,hr10,H⟩ := aK H
 refine aU [.pointer (some ⟨aS,0,none⟩)] en71 rfl rfl rfl (F71 k st13.has R15 M25 hr10) ?_
 rintro _ w16 ⟨a16,c16,h11,rfl,sp16,R17,M31⟩
 have M32 := M26.call sp16 (fun e => ((Mut.ne_ty M26 M25 (by decide)) e))
 have st16 := st13.call sp16 (fun x e => (.inr e))
 refine vv rfl (aF (b := b1) (o := 0) fl31_0 rfl)<|aV (o := 0) (n := 1) [I 2] [I 2,I 0,.string ByteArray.empty,.slice none 0 0,.slice none 0 0] (I 2) sz3 rfl rfl rfl rfl M32 rfl rfl rfl rfl rfl (fun w17 wr5 M33 => ?_)
 have sp17 := wr5.st st16.has M32.none
 have M34 := M31.call sp17 (fun e => ((Mut.ne_ty M31 M32 (by decide)) e))
 have st17 := st16.call sp17 (fun x e => (.inl (e ▸ lb1)))
 refine vv rfl (aF (b := b1) (o := 0) fl31_2 rfl)<|aV (o := 2) (n := 1) [.string r10.1] [I 2,I 0,.string r10.1,.slice none 0 0,.slice none 0 0] (.string r10.1) sz9 rfl rfl rfl rfl M33 rfl rfl rfl rfl rfl (fun w18 wr6 M35 => ?_)
 have sp18 := wr6.st st17.has M33.none
 have M36 := M34.call sp18 (fun e => ((Mut.ne_ty M34 M33 (by decide)) e))
 have st18 := st17.call sp18 (fun x e => (.inl (e ▸ lb1)))
 refine aD<|aA e96_28<|vv rfl (aE (.pointer (some ⟨aS,0,none⟩)) rfl)<|vv rfl (aE (.pointer (some ⟨aS,0,none⟩)) rfl)<|vv rfl (eU (.func (.func 71) #[.pointer (some ⟨aS,0,none⟩)] #[]) (mf rfl rfl)) ?_
 obtain ⟨r11,hr11,H⟩ := aK H
 refine aU [.pointer (some ⟨aS,0,none⟩),.func (.func 71) #[.pointer (some ⟨aS,0,none⟩)] #[]] en75 rfl rfl rfl (F75 k st18.has R17 M36 hr11) ?_
 rintro _ w19 ⟨a17,c17,a18,c18,h12,rfl,sp19,R18,R19,M37⟩
 have M38 := M35.call sp19 (fun e => ((Mut.ne_ty M35 M36 (by decide)) e))
 have st19 := st18.call sp19 (fun x e => (.inr e))
 refine vv rfl (aF (b := b1) (o := 0) fl31_3 rfl)<|aV (o := 3) (n := 1) [.slice a17 r11.1.length c17] [I 2,I 0,.string r10.1,.slice a17 r11.1.length c17,.slice none 0 0] (.slice a17 r11.1.length c17) sz28 rfl rfl rfl rfl M38 rfl rfl rfl rfl rfl (fun w20 wr7 M39 => ?_)
 have sp20 := wr7.st st19.has M38.none
 have M40 := M37.call sp20 (fun e => ((Mut.ne_ty M37 M38 (by decide)) e))
 have st20 := st19.call sp20 (fun x e => (.inl (e ▸ lb1)))
 refine aD ?_
 exact Jj1 (sp2.le.trans (sp6.le.trans (sp10.le.trans (sp13.le.trans (sp16.le.trans sp19.le))))) st20 rfl R19 M40 R18 (SlR.none _) M39 H
theorem fX : ∀ k,ZS100 k
  | 0 => ⟨S100_z,S76_z,S89_z,SLl89_0_z,S90_z,S89_1_z,SLl89_1_0_z,S96_z⟩
  | k + 1 => ⟨S100_s k (fX k),S76_s k (fX k),S89_s k (fX k),SLl89_0_s k (fX k),S90_s k (fX k),S89_1_s k (fX k),SLl89_1_0_s k (fX k),S96_s k (fX k)⟩
theorem F76 (k : Nat) : S76 k := (fX k).2.1
theorem F44 (k : Nat) : S44 k := by
 intro aS bW cK bX cY w0 h0 hh dU Mp0 r H
 unfold m44 at H
 refine aP (fn := Try.f44) Try.func44 rfl (Nat.le_of_ble_eq_true rfl) ?_
 show Run X44 [.code c44_0] (fun t => List.getD [.pointer (some ⟨aS,0,none⟩)] t undef) w0 (.fn (Q44 w0 h0 aS r))
 have st0 := St.init hh (fun x => x = aS)
 refine aB e44_0<|aA e44_1<|cG (.agg #[.string ByteArray.empty,.slice none 0 0,I 0,I 0,.string ByteArray.empty,.slice none 0 0,.slice none 0 0]) zr33 rfl rfl (fun b1 w1 al1 => ?_)
 replace al1 : Al _ (.cells (List.toArray [.string ByteArray.empty,.slice none 0 0,I 0,I 0,.string ByteArray.empty,.slice none 0 0,.slice none 0 0]) 33 (0,0)) b1 w1 := al1
 have M1 := Mut.new st0 al1
 have lb1 := st0.alB al1
 have sp1 := al1.st st0.has
 have M2 := Mp0.call0 sp1
 have st1 := st0.call0 sp1
 refine aD<|aB e44_2<|aA e44_3<|vv rfl (aE (.pointer (some ⟨aS,0,none⟩)) rfl) ?_
 obtain ⟨r1,hr1,H⟩ := aK H
 refine aU [.pointer (some ⟨aS,0,none⟩)] en71 rfl rfl rfl (F71 k st1.has dU M2 hr1) ?_
 rintro _ w2 ⟨a1,c1,h1,rfl,sp2,R1,M3⟩
 have M4 := M1.call sp2 (fun e => ((Mut.ne_ty M1 M2 (by decide)) e))
 have st2 := st1.call sp2 (fun x e => (.inr e))
 refine vv rfl (aF (b := b1) (o := 0) fl33_0 rfl)<|aV (o := 0) (n := 1) [.string r1.1] [.string r1.1,.slice none 0 0,I 0,I 0,.string ByteArray.empty,.slice none 0 0,.slice none 0 0] (.string r1.1) sz9 rfl rfl rfl rfl M4 rfl rfl rfl rfl rfl (fun w3 wr1 M5 => ?_)
 have sp3 := wr1.st st2.has M4.none
 have M6 := M3.call sp3 (fun e => ((Mut.ne_ty M3 M4 (by decide)) e))
 have st3 := st2.call sp3 (fun x e => (.inl (e ▸ lb1)))
 refine aD<|aB e44_4<|aA e44_5<|vv rfl (aE (.pointer (some ⟨aS,0,none⟩)) rfl)<|vv rfl (aE (.pointer (some ⟨aS,0,none⟩)) rfl)<|vv rfl (eU (.func (.func 71) #[.pointer (some ⟨aS,0,none⟩)] #[]) (mf rfl rfl)) ?_
 obtain ⟨r2,hr2,H⟩ := aK H
 refine aU [.pointer (some ⟨aS,0,none⟩),.func (.func 71) #[.pointer (some ⟨aS,0,none⟩)] #[]] en75 rfl rfl rfl (F75 k st3.has R1 M6 hr2) ?_
 rintro _ w4 ⟨a2,c2,a3,c3,h2,rfl,sp4,R2,R3,M7⟩
 have M8 := M5.call sp4 (fun e => ((Mut.ne_ty M5 M6 (by decide)) e))
 have st4 := st3.call sp4 (fun x e => (.inr e))
 refine vv rfl (aF (b := b1) (o := 0) fl33_1 rfl)<|aV (o := 1) (n := 1) [.slice a2 r2.1.length c2] [.string r1.1,.slice a2 r2.1.length c2,I 0,I 0,.string ByteArray.empty,.slice none 0 0,.slice none 0 0] (.slice a2 r2.1.length c2) sz28 rfl rfl rfl rfl M8 rfl rfl rfl rfl rfl (fun w5 wr2 M9 => ?_)
 have sp5 := wr2.st st4.has M8.none
 have M10 := M7.call sp5 (fun e => ((Mut.ne_ty M7 M8 (by decide)) e))
 have st5 := st4.call sp5 (fun x e => (.inl (e ▸ lb1)))
 refine aD<|aB e44_6<|aA e44_7<|vv rfl (aE (.pointer (some ⟨aS,0,none⟩)) rfl) ?_
 obtain ⟨r3,hr3,H⟩ := aK H
 refine aU [.pointer (some ⟨aS,0,none⟩),.string (⟨#[61]⟩ : ByteArray)] en70 rfl rfl rfl (F70 st5.has R3 M10 hr3) ?_
 rintro _ w6 ⟨a4,c4,h3,rfl,sp6,R4,M11⟩
 have M12 := M9.call sp6 (fun e => ((Mut.ne_ty M9 M10 (by decide)) e))
 have st6 := st5.call sp6 (fun x e => (.inr e))
 refine aD<|aB e44_8<|aA e44_9<|vv rfl (aE (.pointer (some ⟨aS,0,none⟩)) rfl) ?_
 obtain ⟨r4,hr4,H⟩ := aK H
 refine aU [.pointer (some ⟨aS,0,none⟩)] en76 rfl rfl rfl (F76 k st6.has R4 M11 hr4) ?_
 rintro _ w7 ⟨a5,c5,a6,c6,a7,c7,h4,rfl,sp7,R5,R6,R7,M13⟩
 have M14 := M12.call sp7 (fun e => ((Mut.ne_ty M12 M11 (by decide)) e))
 have st7 := st6.call sp7 (fun x e => (.inr e))
 refine vv rfl (aF (b := b1) (o := 0) fl33_2 rfl)<|aV (o := 2) (n := 5) [I r4.1.Op,I r4.1.N,.string r4.1.Name,.slice a5 r4.1.Index.length c5,.slice a6 r4.1.L.length c6] [.string r1.1,.slice a2 r2.1.length c2,I r4.1.Op,I r4.1.N,.string r4.1.Name,.slice a5 r4.1.Index.length c5,.slice a6 r4.1.L.length c6] (.agg #[I r4.1.Op,I r4.1.N,.string r4.1.Name,.slice a5 r4.1.Index.length c5,.slice a6 r4.1.L.length c6]) cP rfl rfl rfl rfl M14 rfl rfl rfl rfl rfl (fun w8 wr3 M15 => ?_)
 have sp8 := wr3.st st7.has M14.none
 have M16 := M13.call sp8 (fun e => ((Mut.ne_ty M13 M14 (by decide)) e))
 have st8 := st7.call sp8 (fun x e => (.inl (e ▸ lb1)))
 refine aD<|aB e44_10<|aA e44_11<|vv rfl (bH [.string r1.1,.slice a2 r2.1.length c2,I r4.1.Op,I r4.1.N,.string r4.1.Name,.slice a5 r4.1.Index.length c5,.slice a6 r4.1.L.length c6] ag33 sz33 rfl rfl (bA M15.get rfl))<|aV (o := 0) (n := 7) [.string r1.1,.slice a2 r2.1.length c2,I r4.1.Op,I r4.1.N,.string r4.1.Name,.slice a5 r4.1.Index.length c5,.slice a6 r4.1.L.length c6] [.string r1.1,.slice a2 r2.1.length c2,I r4.1.Op,I r4.1.N,.string r4.1.Name,.slice a5 r4.1.Index.length c5,.slice a6 r4.1.L.length c6] (.agg #[.string r1.1,.slice a2 r2.1.length c2,I r4.1.Op,I r4.1.N,.string r4.1.Name,.slice a5 r4.1.Index.length c5,.slice a6 r4.1.L.length c6]) sz33 rfl rfl rfl rfl M15 rfl rfl rfl rfl rfl (fun w9 wr4 M17 => ?_)
 have sp9 := wr4.st st8.has M15.none
 have M18 := M16.call sp9 (fun e => ((Mut.ne_ty M16 M15 (by decide)) e))
 have st9 := st8.call sp9 (fun x e => (.inl (e ▸ lb1)))
 refine aD ?_
 cases H
 exact aJ e44_12 (cD Try.results44 (eH [.string r1.1,.slice a2 r2.1.length c2,I r4.1.Op,I r4.1.N,.string r4.1.Name,.slice a5 r4.1.Index.length c5,.slice a6 r4.1.L.length c6] ag33 sz33 rfl rfl (bA M17.get rfl)) ⟨a2,c2,a5,c5,a6,c6,a7,c7,h4,rfl,st9,(SlR.mono (sp6.le.trans sp7.le) R2),R5,R6,R7,M18⟩)
theorem F45 : S45 := by
 intro aS bW cK bX cY w0 h0 hh dU Mp0 r H
 unfold m45 at H
 refine aP (fn := Try.f45) Try.func45 rfl (Nat.le_of_ble_eq_true rfl) ?_
 show Run X45 [.code c45_0] (fun t => List.getD [.pointer (some ⟨aS,0,none⟩)] t undef) w0 (.fn (Q45 w0 h0 aS r))
 have st0 := St.init hh (fun x => x = aS)
 refine aB e45_0<|aA e45_1<|vv rfl (aC (.bool false) rfl)<|aD<|aB e45_2<|aA e45_3 ?_
 obtain ⟨j1,hj1,H⟩ := dH H
 have Jj1 : ∀ {y1 : Bool} {σ1 : Env} {w1 : World} {h1 : Sto},Le h0 h1 → St w0 (fun x => x = aS) h0 h1 w1 → σ1 2 = .bool y1 → SlR h1 bX bW cK → Mut h1 w1 aS (.cells (List.toArray [.slice bX cK.length bW,.bool cY]) 96 (0,0)) → j1 y1 = some r → Run X45 [.code c45_4] σ1 w1 (.fn (Q45 w0 h0 aS r)) := by
  intro y1 σ1 w1 h1 le1 st1 s2_j1 R1 M1 H
  rw [hj1] at H
  cases H
  exact aJ e45_4 (cD Try.results45 s2_j1 ⟨bX,bW,h1,rfl,st1,R1,M1⟩)
 refine vv rfl (aE (.pointer (some ⟨aS,0,none⟩)) rfl)<|vv rfl (bJ ⟨aS,0,none⟩ rfl)<|vv rfl (aF (b := aS) (o := 0) fl96_1 rfl)<|vv rfl (aN (.bool cY) sc4 rfl ((aR Mp0.get).trans rfl))<|vv rfl (dV cY 4 rfl)<|vv rfl (aE (.bool (!cY)) rfl) ?_
 rcases aM H with ⟨hc1,H⟩ | ⟨hc1,H⟩
 · refine aO (wf2 (bN hc1) rfl) rfl<|aO (wf2 (bN hc1) rfl) rfl<|aO (wf2 (bN hc1) rfl) rfl<|aO (wf2 (bN hc1) rfl) rfl<|aO (wf2 (bN hc1) rfl) rfl<|aO (wf2 (bN hc1) rfl) rfl<|aO (wf2 (bN hc1) rfl) rfl<|vv rfl (dE (.bool false) (bN hc1) rfl rfl)<|vv rfl (aC (.bool false) rfl)<|aD ?_
   exact Jj1 (Le.refl _) st0 rfl dU Mp0 H
 refine bC (wt2 (bQ (bY hc1)) rfl) rfl (aE (.pointer (some ⟨aS,0,none⟩)) rfl)<|bC (wt2 (bQ (bY hc1)) rfl) rfl (bJ ⟨aS,0,none⟩ rfl)<|bC (wt2 (bQ (bY hc1)) rfl) rfl (aF (b := aS) (o := 0) fl96_0 rfl)<|bC (wt2 (bQ (bY hc1)) rfl) rfl (aF (b := aS) (o := 0) fl94_0 rfl)<|bC (wt2 (bQ (bY hc1)) rfl) rfl (aN (.slice bX cK.length bW) sc87 rfl ((aR Mp0.get).trans rfl))<|bC (wt2 (bQ (bY hc1)) rfl) rfl (bK u87 rfl)<|bC (wt2 (bQ (bY hc1)) rfl) rfl (aQ .eql .i64 (cK.length : Int) 0 (.bool (decide ((cK.length : Int) = 0))) 3 3 rfl rfl rfl)<|vv rfl (dD (.bool (decide ((cK.length : Int) = 0))) (bQ (bY hc1)) rfl rfl)<|vv rfl (aC (.bool (decide ((cK.length : Int) = 0))) rfl)<|aD ?_
 exact Jj1 (Le.refl _) st0 rfl dU Mp0 H
abbrev ZSLl24_0 (k : Nat) : Prop := SLl24_0 k
theorem SLl24_0_z : SLl24_0 0 := by
  unfold SLl24_0; intros; rename_i H; exact absurd H (by simp [l24_0])
theorem SLl24_0_s (k : Nat) (ih : ZSLl24_0 k) : SLl24_0 (k + 1) := by
 intro w0 w h0 h b1 c2 c3 c4 j2 r2 a2 a3 a4 σ l1 l2 xs1 r st s2 s8 s26 s27 s28 O1 O2 M5 lb2 R3 hd1 H
 cases xs1 with
 | nil =>
  rw [l24_0] at H
  have hk1 := cU hd1
  refine aB e24_19<|aA e24_20<|vv rfl (aQ .lss .i64 (j2 : Int) (r2.length : Int) (.bool (decide ((j2 : Int) < (r2.length : Int)))) 3 3 s28 s27 rfl)<|aD<|aB e24_21<|fa e24_22 hk1 rfl<|bO e24_24 rfl<|aB e24_56<|aA e24_57<|vv rfl (bH [.slice a3 l1.length c3,.slice a4 l2.length c4] ag25 sz25 s2 rfl (bA M5.get rfl)) ?_
  refine vv rfl (aE (.slice a2 r2.length c2) s8)<|vv rfl (bK u90 rfl)<|aV (o := 0) (n := 2) [.slice a3 l1.length c3,.slice a4 l2.length c4] [.slice a3 l1.length c3,.slice a4 l2.length c4] (.agg #[.slice a3 l1.length c3,.slice a4 l2.length c4]) sz25 rfl rfl s2 rfl M5 rfl rfl rfl rfl rfl (fun w5 wr2 M6 => ?_)
  have sp5 := wr2.st st.has M5.none
  have O3 := O1.call sp5 (fun x hx e => (absurd (e ▸ hx) (O1.ne_mut M5 (by decide))))
  have O4 := O2.call sp5 (fun x hx e => (absurd (e ▸ hx) (O2.ne_mut M5 (by decide))))
  have st5 := st.call sp5 (fun x e => (.inl (e ▸ lb2)))
  refine vv rfl (aC (I (r2.length : Int)) rfl)<|vv rfl (aC (I 0) rfl)<|aD ?_
  obtain ⟨h3,le1,st6,R4,kp1⟩ := O3.frz st5 (Nat.le_refl _)
  have M7 := M6.frB kp1 (O3.ne_mut M6 (by decide))
  have O5 := O4.frB le1 kp1 (O4.ne_own O3 (by decide))
  obtain ⟨h4,le2,st7,R5,kp2⟩ := O5.frz st6 (Nat.le_refl _)
  have M8 := M7.frB kp2 (O5.ne_mut M7 (by decide))
  cases H
  exact aJ e24_58 (res3 Try.results24 (eH [.slice a3 l1.length c3,.slice a4 l2.length c4] ag25 sz25 s2 rfl (bA M8.get rfl)) rfl rfl ⟨a3,c3,a4,c4,h4,rfl,st7,(SlR.mono le2 R4),R5⟩)
 | cons x1 xs2 =>
  rw [l24_0] at H
  obtain ⟨hk2,hj1,hx1,hd2⟩ := cJ hd1
  refine aB e24_19<|aA e24_20<|vv rfl (aQ .lss .i64 (j2 : Int) (r2.length : Int) (.bool (decide ((j2 : Int) < (r2.length : Int)))) 3 3 s28 s27 rfl)<|aD<|aB e24_21<|tr e24_22 hk2 rfl<|aL e24_23<|aB e24_25<|aT e24_26<|aB e24_27 ?_
  refine aA e24_28<|vv rfl (aE (I (j2 : Int)) s28) ?_
  obtain ⟨b2,o1,vs1,ea1,rp1,cl1⟩ := SlR.at R3 hx1
  obtain ⟨a5,c5,rfl,R6⟩ := rp1
  refine vv rfl (aY u90 sz87 s26 s28 ea1 (Int.natCast_nonneg _) (Int.ofNat_lt.2 hj1))<|vv rfl (aN (.slice a5 x1.length c5) sc87 rfl (((cl1 _ (Has.le (Le.refl _) st.has)) 0 (by decide)).trans rfl))<|vv rfl (aC (I (j2 : Int)) rfl)<|vv rfl (aC (.slice a5 x1.length c5) rfl)<|aD<|aB e24_29<|aA e24_30<|vv rfl (aE (.slice a5 x1.length c5) rfl)<|vv rfl (dJ (vs := [.slice a5 x1.length c5]) [(0,.slice a5 x1.length c5)] bd94 rfl rfl)<|vv rfl (dJ (vs := [.slice a5 x1.length c5,.bool false]) [(0,.agg #[.slice a5 x1.length c5])] bd96 rfl rfl) ?_
  refine dW (.agg #[.slice a5 x1.length c5,.bool false]) rfl rfl rfl (fun b3 w6 al2 => ?_)
  replace al2 : Al _ (.cells (List.toArray [.slice a5 x1.length c5,.bool false]) 96 (0,0)) b3 w6 := al2
  have M9 := Mut.new st al2
  have lb3 := st.alB al2
  have sp6 := al2.st st.has
  have M10 := M5.call0 sp6
  have O6 := O1.call0 sp6
  have O7 := O2.call0 sp6
  have st8 := st.call0 sp6
  refine vv rfl (aC (.pointer (some ⟨b3,0,none⟩)) rfl)<|aD<|aB e24_31<|aA e24_32<|vv rfl (aC (.bool false) rfl)<|aD<|aB e24_33<|aB e24_34<|aA e24_35<|vv rfl (aE (.pointer (some ⟨b3,0,none⟩)) rfl) ?_
  obtain ⟨r3,hr3,H⟩ := aK H
  refine aU [.pointer (some ⟨b3,0,none⟩),.string (⟨#[116,101,110,115,111,114]⟩ : ByteArray)] en42 rfl rfl rfl (F42 st8.has R6 M9 hr3) ?_
  rintro _ w7 ⟨a6,c6,h5,rfl,sp7,R7,M11⟩
  have M12 := M10.call sp7 (fun e => ((Mut.ne_ty M10 M9 (by decide)) e))
  have O8 := O6.call sp7 (fun x hx e => (absurd (e ▸ hx) (O6.ne_mut M9 (by decide))))
  have O9 := O7.call sp7 (fun x hx e => (absurd (e ▸ hx) (O7.ne_mut M9 (by decide))))
  have st9 := st8.call sp7 (fun x e => (.inl (e ▸ lb3)))
  refine aD ?_
  obtain ⟨j3,hj3,H⟩ := dH H
  have Jj3 : ∀ {y1 y5 : Bool} {y2 : (List GDecl)} {y3 : (List GStmt)} {y4 : (List GToken)} {a7 a8 a9 : OA} {c7 c8 c9 : Nat} {σ1 : Env} {w10 : World} {h6 : Sto},Le h5 h6 → St w0 noM h0 h6 w10 → σ1 2 = .pointer (some ⟨b1,0,none⟩) → σ1 8 = .slice a2 r2.length c2 → σ1 9 = I (j2 : Int) → σ1 11 = .pointer (some ⟨b3,0,none⟩) → σ1 12 = .bool y1 → σ1 26 = .slice a2 r2.length c2 → σ1 27 = I (r2.length : Int) → σ1 28 = I (j2 : Int) → SlR h6 a2 c2 r2 → SlR h6 a2 c2 r2 → Own 45 w0.heap.size h6 w10 a7 c7 y2 → Own 33 w0.heap.size h6 w10 a8 c8 y3 → Mut h6 w10 b1 (.cells (List.toArray [.slice a7 y2.length c7,.slice a8 y3.length c8]) 25 (0,0)) → SlR h6 a9 c9 y4 → Mut h6 w10 b3 (.cells (List.toArray [.slice a9 y4.length c9,.bool y5]) 96 (0,0)) → j3 y1 y2 y3 y4 y5 = some r → Run X24 [.code c24_41,.inBlock 1,.code c24_55,.inLoop c24_19,.inBlock 0,.code c24_56] σ1 w10 (.fn (Q24 w0 h0 r)) := by
   intro y1 y5 y2 y3 y4 a7 a8 a9 c7 c8 c9 σ1 w10 h6 le3 st12 s2_j3 s8_j3 s9_j3 s11_j3 s12_j3 s26_j3 s27_j3 s28_j3 R8 R9 O14 O15 M17 R10 M18 H
   rw [hj3] at H
   refine aT e24_41<|aB e24_42<|aA e24_43<|vv rfl (aE (.pointer (some ⟨b3,0,none⟩)) s11_j3) ?_
   obtain ⟨r4,hr4,H⟩ := aK H
   refine aU [.pointer (some ⟨b3,0,none⟩)] en45 rfl rfl rfl (F45 st12.has R10 M18 hr4) ?_
   rintro _ w11 ⟨a10,c10,h7,rfl,sp10,R11,M19⟩
   have M20 := M17.call sp10 (fun e => ((Mut.ne_ty M17 M18 (by decide)) e))
   have O16 := O14.call sp10 (fun x hx e => (absurd (e ▸ hx) (O14.ne_mut M18 (by decide))))
   have O17 := O15.call sp10 (fun x hx e => (absurd (e ▸ hx) (O15.ne_mut M18 (by decide))))
   have st13 := st12.call sp10 (fun x e => (.inl (e ▸ lb3)))
   refine vv rfl (dV r4.1 4 rfl)<|vv rfl (aE (.bool (!r4.1)) rfl) ?_
   rcases aM H with ⟨hc3,H⟩ | ⟨hc3,H⟩
   · refine bC (wt2 (bN hc3) rfl) rfl (aE (.bool y1) s12_j3)<|vv rfl (dE (.bool y1) (bN hc3) rfl rfl)<|vv rfl (aC (.bool y1) rfl)<|aD ?_
     rcases aM H with ⟨hc4,H⟩ | ⟨hc4,H⟩
     · refine tr e24_44 hc4 rfl<|aB e24_45<|aA e24_46<|vv rfl (dJ (vs := [.slice none 0 0,.slice none 0 0]) [] bd25 rfl rfl)<|vv rfl (aE (I (j2 : Int)) s9_j3)<|aV (o := 0) (n := 2) [.slice none 0 0,.slice none 0 0] [.slice none 0 0,.slice none 0 0] (.agg #[.slice none 0 0,.slice none 0 0]) sz25 rfl rfl s2_j3 rfl M20 rfl rfl rfl rfl rfl (fun w12 wr3 M21 => ?_)
       have sp11 := wr3.st st13.has M20.none
       have M22 := M19.call sp11 (fun e => ((Mut.ne_ty M19 M20 (by decide)) e))
       have O18 := O16.call sp11 (fun x hx e => (absurd (e ▸ hx) (O16.ne_mut M20 (by decide))))
       have O19 := O17.call sp11 (fun x hx e => (absurd (e ▸ hx) (O17.ne_mut M20 (by decide))))
       have st14 := st13.call sp11 (fun x e => (.inl (e ▸ lb2)))
       refine vv rfl (aC (I (j2 : Int)) rfl)<|vv rfl (aC (I 6) rfl)<|aD ?_
       cases H
       exact aJ e24_47 (res3 Try.results24 (eH [.slice none 0 0,.slice none 0 0] ag25 sz25 s2_j3 rfl (bA M21.get rfl)) rfl rfl ⟨none,0,none,0,h7,rfl,st14,(SlR.none _),(SlR.none _)⟩)
     refine fa e24_44 (bY hc4) rfl<|aB e24_48<|aA e24_49<|vv rfl (bH [.slice a7 y2.length c7,.slice a8 y3.length c8] ag25 sz25 s2_j3 rfl (bA M20.get rfl)) ?_
     obtain ⟨h8,le4,R12,hh1,kp3⟩ := Own.lend O16 st13.has
     obtain ⟨h9,le5,R13,hh2,kp4⟩ := Own.lend (Own.frB O17 le4 kp3 (Own.ne_own O17 O16 (by decide))) hh1
     obtain ⟨r5,hr5,H⟩ := aK H
     refine aU [.agg #[.slice a7 y2.length c7,.slice a8 y3.length c8]] en26 rfl rfl rfl (F26 k (p0 := (⟨y2,y3⟩ : GProg)) hh2 (SlR.mono le5 R12) R13 hr5) ?_
     rintro _ w13 ⟨h10,rfl,sp12⟩
     have sp13 := St.lend sp12 (le4.trans le5)
     have M23 := M20.call0 sp13
     have M24 := M19.call0 sp13
     have O20 := O16.call0 sp13
     have O21 := O17.call0 sp13
     have st15 := st13.call0 sp13
     refine vv rfl (aQ .neq .i64 r5 0 (.bool (!decide (r5 = 0))) 35 35 rfl rfl rfl)<|vv rfl (aC (.bool (!decide (r5 = 0))) rfl)<|aD ?_
     rcases aM H with ⟨hc5,H⟩ | ⟨hc5,H⟩
     · refine fa e24_50 (bN (dT hc5)) rfl<|aL e24_54<|aZ<|aZ<|aA e24_55<|vv rfl (aQ .add .i64 (j2 : Int) 1 (I ((j2 + 1 : Nat) : Int)) 3 3 s28_j3 rfl (dL hj1 (SlR.mono sp10.le R8).mx))<|vv rfl (aE (I ((j2 + 1 : Nat) : Int)) rfl)<|aD<|bI ?_
       exact ih (j2 := (j2 + 1)) st15 s2_j3 s8_j3 s26_j3 s27_j3 rfl O20 O21 M23 lb2 (SlR.mono sp10.le R8) hd2 H
     refine tr e24_50 (bQ (dF hc5)) rfl<|aB e24_51<|aA e24_52<|vv rfl (dJ (vs := [.slice none 0 0,.slice none 0 0]) [] bd25 rfl rfl)<|vv rfl (aE (I (j2 : Int)) s9_j3)<|aV (o := 0) (n := 2) [.slice none 0 0,.slice none 0 0] [.slice none 0 0,.slice none 0 0] (.agg #[.slice none 0 0,.slice none 0 0]) sz25 rfl rfl s2_j3 rfl M23 rfl rfl rfl rfl rfl (fun w14 wr4 M25 => ?_)
     have sp14 := wr4.st st15.has M23.none
     have M26 := M24.call sp14 (fun e => ((Mut.ne_ty M24 M23 (by decide)) e))
     have O22 := O20.call sp14 (fun x hx e => (absurd (e ▸ hx) (O20.ne_mut M23 (by decide))))
     have O23 := O21.call sp14 (fun x hx e => (absurd (e ▸ hx) (O21.ne_mut M23 (by decide))))
     have st16 := st15.call sp14 (fun x e => (.inl (e ▸ lb2)))
     refine vv rfl (aC (I (j2 : Int)) rfl)<|vv rfl (aC (I 2) rfl)<|aD ?_
     cases H
     exact aJ e24_53 (res3 Try.results24 (eH [.slice none 0 0,.slice none 0 0] ag25 sz25 s2_j3 rfl (bA M25.get rfl)) rfl rfl ⟨none,0,none,0,h7,rfl,st16,(SlR.none _),(SlR.none _)⟩)
   refine aO (wf2 (bQ (bY hc3)) rfl) rfl<|vv rfl (dD (.bool true) (bQ (bY hc3)) rfl rfl)<|vv rfl (aC (.bool true) rfl)<|aD<|cZ e24_44 (p := true) rfl rfl<|aB e24_45<|aA e24_46<|vv rfl (dJ (vs := [.slice none 0 0,.slice none 0 0]) [] bd25 rfl rfl)<|vv rfl (aE (I (j2 : Int)) s9_j3)<|aV (o := 0) (n := 2) [.slice none 0 0,.slice none 0 0] [.slice none 0 0,.slice none 0 0] (.agg #[.slice none 0 0,.slice none 0 0]) sz25 rfl rfl s2_j3 rfl M20 rfl rfl rfl rfl rfl (fun w15 wr5 M27 => ?_)
   have sp15 := wr5.st st13.has M20.none
   have M28 := M19.call sp15 (fun e => ((Mut.ne_ty M19 M20 (by decide)) e))
   have O24 := O16.call sp15 (fun x hx e => (absurd (e ▸ hx) (O16.ne_mut M20 (by decide))))
   have O25 := O17.call sp15 (fun x hx e => (absurd (e ▸ hx) (O17.ne_mut M20 (by decide))))
   have st17 := st13.call sp15 (fun x e => (.inl (e ▸ lb2)))
   refine vv rfl (aC (I (j2 : Int)) rfl)<|vv rfl (aC (I 6) rfl)<|aD ?_
   cases H
   exact aJ e24_47 (res3 Try.results24 (eH [.slice none 0 0,.slice none 0 0] ag25 sz25 s2_j3 rfl (bA M27.get rfl)) rfl rfl ⟨none,0,none,0,h7,rfl,st17,(SlR.none _),(SlR.none _)⟩)
  rcases aM H with ⟨hc2,H⟩ | ⟨hc2,H⟩
  · refine tr e24_36 hc2 rfl<|aB e24_37<|aA e24_38<|vv rfl (aF (b := b1) (o := 0) fl25_1 s2)<|vv rfl (aN (.slice a4 l2.length c4) sc23 rfl ((aR M12.get).trans rfl))<|vv rfl (bK u23 rfl)<|vv rfl (aQ .gtr .i64 (l2.length : Int) 0 (.bool (decide (0 < (l2.length : Int)))) 3 3 rfl rfl rfl)<|vv rfl (aC (.bool (decide (0 < (l2.length : Int)))) rfl)<|aD ?_
    refine dY [[(0,false),(1,false),(2,false),(3,true),(4,true),(5,true),(6,false),(7,true)]] [3,4,5,7] [0,1,2,3,4,5,6,7] [0,1,2,3,4,5,6,7] (fun w_ => Has h5 w_ ∧ w_.heap[b1]? = some (.cells (List.toArray [.slice a3 l1.length c3,.slice a4 l2.length c4]) 25 (0,0)) ∧ True) e24_39 k24_39 m24_39 (fun w8 al3 => ?_)
    have sp8 := al3.st st9.has
    have M13 := M12.call0 sp8
    have M14 := M11.call0 sp8
    have O10 := O8.call0 sp8
    have O11 := O9.call0 sp8
    have st10 := st9.call0 sp8
    refine ⟨⟨Has.le (Le.refl _) st10.has,M13.get,trivial⟩,?_,trivial⟩
    refine bV rfl rfl (fun w_ ok_ => aF (b := b1) (o := 0) fl25_0 s2)<|bV rfl rfl (fun w_ ok_ => aN (.slice a3 l1.length c3) sc22 rfl ((aR ok_.2.1).trans rfl))<|bV rfl rfl (fun w_ ok_ => aE (.pointer (some ⟨b3,0,none⟩)) rfl) ?_
    obtain ⟨bU,hrd1_3_2,H⟩ := aK H
    refine dr_c rfl (od_call [.pointer (some ⟨b3,0,none⟩)] en43 rfl rfl (F43 k st10.has R7 M14 hrd1_3_2) ?_)
    rintro _ wd1_3_3 ⟨ad1_3_6,cd1_3_7,ad1_3_9,cd1_3_10,hd1_3_4,rfl,dC,Rd1_3_8,Rd1_3_11,Md1_3_12⟩
    have Md1_3_13 := M13.call dC (fun e => ((Mut.ne_ty M13 M14 (by decide)) e))
    have Od1_3_14 := O10.call dC (fun x hx e => (absurd (e ▸ hx) (O10.ne_mut M14 (by decide))))
    have Od1_3_15 := O11.call dC (fun x hx e => (absurd (e ▸ hx) (O11.ne_mut M14 (by decide))))
    have std1_3_16 := st10.call dC (fun x e => (.inl (e ▸ lb3)))
    refine ⟨.inr ⟨Has.le dC.le std1_3_16.has,Md1_3_13.get,trivial⟩,?_⟩
    refine dr_c rfl (eJ [.string ByteArray.empty,.slice none 0 0,.string ByteArray.empty,I 0] [.string bU.1.Name,.slice ad1_3_6 bU.1.Shape.length cd1_3_7,.string bU.1.Form,I bU.1.Block] [(0,.agg #[.string bU.1.Name,.slice ad1_3_6 bU.1.Shape.length cd1_3_7,.string bU.1.Form,I bU.1.Block])] u22 sz45 zr45 rfl rfl rfl (by kernel_rfl) rfl (by kernel_rfl) (fun fU wd1_4_2 ald1_4_3 => ?_))
    have lid1_4_8 : Lits hd1_3_4 [[.string bU.1.Name,.slice ad1_3_6 bU.1.Shape.length cd1_3_7,.string bU.1.Form,I bU.1.Block]] ([bU.1] : List GDecl) := (Lits.cons (GDecl.into (h := hd1_3_4) (x := bU.1) Rd1_3_8) Lits.nil)
    obtain ⟨hd1_4_4,dA,gd1_4_6,dO⟩ := ald1_4_3.fz std1_3_16.has
    have Md1_4_9 := Md1_3_13.call0 dO
    have Md1_4_10 := Md1_3_12.call0 dO
    have Od1_4_11 := Od1_3_14.call0 dO
    have Od1_4_12 := Od1_3_15.call0 dO
    have std1_4_13 := std1_3_16.call0 dO
    have Rd1_4_14 : SlR _ _ _ ([bU.1] : List GDecl) := Lits.sl (n := 1) (Lits.mono dA lid1_4_8) rfl rfl (by decide) gd1_4_6
    refine ⟨.inr ⟨Has.le (dC.le.trans dA) std1_4_13.has,Md1_4_9.get,trivial⟩,?_⟩
    obtain ⟨hsd1_5_1,H⟩ := cC H
    refine dr_c rfl (od_append (α := GDecl) (B := w0.heap.size) (l := l1) (l2 := ([bU.1] : List GDecl)) u22 u22 ap45 rfl rfl rfl std1_4_13.has std1_4_13.sp.size Od1_4_11 Rd1_4_14 rfl rfl hsd1_5_1 (fun ad1_5_2 cd1_5_3 wd1_5_4 Od1_5_5 spd1_5_6 bld1_5_7 => ?_))
    have Md1_5_8 := Md1_4_9.call spd1_5_6 (fun e => ((Od1_4_11.ne_mut Md1_4_9 (by decide)) e))
    have Md1_5_9 := Md1_4_10.call spd1_5_6 (fun e => ((Od1_4_11.ne_mut Md1_4_10 (by decide)) e))
    have Od1_5_10 := Od1_4_12.call spd1_5_6 (fun x hx e => ((Od1_4_12.ne_own Od1_4_11 (by decide)) x hx e))
    have std1_5_11 := std1_4_13.call spd1_5_6 (fun x e => (.inl (Od1_4_11.lbs x e)))
    refine ⟨.inr ⟨Has.le (dC.le.trans dA) std1_5_11.has,Md1_5_8.get,trivial⟩,?_⟩
    refine bV rfl rfl (fun w_ ok_ => aF (b := b1) (o := 0) fl25_0 s2)<|dr_c rfl (od_store (o := 0) (n := 1) [.slice ad1_5_2 ((l1 ++ ([bU.1] : List GDecl)).length) cd1_5_3] [.slice ad1_5_2 ((l1 ++ ([bU.1] : List GDecl)).length) cd1_5_3,.slice a4 l2.length c4] (.slice ad1_5_2 ((l1 ++ ([bU.1] : List GDecl)).length) cd1_5_3) sz22 rfl rfl rfl Md1_5_8 rfl rfl rfl rfl rfl (fun wd1_7_1 wrd1_7_2 Md1_7_3 => ?_))
    have spd1_7_4 := wrd1_7_2.st std1_5_11.has Md1_5_8.none
    have Md1_7_5 := Md1_5_9.call spd1_7_4 (fun e => ((Mut.ne_ty Md1_5_9 Md1_5_8 (by decide)) e))
    have Od1_7_6 := Od1_5_10.call spd1_7_4 (fun x hx e => (absurd (e ▸ hx) (Od1_5_10.ne_mut Md1_5_8 (by decide))))
    have Od1_7_7 := Od1_5_5.call spd1_7_4 (fun x hx e => (absurd (e ▸ hx) (Od1_5_5.ne_mut Md1_5_8 (by decide))))
    have std1_7_8 := std1_5_11.call spd1_7_4 (fun x e => (.inl (e ▸ lb2)))
    refine ⟨.inl rfl,?_⟩
    refine eL ?_
    exact Jj3 (dC.le.trans dA) std1_7_8 s2 s8 rfl rfl rfl s26 s27 s28 (SlR.mono (sp7.le.trans (dC.le.trans dA)) R3) (SlR.mono (sp7.le.trans (dC.le.trans dA)) R3) Od1_7_7 Od1_7_6 Md1_7_3 (SlR.mono dA Rd1_3_11) Md1_7_5 H
  refine fa e24_36 (bY hc2) rfl ?_
  refine dY [[(0,false),(1,false),(2,false),(3,true),(4,true),(5,true),(6,false),(7,true)]] [3,4,5,7] [0,1,2,3,4,5,6,7] [0,1,2,3,4,5,6,7] (fun w_ => Has h5 w_ ∧ w_.heap[b1]? = some (.cells (List.toArray [.slice a3 l1.length c3,.slice a4 l2.length c4]) 25 (0,0)) ∧ True) e24_40 k24_40 m24_40 (fun w9 al4 => ?_)
  have sp9 := al4.st st9.has
  have M15 := M12.call0 sp9
  have M16 := M11.call0 sp9
  have O12 := O8.call0 sp9
  have O13 := O9.call0 sp9
  have st11 := st9.call0 sp9
  refine ⟨⟨Has.le (Le.refl _) st11.has,M15.get,trivial⟩,?_,trivial⟩
  refine bV rfl rfl (fun w_ ok_ => aF (b := b1) (o := 0) fl25_1 s2)<|bV rfl rfl (fun w_ ok_ => aN (.slice a4 l2.length c4) sc23 rfl ((aR ok_.2.1).trans rfl))<|bV rfl rfl (fun w_ ok_ => aE (.pointer (some ⟨b3,0,none⟩)) rfl) ?_
  obtain ⟨dG,hrd2_3_2,H⟩ := aK H
  refine dr_c rfl (od_call [.pointer (some ⟨b3,0,none⟩)] en44 rfl rfl (F44 k st11.has R7 M16 hrd2_3_2) ?_)
  rintro _ wd2_3_3 ⟨ad2_3_6,cd2_3_7,ad2_3_9,cd2_3_10,ad2_3_12,cd2_3_13,ad2_3_15,cd2_3_16,hd2_3_4,rfl,spd2_3_5,Rd2_3_8,Rd2_3_11,Rd2_3_14,Rd2_3_17,Md2_3_18⟩
  have Md2_3_19 := M15.call spd2_3_5 (fun e => ((Mut.ne_ty M15 M16 (by decide)) e))
  have Od2_3_20 := O12.call spd2_3_5 (fun x hx e => (absurd (e ▸ hx) (O12.ne_mut M16 (by decide))))
  have Od2_3_21 := O13.call spd2_3_5 (fun x hx e => (absurd (e ▸ hx) (O13.ne_mut M16 (by decide))))
  have std2_3_22 := st11.call spd2_3_5 (fun x e => (.inl (e ▸ lb3)))
  refine ⟨.inr ⟨Has.le spd2_3_5.le std2_3_22.has,Md2_3_19.get,trivial⟩,?_⟩
  refine dr_c rfl (eJ [.string ByteArray.empty,.slice none 0 0,I 0,I 0,.string ByteArray.empty,.slice none 0 0,.slice none 0 0] [.string dG.1.Name,.slice ad2_3_6 dG.1.Index.length cd2_3_7,I dG.1.E.Op,I dG.1.E.N,.string dG.1.E.Name,.slice ad2_3_9 dG.1.E.Index.length cd2_3_10,.slice ad2_3_12 dG.1.E.L.length cd2_3_13] [(0,.agg #[.string dG.1.Name,.slice ad2_3_6 dG.1.Index.length cd2_3_7,I dG.1.E.Op,I dG.1.E.N,.string dG.1.E.Name,.slice ad2_3_9 dG.1.E.Index.length cd2_3_10,.slice ad2_3_12 dG.1.E.L.length cd2_3_13])] u23 sz33 zr33 rfl rfl rfl (by kernel_rfl) rfl (by kernel_rfl) (fun bd2_4_1 wd2_4_2 ald2_4_3 => ?_))
  have lid2_4_8 : Lits hd2_3_4 [[.string dG.1.Name,.slice ad2_3_6 dG.1.Index.length cd2_3_7,I dG.1.E.Op,I dG.1.E.N,.string dG.1.E.Name,.slice ad2_3_9 dG.1.E.Index.length cd2_3_10,.slice ad2_3_12 dG.1.E.L.length cd2_3_13]] ([dG.1] : List GStmt) := (Lits.cons (GStmt.into (h := hd2_3_4) (x := dG.1) Rd2_3_8 Rd2_3_11 Rd2_3_14) Lits.nil)
  obtain ⟨hd2_4_4,led2_4_5,gd2_4_6,spd2_4_7⟩ := ald2_4_3.fz std2_3_22.has
  have Md2_4_9 := Md2_3_19.call0 spd2_4_7
  have Md2_4_10 := Md2_3_18.call0 spd2_4_7
  have Od2_4_11 := Od2_3_20.call0 spd2_4_7
  have Od2_4_12 := Od2_3_21.call0 spd2_4_7
  have std2_4_13 := std2_3_22.call0 spd2_4_7
  have Rd2_4_14 : SlR _ _ _ ([dG.1] : List GStmt) := Lits.sl (n := 1) (Lits.mono led2_4_5 lid2_4_8) rfl rfl (by decide) gd2_4_6
  refine ⟨.inr ⟨Has.le (spd2_3_5.le.trans led2_4_5) std2_4_13.has,Md2_4_9.get,trivial⟩,?_⟩
  obtain ⟨hsd2_5_1,H⟩ := cC H
  refine dr_c rfl (od_append (α := GStmt) (B := w0.heap.size) (l := l2) (l2 := ([dG.1] : List GStmt)) u23 u23 ap33 rfl rfl rfl std2_4_13.has std2_4_13.sp.size Od2_4_12 Rd2_4_14 rfl rfl hsd2_5_1 (fun ad2_5_2 cd2_5_3 wd2_5_4 Od2_5_5 spd2_5_6 bld2_5_7 => ?_))
  have Md2_5_8 := Md2_4_9.call spd2_5_6 (fun e => ((Od2_4_12.ne_mut Md2_4_9 (by decide)) e))
  have Md2_5_9 := Md2_4_10.call spd2_5_6 (fun e => ((Od2_4_12.ne_mut Md2_4_10 (by decide)) e))
  have Od2_5_10 := Od2_4_11.call spd2_5_6 (fun x hx e => ((Od2_4_11.ne_own Od2_4_12 (by decide)) x hx e))
  have std2_5_11 := std2_4_13.call spd2_5_6 (fun x e => (.inl (Od2_4_12.lbs x e)))
  refine ⟨.inr ⟨Has.le (spd2_3_5.le.trans led2_4_5) std2_5_11.has,Md2_5_8.get,trivial⟩,?_⟩
  refine bV rfl rfl (fun w_ ok_ => aF (b := b1) (o := 0) fl25_1 s2)<|dr_c rfl (od_store (o := 1) (n := 1) [.slice ad2_5_2 ((l2 ++ ([dG.1] : List GStmt)).length) cd2_5_3] [.slice a3 l1.length c3,.slice ad2_5_2 ((l2 ++ ([dG.1] : List GStmt)).length) cd2_5_3] (.slice ad2_5_2 ((l2 ++ ([dG.1] : List GStmt)).length) cd2_5_3) sz23 rfl rfl rfl Md2_5_8 rfl rfl rfl rfl rfl (fun wd2_7_1 wrd2_7_2 Md2_7_3 => ?_))
  have spd2_7_4 := wrd2_7_2.st std2_5_11.has Md2_5_8.none
  have Md2_7_5 := Md2_5_9.call spd2_7_4 (fun e => ((Mut.ne_ty Md2_5_9 Md2_5_8 (by decide)) e))
  have Od2_7_6 := Od2_5_10.call spd2_7_4 (fun x hx e => (absurd (e ▸ hx) (Od2_5_10.ne_mut Md2_5_8 (by decide))))
  have Od2_7_7 := Od2_5_5.call spd2_7_4 (fun x hx e => (absurd (e ▸ hx) (Od2_5_5.ne_mut Md2_5_8 (by decide))))
  have std2_7_8 := std2_5_11.call spd2_7_4 (fun x e => (.inl (e ▸ lb2)))
  refine ⟨.inl rfl,?_⟩
  refine eL ?_
  exact Jj3 (spd2_3_5.le.trans led2_4_5) std2_7_8 s2 s8 rfl rfl rfl s26 s27 s28 (SlR.mono (sp7.le.trans (spd2_3_5.le.trans led2_4_5)) R3) (SlR.mono (sp7.le.trans (spd2_3_5.le.trans led2_4_5)) R3) Od2_7_6 Od2_7_7 Md2_7_3 (SlR.mono led2_4_5 Rd2_3_17) Md2_7_5 H
theorem ZSLl24_0_all : ∀ k,ZSLl24_0 k
  | 0 => SLl24_0_z
  | k + 1 => SLl24_0_s k (ZSLl24_0_all k)
theorem Fl24_0 (k : Nat) : SLl24_0 k := (ZSLl24_0_all k)
theorem F24 (k : Nat) : S24 k := by
 intro p0 w0 h0 hh r H
 unfold m24 at H
 refine aP (fn := Try.f24) Try.func24 rfl (Nat.le_of_ble_eq_true rfl) ?_
 show Run X24 [.code c24_0] (fun t => List.getD [.string p0] t undef) w0 (.fn (Q24 w0 h0 r))
 have st0 := St.init hh noM
 refine aB e24_0<|aA e24_1<|cG (.agg #[.slice none 0 0,.slice none 0 0]) zr25 rfl rfl (fun b1 w1 al1 => ?_)
 replace al1 : Al _ (.cells (List.toArray [.slice none 0 0,.slice none 0 0]) 25 (0,0)) b1 w1 := al1
 have M1 := Mut.new st0 al1
 have lb1 := st0.alB al1
 have sp1 := al1.st st0.has
 have st1 := st0.call0 sp1
 refine vv rfl (aC (I 0) rfl)<|vv rfl (aC (I 0) rfl)<|aD<|aB e24_2<|aA e24_3<|vv rfl (aE (.string p0) rfl) ?_
 obtain ⟨r1,hr1,H⟩ := aK H
 refine aU [.string p0] en40 rfl rfl rfl (F40 k st1.has hr1) ?_
 rintro _ w2 ⟨a1,c1,h1,rfl,sp2,R1⟩
 have M2 := M1.call0 sp2
 have st2 := st1.call0 sp2
 refine vv rfl (aE (.tuple #[.slice a1 r1.1.length c1,I r1.2.1,I r1.2.2]) rfl)<|vv rfl (bS (.slice a1 r1.1.length c1) rfl rfl)<|vv rfl (bS (I r1.2.1) rfl rfl)<|vv rfl (bS (I r1.2.2) rfl rfl)<|vv rfl (aC (.slice a1 r1.1.length c1) rfl)<|vv rfl (aC (I r1.2.1) rfl)<|vv rfl (aC (I r1.2.2) rfl)<|aD<|aB e24_4<|aB e24_5 ?_
 refine aA e24_6<|vv rfl (aE (I r1.2.2) rfl)<|vv rfl (aQ .neq .i64 r1.2.2 0 (.bool (!decide (r1.2.2 = 0))) 35 35 rfl rfl rfl)<|aD ?_
 rcases aM H with ⟨hc1,H⟩ | ⟨hc1,H⟩
 · refine fa e24_7 (bN (dT hc1)) rfl<|aL e24_11<|aB e24_12<|aA e24_13<|vv rfl (aE (.slice a1 r1.1.length c1) rfl) ?_
   obtain ⟨r2,hr2,H⟩ := aK H
   refine aU [.slice a1 r1.1.length c1] en41 rfl rfl rfl (F41 k st2.has R1 hr2) ?_
   rintro _ w4 ⟨a2,c2,h2,rfl,sp4,R2⟩
   have M4 := M2.call0 sp4
   have st4 := st2.call0 sp4
   refine vv rfl (aC (.slice a2 r2.length c2) rfl)<|aD<|aB e24_14<|aB e24_15<|aA e24_16<|vv rfl (aE (.slice a2 r2.length c2) rfl)<|vv rfl (bK u90 rfl)<|vv rfl (aE (I 0) rfl)<|aD<|aT e24_17 ?_
   refine bZ e24_18 ?_
   exact Fl24_0 k (j2 := 0) st4 rfl rfl rfl rfl rfl (Own.nil _ _ _ _) (Own.nil _ _ _ _) M4 lb1 R2 rfl H
 refine tr e24_7 (bQ (dF hc1)) rfl<|aB e24_8<|aA e24_9<|vv rfl (bH [.slice none 0 0,.slice none 0 0] ag25 sz25 rfl rfl (bA M2.get rfl))<|vv rfl (aE (I r1.2.1) rfl)<|vv rfl (aE (I r1.2.2) rfl)<|aV (o := 0) (n := 2) [.slice none 0 0,.slice none 0 0] [.slice none 0 0,.slice none 0 0] (.agg #[.slice none 0 0,.slice none 0 0]) sz25 rfl rfl rfl rfl M2 rfl rfl rfl rfl rfl (fun w3 wr1 M3 => ?_)
 have sp3 := wr1.st st2.has M2.none
 have st3 := st2.call sp3 (fun x e => (.inl (e ▸ lb1)))
 refine vv rfl (aC (I r1.2.1) rfl)<|vv rfl (aC (I r1.2.2) rfl)<|aD ?_
 cases H
 exact aJ e24_10 (res3 Try.results24 (eH [.slice none 0 0,.slice none 0 0] ag25 sz25 rfl rfl (bA M3.get rfl)) rfl rfl ⟨none,0,none,0,h1,rfl,st3,(SlR.none _),(SlR.none _)⟩)
theorem F8 (k : Nat) : S8 k := by
 intro  w0 h0 hh r H
 unfold m8 at H
 refine aP (fn := Try.f8) Try.func8 rfl (Nat.le_of_ble_eq_true rfl) ?_
 show Run X8 [.code c8_0] (fun t => List.getD [] t undef) w0 (.fn (Q8 w0 h0 r))
 have st0 := St.init hh noM
 refine aB e8_0<|aA e8_1<|vv rfl (aC (.bool false) rfl)<|aD<|aB e8_2<|aA e8_3 ?_
 obtain ⟨r1,hr1,H⟩ := aK H
 refine aU [.string (⟨#[116,101,110,115,111,114,32,97,91,50,93,58,32,100,101,110,115,101,10,116,101,110,115,111,114,32,98,91,50,44,51,93,58,32,99,115,114,10,116,101,110,115,111,114,32,99,91,51,93,58,32,99,115,102,10,97,91,105,93,32,61,32,98,91,105,44,32,107,93,32,42,32,99,91,107,93,32,43,32,97,91,105,93]⟩ : ByteArray)] en24 rfl rfl rfl (F24 k st0.has hr1) ?_
 rintro _ w1 ⟨a1,c1,a2,c2,h1,rfl,sp1,R1,R2⟩
 have st1 := st0.call0 sp1
 refine vv rfl (aE (.tuple #[.agg #[.slice a1 r1.1.D.length c1,.slice a2 r1.1.S.length c2],I r1.2.1,I r1.2.2]) rfl)<|vv rfl (bS (.agg #[.slice a1 r1.1.D.length c1,.slice a2 r1.1.S.length c2]) rfl rfl)<|vv rfl (bS (I r1.2.1) rfl rfl)<|vv rfl (bS (I r1.2.2) rfl rfl)<|cG (.agg #[.slice none 0 0,.slice none 0 0]) zr25 rfl rfl (fun b1 w2 al1 => ?_)
 replace al1 : Al _ (.cells (List.toArray [.slice none 0 0,.slice none 0 0]) 25 (0,0)) b1 w2 := al1
 have M1 := Mut.new st1 al1
 have lb1 := st1.alB al1
 have sp2 := al1.st st1.has
 have st2 := st1.call0 sp2
 refine aV (o := 0) (n := 2) [.slice a1 r1.1.D.length c1,.slice a2 r1.1.S.length c2] [.slice a1 r1.1.D.length c1,.slice a2 r1.1.S.length c2] (.agg #[.slice a1 r1.1.D.length c1,.slice a2 r1.1.S.length c2]) sz25 rfl rfl rfl rfl M1 rfl rfl rfl rfl rfl (fun w3 wr1 M2 => ?_)
 have sp3 := wr1.st st2.has M1.none
 have st3 := st2.call sp3 (fun x e => (.inl (e ▸ lb1)))
 obtain ⟨h2,le1,g1,st4,kp1⟩ := M2.fz st3 lb1
 refine vv rfl (aC (I r1.2.1) rfl)<|vv rfl (aC (I r1.2.2) rfl)<|aD<|aB e8_4<|aB e8_5<|aA e8_6<|vv rfl (aE (I r1.2.2) rfl)<|vv rfl (aQ .neq .i64 r1.2.2 0 (.bool (!decide (r1.2.2 = 0))) 35 35 rfl rfl rfl)<|vv rfl (aE (.bool (!decide (r1.2.2 = 0))) rfl) ?_
 rcases aM H with ⟨hc1,H⟩ | ⟨hc1,H⟩
 · refine bC (wt2 (bN (dT hc1)) rfl) rfl (aF (b := b1) (o := 0) fl25_1 rfl)<|bC (wt2 (bN (dT hc1)) rfl) rfl (aN (.slice a2 r1.1.S.length c2) sc23 rfl ((aR (st4.has _ _ g1)).trans rfl))<|bC (wt2 (bN (dT hc1)) rfl) rfl (bK u23 rfl)<|bC (wt2 (bN (dT hc1)) rfl) rfl (aQ .neq .i64 (r1.1.S.length : Int) 1 (.bool (!decide ((r1.1.S.length : Int) = 1))) 3 3 rfl rfl rfl)<|vv rfl (dE (.bool (!decide ((r1.1.S.length : Int) = 1))) (bN (dT hc1)) rfl rfl)<|aD ?_
   rcases aM H with ⟨hc2,H⟩ | ⟨hc2,H⟩
   · refine fa e8_7 (bN (dT hc2)) rfl<|aL e8_11<|aB e8_12<|aA e8_13<|vv rfl (aF (b := b1) (o := 0) fl25_1 rfl)<|vv rfl (aN (.slice a2 r1.1.S.length c2) sc23 rfl ((aR (st4.has _ _ g1)).trans rfl)) ?_
     obtain ⟨x1,hx1,H⟩ := aK H
     have hi1 := dB hx1
     obtain ⟨b2,o1,vs1,ea1,rp1,cl1⟩ := SlR.at (SlR.mono le1 R2) hi1.2.2
     obtain ⟨a3,c3,a4,c4,a5,c5,rfl,R3,R4,R5⟩ := GStmt.out rp1
     refine vv rfl (aY u23 sz33 rfl rfl ea1 hi1.1 hi1.2.1)<|vv rfl (bH [.string x1.Name,.slice a3 x1.Index.length c3,I x1.E.Op,I x1.E.N,.string x1.E.Name,.slice a4 x1.E.Index.length c4,.slice a5 x1.E.L.length c5] ag33 sz33 rfl rfl (cl1 _ (Has.le (Le.refl _) st4.has))) ?_
     obtain ⟨r2,hr2,H⟩ := aK H
     refine aU [.agg #[.string x1.Name,.slice a3 x1.Index.length c3,I x1.E.Op,I x1.E.N,.string x1.E.Name,.slice a4 x1.E.Index.length c4,.slice a5 x1.E.L.length c5]] en17 rfl rfl rfl (F17 k (p0 := x1) st4.has R3 R4 R5 hr2) ?_
     rintro _ w4 ⟨a6,c6,a7,c7,h3,rfl,sp4,R6,R7⟩
     have st5 := st4.call0 sp4
     refine vv rfl (aE (.tuple #[.agg #[I r2.1.Op,I r2.1.N,.string r2.1.Name,.slice a6 r2.1.Index.length c6,.slice a7 r2.1.L.length c7],I r2.2]) rfl)<|vv rfl (bS (.agg #[I r2.1.Op,I r2.1.N,.string r2.1.Name,.slice a6 r2.1.Index.length c6,.slice a7 r2.1.L.length c7]) rfl rfl)<|vv rfl (bS (I r2.2) rfl rfl)<|cG (.agg #[I 0,I 0,.string ByteArray.empty,.slice none 0 0,.slice none 0 0]) zr31 rfl rfl (fun b3 w5 al2 => ?_)
     replace al2 : Al _ (.cells (List.toArray [I 0,I 0,.string ByteArray.empty,.slice none 0 0,.slice none 0 0]) 31 (0,0)) b3 w5 := al2
     have M3 := Mut.new st5 al2
     have lb2 := st5.alB al2
     have sp5 := al2.st st5.has
     have st6 := st5.call0 sp5
     refine aV (o := 0) (n := 5) [I r2.1.Op,I r2.1.N,.string r2.1.Name,.slice a6 r2.1.Index.length c6,.slice a7 r2.1.L.length c7] [I r2.1.Op,I r2.1.N,.string r2.1.Name,.slice a6 r2.1.Index.length c6,.slice a7 r2.1.L.length c7] (.agg #[I r2.1.Op,I r2.1.N,.string r2.1.Name,.slice a6 r2.1.Index.length c6,.slice a7 r2.1.L.length c7]) cP rfl rfl rfl rfl M3 rfl rfl rfl rfl rfl (fun w6 wr2 M4 => ?_)
     have sp6 := wr2.st st6.has M3.none
     have st7 := st6.call sp6 (fun x e => (.inl (e ▸ lb2)))
     obtain ⟨h4,le2,g2,st8,kp2⟩ := M4.fz st7 lb2
     refine vv rfl (aC (I r2.2) rfl)<|aD<|aB e8_14<|aA e8_15<|vv rfl (bH [.slice a1 r1.1.D.length c1,.slice a2 r1.1.S.length c2] ag25 sz25 rfl rfl (bA (st8.has _ _ ((sp4.le.trans le2) _ _ g1)) rfl)) ?_
     obtain ⟨r3,hr3,H⟩ := aK H
     refine aU [.agg #[.slice a1 r1.1.D.length c1,.slice a2 r1.1.S.length c2]] en14 rfl rfl rfl (F14 k (p0 := r1.1) st8.has (SlR.mono (le1.trans (sp4.le.trans le2)) R1) (SlR.mono (le1.trans (sp4.le.trans le2)) R2) hr3) ?_
     rintro _ w7 ⟨h5,rfl,sp7⟩
     have st9 := st8.call0 sp7
     refine vv rfl (aE (.tuple #[I r3.1,I r3.2]) rfl)<|vv rfl (bS (I r3.1) rfl rfl)<|vv rfl (bS (I r3.2) rfl rfl)<|vv rfl (aC (I r3.1) rfl)<|vv rfl (aC (I r3.2) rfl)<|aD<|aB e8_16<|aA e8_17 ?_
     obtain ⟨j2,hj2,H⟩ := dH H
     have Jj2 : ∀ {y1 : Bool} {σ1 : Env} {w8 : World} {h6 : Sto},Le h5 h6 → St w0 noM h0 h6 w8 → σ1 0 = .bool y1 → j2 y1 = some r → Run X8 [.code c8_18] σ1 w8 (.fn (Q8 w0 h0 r)) := by
      intro y1 σ1 w8 h6 le3 st10 s0_j2 H
      rw [hj2] at H
      cases H
      exact aJ e8_18 (cD Try.results8 s0_j2 ⟨h6,rfl,st10⟩)
     refine vv rfl (aE (I r2.2) rfl)<|vv rfl (aQ .eql .i64 r2.2 0 (.bool (decide (r2.2 = 0))) 35 35 rfl rfl rfl)<|vv rfl (aE (.bool (decide (r2.2 = 0))) rfl) ?_
     rcases aM H with ⟨hc3,H⟩ | ⟨hc3,H⟩
     · refine bC (wt2 (dT hc3) rfl) rfl (aF (b := b3) (o := 0) fl31_0 rfl)<|bC (wt2 (dT hc3) rfl) rfl (aN (I r2.1.Op) sc3 rfl ((aR (st9.has _ _ (sp7.le _ _ g2))).trans rfl))<|bC (wt2 (dT hc3) rfl) rfl (aQ .eql .i64 r2.1.Op 3 (.bool (decide (r2.1.Op = 3))) 3 3 rfl rfl rfl)<|vv rfl (dD (.bool (decide (r2.1.Op = 3))) (dT hc3) rfl rfl)<|vv rfl (aE (.bool (decide (r2.1.Op = 3))) rfl) ?_
       rcases aM H with ⟨hc4,H⟩ | ⟨hc4,H⟩
       · refine bC (wt2 (dT hc4) rfl) rfl (aF (b := b3) (o := 0) fl31_4 rfl)<|bC (wt2 (dT hc4) rfl) rfl (aN (.slice a7 r2.1.L.length c7) sc29 rfl ((aR (st9.has _ _ (sp7.le _ _ g2))).trans rfl))<|bC (wt2 (dT hc4) rfl) rfl (bK u29 rfl)<|bC (wt2 (dT hc4) rfl) rfl (aQ .eql .i64 (r2.1.L.length : Int) 2 (.bool (decide ((r2.1.L.length : Int) = 2))) 3 3 rfl rfl rfl)<|vv rfl (dD (.bool (decide ((r2.1.L.length : Int) = 2))) (dT hc4) rfl rfl)<|vv rfl (aE (.bool (decide ((r2.1.L.length : Int) = 2))) rfl) ?_
         rcases aM H with ⟨hc5,H⟩ | ⟨hc5,H⟩
         · refine bC (wt2 (dT hc5) rfl) rfl (aF (b := b3) (o := 0) fl31_4 rfl)<|bC (wt2 (dT hc5) rfl) rfl (aN (.slice a7 r2.1.L.length c7) sc29 rfl ((aR (st9.has _ _ (sp7.le _ _ g2))).trans rfl)) ?_
           obtain ⟨x2,hx2,H⟩ := aK H
           have hi2 := dB hx2
           obtain ⟨b4,o2,vs2,ea2,rp2,cl2⟩ := SlR.at (SlR.mono (le2.trans sp7.le) R7) hi2.2.2
           obtain ⟨a8,c8,a9,c9,rfl,R8,R9⟩ := GNode.out rp2
           refine bC (wt2 (dT hc5) rfl) rfl (aY u29 cP rfl rfl ea2 hi2.1 hi2.2.1)<|bC (wt2 (dT hc5) rfl) rfl (aF (b := b4) (o := o2 + (0 : Int).toNat * 5) fl31_0 rfl)<|bC (wt2 (dT hc5) rfl) rfl (aN (I x2.Op) sc3 rfl (el_one (cl2 _ (Has.le (Le.refl _) st9.has)) (by decide) rfl))<|bC (wt2 (dT hc5) rfl) rfl (aQ .eql .i64 x2.Op 7 (.bool (decide (x2.Op = 7))) 3 3 rfl rfl rfl)<|vv rfl (dD (.bool (decide (x2.Op = 7))) (dT hc5) rfl rfl)<|vv rfl (aE (.bool (decide (x2.Op = 7))) rfl) ?_
           rcases aM H with ⟨hc6,H⟩ | ⟨hc6,H⟩
           · refine bC (wt2 (dT hc6) rfl) rfl (aF (b := b3) (o := 0) fl31_4 rfl)<|bC (wt2 (dT hc6) rfl) rfl (aN (.slice a7 r2.1.L.length c7) sc29 rfl ((aR (st9.has _ _ (sp7.le _ _ g2))).trans rfl)) ?_
             obtain ⟨x3,hx3,H⟩ := aK H
             have hi3 := dB hx3
             obtain ⟨b5,o3,vs3,ea3,rp3,cl3⟩ := SlR.at (SlR.mono (le2.trans sp7.le) R7) hi3.2.2
             obtain ⟨a10,c10,a11,c11,rfl,R10,R11⟩ := GNode.out rp3
             refine bC (wt2 (dT hc6) rfl) rfl (aY u29 cP rfl rfl ea3 hi3.1 hi3.2.1)<|bC (wt2 (dT hc6) rfl) rfl (aF (b := b5) (o := o3 + (0 : Int).toNat * 5) fl31_2 rfl)<|bC (wt2 (dT hc6) rfl) rfl (aN (.string x3.Name) sc9 rfl (el_one (cl3 _ (Has.le (Le.refl _) st9.has)) (by decide) rfl))<|bC (wt2 (dT hc6) rfl) rfl (x_strEq x3.Name (⟨#[107]⟩ : ByteArray) 9 9 rfl rfl)<|vv rfl (dD (.bool (decide (x3.Name = (⟨#[107]⟩ : ByteArray)))) (dT hc6) rfl rfl)<|vv rfl (aE (.bool (decide (x3.Name = (⟨#[107]⟩ : ByteArray)))) rfl) ?_
             rcases aM H with ⟨hc7,H⟩ | ⟨hc7,H⟩
             · refine bC (wt2 (dT hc7) rfl) rfl (aF (b := b3) (o := 0) fl31_4 rfl)<|bC (wt2 (dT hc7) rfl) rfl (aN (.slice a7 r2.1.L.length c7) sc29 rfl ((aR (st9.has _ _ (sp7.le _ _ g2))).trans rfl)) ?_
               obtain ⟨x4,hx4,H⟩ := aK H
               have hi4 := dB hx4
               obtain ⟨b6,o4,vs4,ea4,rp4,cl4⟩ := SlR.at (SlR.mono (le2.trans sp7.le) R7) hi4.2.2
               obtain ⟨a12,c12,a13,c13,rfl,R12,R13⟩ := GNode.out rp4
               refine bC (wt2 (dT hc7) rfl) rfl (aY u29 cP rfl rfl ea4 hi4.1 hi4.2.1)<|bC (wt2 (dT hc7) rfl) rfl (aF (b := b6) (o := o4 + (1 : Int).toNat * 5) fl31_0 rfl)<|bC (wt2 (dT hc7) rfl) rfl (aN (I x4.Op) sc3 rfl (el_one (cl4 _ (Has.le (Le.refl _) st9.has)) (by decide) rfl))<|bC (wt2 (dT hc7) rfl) rfl (aQ .eql .i64 x4.Op 2 (.bool (decide (x4.Op = 2))) 3 3 rfl rfl rfl)<|vv rfl (dD (.bool (decide (x4.Op = 2))) (dT hc7) rfl rfl)<|vv rfl (aE (.bool (decide (x4.Op = 2))) rfl) ?_
               rcases aM H with ⟨hc8,H⟩ | ⟨hc8,H⟩
               · refine bC (wt2 (dT hc8) rfl) rfl (aE (I r3.1) rfl)<|bC (wt2 (dT hc8) rfl) rfl (aQ .eql .i64 r3.1 4 (.bool (decide (r3.1 = 4))) 3 3 rfl rfl rfl)<|vv rfl (dD (.bool (decide (r3.1 = 4))) (dT hc8) rfl rfl)<|vv rfl (aE (.bool (decide (r3.1 = 4))) rfl) ?_
                 rcases aM H with ⟨hc9,H⟩ | ⟨hc9,H⟩
                 · refine bC (wt2 (dT hc9) rfl) rfl (aE (I r3.2) rfl)<|bC (wt2 (dT hc9) rfl) rfl (aQ .eql .i64 r3.2 0 (.bool (decide (r3.2 = 0))) 35 35 rfl rfl rfl)<|vv rfl (dD (.bool (decide (r3.2 = 0))) (dT hc9) rfl rfl)<|vv rfl (aC (.bool (decide (r3.2 = 0))) rfl)<|aD ?_
                   exact Jj2 (Le.refl _) st9 rfl H
                 refine aO (wf2 (dF hc9) rfl) rfl<|aO (wf2 (dF hc9) rfl) rfl<|vv rfl (dE (.bool false) (dF hc9) rfl rfl)<|vv rfl (aC (.bool false) rfl)<|aD ?_
                 exact Jj2 (Le.refl _) st9 rfl H
               refine aO (wf2 (dF hc8) rfl) rfl<|aO (wf2 (dF hc8) rfl) rfl<|vv rfl (dE (.bool false) (dF hc8) rfl rfl)<|vv rfl (aE (.bool false) rfl)<|aO (wf (p := false) rfl rfl) rfl<|aO (wf (p := false) rfl rfl) rfl<|vv rfl (cA (.bool false) (p := false) rfl rfl rfl)<|vv rfl (aC (.bool false) rfl)<|aD ?_
               exact Jj2 (Le.refl _) st9 rfl H
             refine aO (wf2 (dF hc7) rfl) rfl<|aO (wf2 (dF hc7) rfl) rfl<|aO (wf2 (dF hc7) rfl) rfl<|aO (wf2 (dF hc7) rfl) rfl<|aO (wf2 (dF hc7) rfl) rfl<|aO (wf2 (dF hc7) rfl) rfl<|vv rfl (dE (.bool false) (dF hc7) rfl rfl)<|vv rfl (aE (.bool false) rfl)<|aO (wf (p := false) rfl rfl) rfl<|aO (wf (p := false) rfl rfl) rfl ?_
             refine vv rfl (cA (.bool false) (p := false) rfl rfl rfl)<|vv rfl (aE (.bool false) rfl)<|aO (wf (p := false) rfl rfl) rfl<|aO (wf (p := false) rfl rfl) rfl<|vv rfl (cA (.bool false) (p := false) rfl rfl rfl)<|vv rfl (aC (.bool false) rfl)<|aD ?_
             exact Jj2 (Le.refl _) st9 rfl H
           refine aO (wf2 (dF hc6) rfl) rfl<|aO (wf2 (dF hc6) rfl) rfl<|aO (wf2 (dF hc6) rfl) rfl<|aO (wf2 (dF hc6) rfl) rfl<|aO (wf2 (dF hc6) rfl) rfl<|aO (wf2 (dF hc6) rfl) rfl<|vv rfl (dE (.bool false) (dF hc6) rfl rfl)<|vv rfl (aE (.bool false) rfl)<|aO (wf (p := false) rfl rfl) rfl<|aO (wf (p := false) rfl rfl) rfl ?_
           refine aO (wf (p := false) rfl rfl) rfl<|aO (wf (p := false) rfl rfl) rfl<|aO (wf (p := false) rfl rfl) rfl<|aO (wf (p := false) rfl rfl) rfl<|vv rfl (cA (.bool false) (p := false) rfl rfl rfl)<|vv rfl (aE (.bool false) rfl)<|aO (wf (p := false) rfl rfl) rfl<|aO (wf (p := false) rfl rfl) rfl<|vv rfl (cA (.bool false) (p := false) rfl rfl rfl)<|vv rfl (aE (.bool false) rfl) ?_
           refine aO (wf (p := false) rfl rfl) rfl<|aO (wf (p := false) rfl rfl) rfl<|vv rfl (cA (.bool false) (p := false) rfl rfl rfl)<|vv rfl (aC (.bool false) rfl)<|aD ?_
           exact Jj2 (Le.refl _) st9 rfl H
         refine aO (wf2 (dF hc5) rfl) rfl<|aO (wf2 (dF hc5) rfl) rfl<|aO (wf2 (dF hc5) rfl) rfl<|aO (wf2 (dF hc5) rfl) rfl<|aO (wf2 (dF hc5) rfl) rfl<|aO (wf2 (dF hc5) rfl) rfl<|vv rfl (dE (.bool false) (dF hc5) rfl rfl)<|vv rfl (aE (.bool false) rfl)<|aO (wf (p := false) rfl rfl) rfl<|aO (wf (p := false) rfl rfl) rfl ?_
         refine aO (wf (p := false) rfl rfl) rfl<|aO (wf (p := false) rfl rfl) rfl<|aO (wf (p := false) rfl rfl) rfl<|aO (wf (p := false) rfl rfl) rfl<|vv rfl (cA (.bool false) (p := false) rfl rfl rfl)<|vv rfl (aE (.bool false) rfl)<|aO (wf (p := false) rfl rfl) rfl<|aO (wf (p := false) rfl rfl) rfl<|aO (wf (p := false) rfl rfl) rfl<|aO (wf (p := false) rfl rfl) rfl ?_
         refine aO (wf (p := false) rfl rfl) rfl<|aO (wf (p := false) rfl rfl) rfl<|vv rfl (cA (.bool false) (p := false) rfl rfl rfl)<|vv rfl (aE (.bool false) rfl)<|aO (wf (p := false) rfl rfl) rfl<|aO (wf (p := false) rfl rfl) rfl<|vv rfl (cA (.bool false) (p := false) rfl rfl rfl)<|vv rfl (aE (.bool false) rfl)<|aO (wf (p := false) rfl rfl) rfl<|aO (wf (p := false) rfl rfl) rfl ?_
         refine vv rfl (cA (.bool false) (p := false) rfl rfl rfl)<|vv rfl (aC (.bool false) rfl)<|aD ?_
         exact Jj2 (Le.refl _) st9 rfl H
       refine aO (wf2 (dF hc4) rfl) rfl<|aO (wf2 (dF hc4) rfl) rfl<|aO (wf2 (dF hc4) rfl) rfl<|aO (wf2 (dF hc4) rfl) rfl<|vv rfl (dE (.bool false) (dF hc4) rfl rfl)<|vv rfl (aE (.bool false) rfl)<|aO (wf (p := false) rfl rfl) rfl<|aO (wf (p := false) rfl rfl) rfl<|aO (wf (p := false) rfl rfl) rfl<|aO (wf (p := false) rfl rfl) rfl ?_
       refine aO (wf (p := false) rfl rfl) rfl<|aO (wf (p := false) rfl rfl) rfl<|vv rfl (cA (.bool false) (p := false) rfl rfl rfl)<|vv rfl (aE (.bool false) rfl)<|aO (wf (p := false) rfl rfl) rfl<|aO (wf (p := false) rfl rfl) rfl<|aO (wf (p := false) rfl rfl) rfl<|aO (wf (p := false) rfl rfl) rfl<|aO (wf (p := false) rfl rfl) rfl<|aO (wf (p := false) rfl rfl) rfl ?_
       refine vv rfl (cA (.bool false) (p := false) rfl rfl rfl)<|vv rfl (aE (.bool false) rfl)<|aO (wf (p := false) rfl rfl) rfl<|aO (wf (p := false) rfl rfl) rfl<|aO (wf (p := false) rfl rfl) rfl<|aO (wf (p := false) rfl rfl) rfl<|aO (wf (p := false) rfl rfl) rfl<|aO (wf (p := false) rfl rfl) rfl<|vv rfl (cA (.bool false) (p := false) rfl rfl rfl)<|vv rfl (aE (.bool false) rfl) ?_
       refine aO (wf (p := false) rfl rfl) rfl<|aO (wf (p := false) rfl rfl) rfl<|vv rfl (cA (.bool false) (p := false) rfl rfl rfl)<|vv rfl (aE (.bool false) rfl)<|aO (wf (p := false) rfl rfl) rfl<|aO (wf (p := false) rfl rfl) rfl<|vv rfl (cA (.bool false) (p := false) rfl rfl rfl)<|vv rfl (aC (.bool false) rfl)<|aD ?_
       exact Jj2 (Le.refl _) st9 rfl H
     refine aO (wf2 (dF hc3) rfl) rfl<|aO (wf2 (dF hc3) rfl) rfl<|aO (wf2 (dF hc3) rfl) rfl<|vv rfl (dE (.bool false) (dF hc3) rfl rfl)<|vv rfl (aE (.bool false) rfl)<|aO (wf (p := false) rfl rfl) rfl<|aO (wf (p := false) rfl rfl) rfl<|aO (wf (p := false) rfl rfl) rfl<|aO (wf (p := false) rfl rfl) rfl<|vv rfl (cA (.bool false) (p := false) rfl rfl rfl) ?_
     refine vv rfl (aE (.bool false) rfl)<|aO (wf (p := false) rfl rfl) rfl<|aO (wf (p := false) rfl rfl) rfl<|aO (wf (p := false) rfl rfl) rfl<|aO (wf (p := false) rfl rfl) rfl<|aO (wf (p := false) rfl rfl) rfl<|aO (wf (p := false) rfl rfl) rfl<|vv rfl (cA (.bool false) (p := false) rfl rfl rfl)<|vv rfl (aE (.bool false) rfl)<|aO (wf (p := false) rfl rfl) rfl ?_
     refine aO (wf (p := false) rfl rfl) rfl<|aO (wf (p := false) rfl rfl) rfl<|aO (wf (p := false) rfl rfl) rfl<|aO (wf (p := false) rfl rfl) rfl<|aO (wf (p := false) rfl rfl) rfl<|vv rfl (cA (.bool false) (p := false) rfl rfl rfl)<|vv rfl (aE (.bool false) rfl)<|aO (wf (p := false) rfl rfl) rfl<|aO (wf (p := false) rfl rfl) rfl<|aO (wf (p := false) rfl rfl) rfl ?_
     refine aO (wf (p := false) rfl rfl) rfl<|aO (wf (p := false) rfl rfl) rfl<|aO (wf (p := false) rfl rfl) rfl<|vv rfl (cA (.bool false) (p := false) rfl rfl rfl)<|vv rfl (aE (.bool false) rfl)<|aO (wf (p := false) rfl rfl) rfl<|aO (wf (p := false) rfl rfl) rfl<|vv rfl (cA (.bool false) (p := false) rfl rfl rfl)<|vv rfl (aE (.bool false) rfl)<|aO (wf (p := false) rfl rfl) rfl ?_
     refine aO (wf (p := false) rfl rfl) rfl<|vv rfl (cA (.bool false) (p := false) rfl rfl rfl)<|vv rfl (aC (.bool false) rfl)<|aD ?_
     exact Jj2 (Le.refl _) st9 rfl H
   refine tr e8_7 (bQ (dF hc2)) rfl<|aB e8_8<|aA e8_9<|vv rfl (aC (.bool false) rfl)<|aD ?_
   cases H
   exact aJ e8_10 (cD Try.results8 rfl ⟨h2,rfl,st4⟩)
 refine aO (wf2 (bQ (dF hc1)) rfl) rfl<|aO (wf2 (bQ (dF hc1)) rfl) rfl<|aO (wf2 (bQ (dF hc1)) rfl) rfl<|aO (wf2 (bQ (dF hc1)) rfl) rfl<|vv rfl (dD (.bool true) (bQ (dF hc1)) rfl rfl)<|aD<|cZ e8_7 (p := true) rfl rfl<|aB e8_8<|aA e8_9<|vv rfl (aC (.bool false) rfl) ?_
 refine aD ?_
 cases H
 exact aJ e8_10 (cD Try.results8 rfl ⟨h2,rfl,st4⟩)
end Go.Proofs.Ytjdfoipnmbnkeaa
