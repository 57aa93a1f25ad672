/- ShapePlaces holds: for every input the law returns true, and the input reads as it did. Part 6 of 6. No conditions. -/
import Derived.Test.YtjdfoipnmbnkeaaPl4
import Derived.KernelRfl
import Derived.ChangeArms
import Derived.ChangeSame
import Derived.SizedLaws
import Derived.Test.YtjdfoipnmbnkeaaRows
import Derived.WalkKit
import Derived.ProofKit
import Derived.OpenShut
import Derived.ShutString
import Derived.ChangeOld
import Derived.Below
import Derived.Carry
set_option maxRecDepth 100000
set_option maxHeartbeats 8000000
namespace Go.Proofs.Ytjdfoipnmbnkeaa
open Go
abbrev ZSLl9_0 (k : Nat) : Prop := SLl9_0 k ∧ SLl9_1 k ∧ SLl9_2 k
theorem SLl9_0_z : SLl9_0 0 := by
  unfold SLl9_0; intros; rename_i H; exact absurd H (by simp [l9_0])
theorem SLl9_0_s (k : Nat) (ih : ZSLl9_0 k) : SLl9_0 (k + 1) := by
 intro p0 bY bS bZ bT b1 j1 w0 w h0 h σ xs1 r st s1 s10 s11 s12 R1 R2 g2 hd1 H
 cases xs1 with
 | nil =>
  rw [l9_0] at H
  have hk1 := cV hd1
  refine aB e9_7<|aA e9_8<|vv rfl (aP .lss .i64 (j1 : Int) (p0.D.length : Int) (.bool (decide ((j1 : Int) < (p0.D.length : Int)))) 3 3 s12 s11 rfl)<|aD<|aB e9_9<|fa e9_10 hk1 rfl<|bM e9_12 rfl<|aB e9_25<|aB e9_26<|aA e9_27 ?_
  refine vv rfl (aF (b := b1) (o := 0) fl25_1 s1)<|vv rfl (aL (.slice bS p0.S.length bT) sc23 rfl ((aQ (st.has _ _ g2)).trans rfl))<|vv rfl (bN u23 rfl)<|vv rfl (aE (I 0) rfl)<|aD<|aT e9_28<|cB e9_29 ?_
  exact ih.2.1 (j2 := 0) st s1 rfl rfl rfl R1 R2 g2 rfl H
 | cons x1 xs2 =>
  rw [l9_0] at H
  obtain ⟨hk2,hj1,hx1,hd2⟩ := cL hd1
  refine aB e9_7<|aA e9_8<|vv rfl (aP .lss .i64 (j1 : Int) (p0.D.length : Int) (.bool (decide ((j1 : Int) < (p0.D.length : Int)))) 3 3 s12 s11 rfl)<|aD<|aB e9_9<|tr e9_10 hk2 rfl<|aM e9_11<|aB e9_13<|aT e9_14<|aB e9_15 ?_
  refine aA e9_16 ?_
  obtain ⟨b5,o3,vs3,ea3,rp3,cl3⟩ := SlR.at R1 hx1
  obtain ⟨a4,c4,rfl,R11⟩ := GDecl.out rp3
  refine vv rfl (aX u22 sz45 s10 s12 ea3 (Int.natCast_nonneg _) (Int.ofNat_lt.2 hj1))<|vv rfl (bH [.string x1.Name,.slice a4 x1.Shape.length c4,.string x1.Form,I x1.Block] ag45 sz45 rfl rfl (cl3 _ (Has.le (Le.refl _) st.has)))<|cF (.agg #[.string ByteArray.empty,.slice none 0 0,.string ByteArray.empty,I 0]) zr45 rfl rfl (fun b6 w6 al3 => ?_)
  replace al3 : Al _ (.cells (List.toArray [.string ByteArray.empty,.slice none 0 0,.string ByteArray.empty,I 0]) 45 (0,0)) b6 w6 := al3
  have M3 := Mut.new st al3
  have lb2 := st.alB al3
  have sp5 := al3.st st.has
  have st7 := st.call0 sp5
  refine aV (o := 0) (n := 4) [.string x1.Name,.slice a4 x1.Shape.length c4,.string x1.Form,I x1.Block] [.string x1.Name,.slice a4 x1.Shape.length c4,.string x1.Form,I x1.Block] (.agg #[.string x1.Name,.slice a4 x1.Shape.length c4,.string x1.Form,I x1.Block]) sz45 rfl rfl rfl rfl M3 rfl rfl rfl rfl rfl (fun w7 wr2 M4 => ?_)
  have sp6 := wr2.st st7.has M3.none
  have st8 := st7.call sp6 (fun x e => (.inl (e ▸ lb2)))
  obtain ⟨h5,le4,g6,st9,kp2⟩ := M4.fz st8 lb2
  refine aD<|aB e9_17<|aA e9_18<|vv rfl (aF (b := b6) (o := 0) fl45_1 rfl)<|vv rfl (aL (.slice a4 x1.Shape.length c4) sc43 rfl ((aQ (st9.has _ _ g6)).trans rfl))<|vv rfl (bN u43 rfl)<|vv rfl (aP .gtr .i64 (x1.Shape.length : Int) 20 (.bool (decide (20 < (x1.Shape.length : Int)))) 3 3 rfl rfl rfl)<|vv rfl (aE (.bool (decide (20 < (x1.Shape.length : Int)))) rfl) ?_
  rcases aN H with ⟨hc6,H⟩ | ⟨hc6,H⟩
  · refine aR (wf2 (dT hc6) rfl) rfl<|aR (wf2 (dT hc6) rfl) rfl<|aR (wf2 (dT hc6) rfl) rfl<|aR (wf2 (dT hc6) rfl) rfl<|aR (wf2 (dT hc6) rfl) rfl<|aR (wf2 (dT hc6) rfl) rfl<|aR (wf2 (dT hc6) rfl) rfl<|aR (wf2 (dT hc6) rfl) rfl<|vv rfl (dH (.bool true) (dT hc6) rfl rfl)<|aD ?_
    refine cQ e9_19 (p := true) rfl rfl<|aB e9_20<|aA e9_21<|vv rfl (aC (.bool false) rfl)<|aD ?_
    cases H
    exact aJ e9_22 (cG Try.results9 rfl ⟨h5,rfl,st9⟩)
  refine aZ (wt2 (dF hc6) rfl) rfl (aF (b := b6) (o := 0) fl45_0 rfl)<|aZ (wt2 (dF hc6) rfl) rfl (aL (.string x1.Name) sc9 rfl ((aQ (st9.has _ _ g6)).trans rfl))<|aZ (wt2 (dF hc6) rfl) rfl (eB u9 rfl)<|aZ (wt2 (dF hc6) rfl) rfl (aF (b := b6) (o := 0) fl45_2 rfl)<|aZ (wt2 (dF hc6) rfl) rfl (aL (.string x1.Form) sc9 rfl ((aQ (st9.has _ _ g6)).trans rfl))<|aZ (wt2 (dF hc6) rfl) rfl (eB u9 rfl)<|aZ (wt2 (dF hc6) rfl) rfl (aP .add .i64 (x1.Name.size : Int) (x1.Form.size : Int) (I (wr ((x1.Name.size : Int) + (x1.Form.size : Int)))) 3 3 rfl rfl rfl)<|aZ (wt2 (dF hc6) rfl) rfl (aP .gtr .i64 (wr ((x1.Name.size : Int) + (x1.Form.size : Int))) 200 (.bool (decide (200 < (wr ((x1.Name.size : Int) + (x1.Form.size : Int)))))) 3 3 rfl rfl rfl)<|vv rfl (dI (.bool (decide (200 < (wr ((x1.Name.size : Int) + (x1.Form.size : Int)))))) (dF hc6) rfl rfl)<|aD ?_
  rcases aN H with ⟨hc7,H⟩ | ⟨hc7,H⟩
  · refine tr e9_19 (dT hc7) rfl<|aB e9_20<|aA e9_21<|vv rfl (aC (.bool false) rfl)<|aD ?_
    cases H
    exact aJ e9_22 (cG Try.results9 rfl ⟨h5,rfl,st9⟩)
  refine fa e9_19 (dF hc7) rfl<|aM e9_23<|aW<|aA e9_24<|vv rfl (aP .add .i64 (j1 : Int) 1 (I ((j1 + 1 : Nat) : Int)) 3 3 s12 rfl (dL hj1 (SlR.mono le4 R1).mx))<|vv rfl (aE (I ((j1 + 1 : Nat) : Int)) rfl)<|aD<|bF ?_
  exact ih.1 (j1 := (j1 + 1)) st9 s1 s10 s11 rfl (SlR.mono le4 R1) (SlR.mono le4 R2) (le4 _ _ g2) hd2 H
theorem SLl9_1_z : SLl9_1 0 := by
  unfold SLl9_1; intros; rename_i H; exact absurd H (by simp [l9_1])
theorem SLl9_1_s (k : Nat) (ih : ZSLl9_0 k) : SLl9_1 (k + 1) := by
 intro p0 bY bS bZ bT b1 j2 w0 w h0 h σ xs3 r st s1 s32 s33 s34 R3 R4 g3 hd3 H
 cases xs3 with
 | nil =>
  rw [l9_1] at H
  have hk3 := cV hd3
  refine aB e9_30<|aA e9_31<|vv rfl (aP .lss .i64 (j2 : Int) (p0.S.length : Int) (.bool (decide ((j2 : Int) < (p0.S.length : Int)))) 3 3 s34 s33 rfl)<|aD<|aB e9_32<|fa e9_33 hk3 rfl<|bM e9_35 rfl<|aB e9_71<|aA e9_72 ?_
  obtain ⟨j3,hj3,H⟩ := dE H
  have Jj3 : ∀ {y1 : Bool} {σ1 : Env} {w2 : World} {h2 : Sto},Le h h2 → St w0 noM h0 h2 w2 → σ1 2 = .bool y1 → j3 y1 = some r → Run X9 [.code c9_73] σ1 w2 (.fn (Q9 w0 h0 r)) := by
   intro y1 σ1 w2 h2 le2 st2 s2_j3 H
   rw [hj3] at H
   cases H
   exact aJ e9_73 (cG Try.results9 s2_j3 ⟨h2,rfl,st2⟩)
  refine vv rfl (aF (b := b1) (o := 0) fl25_0 s1)<|vv rfl (aL (.slice bY p0.D.length bZ) sc22 rfl ((aQ (st.has _ _ g3)).trans rfl))<|vv rfl (bN u22 rfl)<|vv rfl (aP .leq .i64 (p0.D.length : Int) 40 (.bool (decide ((p0.D.length : Int) ≤ 40))) 3 3 rfl rfl rfl)<|vv rfl (aE (.bool (decide ((p0.D.length : Int) ≤ 40))) rfl) ?_
  rcases aN H with ⟨hc1,H⟩ | ⟨hc1,H⟩
  · refine aZ (wt2 (dT hc1) rfl) rfl (aF (b := b1) (o := 0) fl25_1 s1)<|aZ (wt2 (dT hc1) rfl) rfl (aL (.slice bS p0.S.length bT) sc23 rfl ((aQ (st.has _ _ g3)).trans rfl))<|aZ (wt2 (dT hc1) rfl) rfl (bN u23 rfl)<|aZ (wt2 (dT hc1) rfl) rfl (aP .leq .i64 (p0.S.length : Int) 40 (.bool (decide ((p0.S.length : Int) ≤ 40))) 3 3 rfl rfl rfl)<|vv rfl (dH (.bool (decide ((p0.S.length : Int) ≤ 40))) (dT hc1) rfl rfl)<|vv rfl (aC (.bool (decide ((p0.S.length : Int) ≤ 40))) rfl)<|aD ?_
    exact Jj3 (Le.refl _) st rfl H
  refine aR (wf2 (dF hc1) rfl) rfl<|aR (wf2 (dF hc1) rfl) rfl<|aR (wf2 (dF hc1) rfl) rfl<|aR (wf2 (dF hc1) rfl) rfl<|vv rfl (dI (.bool false) (dF hc1) rfl rfl)<|vv rfl (aC (.bool false) rfl)<|aD ?_
  exact Jj3 (Le.refl _) st rfl H
 | cons x2 xs4 =>
  rw [l9_1] at H
  obtain ⟨hk4,hj2,hx2,hd4⟩ := cL hd3
  refine aB e9_30<|aA e9_31<|vv rfl (aP .lss .i64 (j2 : Int) (p0.S.length : Int) (.bool (decide ((j2 : Int) < (p0.S.length : Int)))) 3 3 s34 s33 rfl)<|aD<|aB e9_32<|tr e9_33 hk4 rfl<|aM e9_34<|aB e9_36<|aT e9_37<|aB e9_38 ?_
  refine aA e9_39 ?_
  obtain ⟨b2,o1,vs1,ea1,rp1,cl1⟩ := SlR.at R4 hx2
  obtain ⟨a1,c1,a2,c2,a3,c3,rfl,R5,R6,R7⟩ := GStmt.out rp1
  refine vv rfl (aX u23 sz33 s32 s34 ea1 (Int.natCast_nonneg _) (Int.ofNat_lt.2 hj2))<|vv rfl (bH [.string x2.Name,.slice a1 x2.Index.length c1,I x2.E.Op,I x2.E.N,.string x2.E.Name,.slice a2 x2.E.Index.length c2,.slice a3 x2.E.L.length c3] ag33 sz33 rfl rfl (cl1 _ (Has.le (Le.refl _) st.has)))<|cF (.agg #[.string ByteArray.empty,.slice none 0 0,I 0,I 0,.string ByteArray.empty,.slice none 0 0,.slice none 0 0]) zr33 rfl rfl (fun b3 w3 al2 => ?_)
  replace al2 : Al _ (.cells (List.toArray [.string ByteArray.empty,.slice none 0 0,I 0,I 0,.string ByteArray.empty,.slice none 0 0,.slice none 0 0]) 33 (0,0)) b3 w3 := al2
  have M1 := Mut.new st al2
  have lb1 := st.alB al2
  have sp2 := al2.st st.has
  have st3 := st.call0 sp2
  refine aV (o := 0) (n := 7) [.string x2.Name,.slice a1 x2.Index.length c1,I x2.E.Op,I x2.E.N,.string x2.E.Name,.slice a2 x2.E.Index.length c2,.slice a3 x2.E.L.length c3] [.string x2.Name,.slice a1 x2.Index.length c1,I x2.E.Op,I x2.E.N,.string x2.E.Name,.slice a2 x2.E.Index.length c2,.slice a3 x2.E.L.length c3] (.agg #[.string x2.Name,.slice a1 x2.Index.length c1,I x2.E.Op,I x2.E.N,.string x2.E.Name,.slice a2 x2.E.Index.length c2,.slice a3 x2.E.L.length c3]) sz33 rfl rfl rfl rfl M1 rfl rfl rfl rfl rfl (fun w4 wr1 M2 => ?_)
  have sp3 := wr1.st st3.has M1.none
  have st4 := st3.call sp3 (fun x e => (.inl (e ▸ lb1)))
  obtain ⟨h3,le3,g4,st5,kp1⟩ := M2.fz st4 lb1
  refine aD<|aB e9_40<|aB e9_41<|aA e9_42<|vv rfl (aF (b := b3) (o := 0) fl33_2 rfl)<|vv rfl (bH [I x2.E.Op,I x2.E.N,.string x2.E.Name,.slice a2 x2.E.Index.length c2,.slice a3 x2.E.L.length c3] ag31 cX rfl rfl (aY (st5.has _ _ g4) rfl)) ?_
  obtain ⟨r1,hr1,H⟩ := aK H
  refine aU [.agg #[I x2.E.Op,I x2.E.N,.string x2.E.Name,.slice a2 x2.E.Index.length c2,.slice a3 x2.E.L.length c3],I 20] en25 rfl rfl rfl (F25 k (p0 := x2.E) st5.has (SlR.mono le3 R6) (SlR.mono le3 R7) hr1) ?_
  rintro _ w5 ⟨h4,rfl,sp4⟩
  have st6 := st5.call0 sp4
  refine vv rfl (eA r1 4 rfl)<|vv rfl (aE (.bool (!r1)) rfl) ?_
  rcases aN H with ⟨hc2,H⟩ | ⟨hc2,H⟩
  · refine aZ (wt2 (bL hc2) rfl) rfl (aF (b := b3) (o := 0) fl33_1 rfl)<|aZ (wt2 (bL hc2) rfl) rfl (aL (.slice a1 x2.Index.length c1) sc28 rfl ((aQ (st6.has _ _ (sp4.le _ _ g4))).trans rfl))<|aZ (wt2 (bL hc2) rfl) rfl (bN u28 rfl)<|aZ (wt2 (bL hc2) rfl) rfl (aP .gtr .i64 (x2.Index.length : Int) 20 (.bool (decide (20 < (x2.Index.length : Int)))) 3 3 rfl rfl rfl)<|vv rfl (dI (.bool (decide (20 < (x2.Index.length : Int)))) (bL hc2) rfl rfl)<|vv rfl (aE (.bool (decide (20 < (x2.Index.length : Int)))) rfl) ?_
    rcases aN H with ⟨hc3,H⟩ | ⟨hc3,H⟩
    · refine aR (wf2 (dT hc3) rfl) rfl<|aR (wf2 (dT hc3) rfl) rfl<|aR (wf2 (dT hc3) rfl) rfl<|aR (wf2 (dT hc3) rfl) rfl<|vv rfl (dH (.bool true) (dT hc3) rfl rfl)<|aD<|cQ e9_43 (p := true) rfl rfl<|aB e9_44<|aA e9_45<|vv rfl (aC (.bool false) rfl) ?_
      refine aD ?_
      cases H
      exact aJ e9_46 (cG Try.results9 rfl ⟨h4,rfl,st6⟩)
    refine aZ (wt2 (dF hc3) rfl) rfl (aF (b := b3) (o := 0) fl33_0 rfl)<|aZ (wt2 (dF hc3) rfl) rfl (aL (.string x2.Name) sc9 rfl ((aQ (st6.has _ _ (sp4.le _ _ g4))).trans rfl))<|aZ (wt2 (dF hc3) rfl) rfl (eB u9 rfl)<|aZ (wt2 (dF hc3) rfl) rfl (aP .gtr .i64 (x2.Name.size : Int) 100 (.bool (decide (100 < (x2.Name.size : Int)))) 3 3 rfl rfl rfl)<|vv rfl (dI (.bool (decide (100 < (x2.Name.size : Int)))) (dF hc3) rfl rfl)<|aD ?_
    rcases aN H with ⟨hc4,H⟩ | ⟨hc4,H⟩
    · refine tr e9_43 (dT hc4) rfl<|aB e9_44<|aA e9_45<|vv rfl (aC (.bool false) rfl)<|aD ?_
      cases H
      exact aJ e9_46 (cG Try.results9 rfl ⟨h4,rfl,st6⟩)
    refine fa e9_43 (dF hc4) rfl<|aM e9_47<|aB e9_48<|aA e9_49<|vv rfl (aF (b := b3) (o := 0) fl33_1 rfl)<|vv rfl (aL (.slice a1 x2.Index.length c1) sc28 rfl ((aQ (st6.has _ _ (sp4.le _ _ g4))).trans rfl))<|vv rfl (bN u28 rfl)<|vv rfl (aE (I 0) rfl)<|aD<|aT e9_50 ?_
    refine cB e9_51 ?_
    exact ih.2.2 (j5 := 0) st6 s1 s32 s33 s34 rfl rfl rfl (SlR.mono (le3.trans sp4.le) R3) (SlR.mono (le3.trans sp4.le) R4) ((le3.trans sp4.le) _ _ g3) (SlR.mono (le3.trans sp4.le) R5) rfl hd4 hj2 hx2 H
  refine aR (wf2 (bK (cA hc2)) rfl) rfl<|aR (wf2 (bK (cA hc2)) rfl) rfl<|aR (wf2 (bK (cA hc2)) rfl) rfl<|aR (wf2 (bK (cA hc2)) rfl) rfl<|vv rfl (dH (.bool true) (bK (cA hc2)) rfl rfl)<|vv rfl (aE (.bool true) rfl)<|aR (wf (p := true) rfl rfl) rfl<|aR (wf (p := true) rfl rfl) rfl<|aR (wf (p := true) rfl rfl) rfl<|aR (wf (p := true) rfl rfl) rfl ?_
  refine vv rfl (x_pickT (.bool true) (p := true) rfl rfl rfl)<|aD<|cQ e9_43 (p := true) rfl rfl<|aB e9_44<|aA e9_45<|vv rfl (aC (.bool false) rfl)<|aD ?_
  cases H
  exact aJ e9_46 (cG Try.results9 rfl ⟨h4,rfl,st6⟩)
theorem SLl9_2_z : SLl9_2 0 := by
  unfold SLl9_2; intros; rename_i H; exact absurd H (by simp [l9_2])
theorem SLl9_2_s (k : Nat) (ih : ZSLl9_0 k) : SLl9_2 (k + 1) := by
 intro p0 bY bS a1 bZ bT b1 j2 c1 j5 w0 w h0 h σ x2 xs4 xs5 r st s1 s32 s33 s34 s55 s56 s57 R8 R9 g5 R10 hd5 hd4 hj2 hx2 H
 cases xs5 with
 | nil =>
  rw [l9_2] at H
  have hk5 := cV hd5
  refine aB e9_52<|aA e9_53<|vv rfl (aP .lss .i64 (j5 : Int) (x2.Index.length : Int) (.bool (decide ((j5 : Int) < (x2.Index.length : Int)))) 3 3 s57 s56 rfl)<|aD<|aB e9_54<|fa e9_55 hk5 rfl<|bM e9_57 rfl<|aW<|aA e9_70<|vv rfl (aP .add .i64 (j2 : Int) 1 (I ((j2 + 1 : Nat) : Int)) 3 3 s34 rfl (dL hj2 R9.mx)) ?_
  refine vv rfl (aE (I ((j2 + 1 : Nat) : Int)) rfl)<|aD<|bF ?_
  exact ih.2.1 (j2 := (j2 + 1)) st s1 s32 s33 rfl R8 R9 g5 hd4 H
 | cons x3 xs6 =>
  rw [l9_2] at H
  obtain ⟨hk6,hj3,hx3,hd6⟩ := cL hd5
  refine aB e9_52<|aA e9_53<|vv rfl (aP .lss .i64 (j5 : Int) (x2.Index.length : Int) (.bool (decide ((j5 : Int) < (x2.Index.length : Int)))) 3 3 s57 s56 rfl)<|aD<|aB e9_54<|tr e9_55 hk6 rfl<|aM e9_56<|aB e9_58<|aT e9_59<|aB e9_60 ?_
  refine aA e9_61 ?_
  obtain ⟨b4,o2,vs2,ea2,rp2,cl2⟩ := SlR.at R10 hx3
  obtain rfl := rp2
  refine vv rfl (aX u28 sz9 s55 s57 ea2 (Int.natCast_nonneg _) (Int.ofNat_lt.2 hj3))<|vv rfl (aL (.string x3) sc9 rfl (((cl2 _ (Has.le (Le.refl _) st.has)) 0 (by decide)).trans rfl))<|vv rfl (aC (.string x3) rfl)<|aD<|aB e9_62<|aA e9_63<|vv rfl (aE (.string x3) rfl)<|vv rfl (eB u9 rfl)<|vv rfl (aP .gtr .i64 (x3.size : Int) 100 (.bool (decide (100 < (x3.size : Int)))) 3 3 rfl rfl rfl)<|aD ?_
  rcases aN H with ⟨hc5,H⟩ | ⟨hc5,H⟩
  · refine tr e9_64 (dT hc5) rfl<|aB e9_65<|aA e9_66<|vv rfl (aC (.bool false) rfl)<|aD ?_
    cases H
    exact aJ e9_67 (cG Try.results9 rfl ⟨h,rfl,st⟩)
  refine fa e9_64 (dF hc5) rfl<|aM e9_68<|aW<|aA e9_69<|vv rfl (aP .add .i64 (j5 : Int) 1 (I ((j5 + 1 : Nat) : Int)) 3 3 s57 rfl (dL hj3 R10.mx))<|vv rfl (aE (I ((j5 + 1 : Nat) : Int)) rfl)<|aD<|bF ?_
  exact ih.2.2 (j5 := (j5 + 1)) st s1 s32 s33 s34 s55 s56 rfl R8 R9 g5 R10 hd6 hd4 hj2 hx2 H
theorem ZSLl9_0_all : ∀ k,ZSLl9_0 k
  | 0 => ⟨SLl9_0_z,SLl9_1_z,SLl9_2_z⟩
  | k + 1 => ⟨SLl9_0_s k (ZSLl9_0_all k),SLl9_1_s k (ZSLl9_0_all k),SLl9_2_s k (ZSLl9_0_all k)⟩
theorem Fl9_0 (k : Nat) : SLl9_0 k := (ZSLl9_0_all k).1
theorem F9 (k : Nat) : S9 k := by
 intro p0 bY bS bZ bT w0 h0 hh Rp0_D Rp0_S r H
 unfold m9 at H
 refine aO (fn := Try.f9) Try.func9 rfl (Nat.le_of_ble_eq_true rfl) ?_
 show Run X9 [.code c9_0] (fun t => List.getD [.agg #[.slice bY p0.D.length bZ,.slice bS p0.S.length bT]] t undef) w0 (.fn (Q9 w0 h0 r))
 have st0 := St.init hh noM
 refine aB e9_0<|aA e9_1<|eF (.agg #[.slice bY p0.D.length bZ,.slice bS p0.S.length bT]) rfl rfl rfl (fun b1 w1 al1 => ?_)
 replace al1 : Al _ (.cells (List.toArray [.slice bY p0.D.length bZ,.slice bS p0.S.length bT]) 25 (0,0)) b1 w1 := al1
 obtain ⟨h1,le1,g1,sp1⟩ := al1.fz st0.has
 have st1 := st0.call0 sp1
 refine vv rfl (aC (.bool false) rfl)<|aD<|aB e9_2<|aB e9_3<|aA e9_4<|vv rfl (aF (b := b1) (o := 0) fl25_0 rfl)<|vv rfl (aL (.slice bY p0.D.length bZ) sc22 rfl ((aQ (st1.has _ _ g1)).trans rfl))<|vv rfl (bN u22 rfl)<|vv rfl (aE (I 0) rfl)<|aD ?_
 refine aT e9_5<|cB e9_6 ?_
 exact Fl9_0 k (j1 := 0) st1 rfl rfl rfl rfl (SlR.mono le1 Rp0_D) (SlR.mono le1 Rp0_S) g1 rfl H
abbrev ZSLl3_0 (k : Nat) : Prop := SLl3_0 k ∧ SLl3_1 k ∧ SLl3_2 k ∧ SLl3_3 k
theorem SLl3_0_z : SLl3_0 0 := by
  unfold SLl3_0; intros; rename_i H; exact absurd H (by simp [l3_0])
theorem SLl3_0_s (k : Nat) (ih : ZSLl3_0 k) : SLl3_0 (k + 1) := by
 intro p0 bY bS bZ bT b1 j2 w0 w h0 h r1 σ xs1 r st s1 s3 s26 s27 s28 R1 R2 g2 hd1 H
 cases xs1 with
 | nil =>
  rw [l3_0] at H
  have hk1 := cV hd1
  refine aB e3_17<|aA e3_18<|vv rfl (aP .lss .i64 (j2 : Int) (p0.S.length : Int) (.bool (decide ((j2 : Int) < (p0.S.length : Int)))) 3 3 s28 s27 rfl)<|aD<|aB e3_19<|fa e3_20 hk1 rfl<|bM e3_22 rfl<|aB e3_110<|aA e3_111<|vv rfl (aE (.bool r1) s3) ?_
  refine vv rfl (aC (.bool r1) rfl)<|aD ?_
  cases H
  exact aJ e3_112 (cG Try.results3 rfl ⟨h,rfl,st⟩)
 | cons x1 xs2 =>
  rw [l3_0] at H
  obtain ⟨hk2,hj1,hx1,hd2⟩ := cL hd1
  refine aB e3_17<|aA e3_18<|vv rfl (aP .lss .i64 (j2 : Int) (p0.S.length : Int) (.bool (decide ((j2 : Int) < (p0.S.length : Int)))) 3 3 s28 s27 rfl)<|aD<|aB e3_19<|tr e3_20 hk2 rfl<|aM e3_21<|aB e3_23<|aT e3_24<|aB e3_25 ?_
  refine aA e3_26 ?_
  obtain ⟨b2,o1,vs1,ea1,rp1,cl1⟩ := SlR.at R2 hx1
  obtain ⟨a1,c1,a2,c2,a3,c3,rfl,R3,R4,R5⟩ := GStmt.out rp1
  refine vv rfl (aX u23 sz33 s26 s28 ea1 (Int.natCast_nonneg _) (Int.ofNat_lt.2 hj1))<|vv rfl (bH [.string x1.Name,.slice a1 x1.Index.length c1,I x1.E.Op,I x1.E.N,.string x1.E.Name,.slice a2 x1.E.Index.length c2,.slice a3 x1.E.L.length c3] ag33 sz33 rfl rfl (cl1 _ (Has.le (Le.refl _) st.has)))<|cF (.agg #[.string ByteArray.empty,.slice none 0 0,I 0,I 0,.string ByteArray.empty,.slice none 0 0,.slice none 0 0]) zr33 rfl rfl (fun b3 w4 al2 => ?_)
  replace al2 : Al _ (.cells (List.toArray [.string ByteArray.empty,.slice none 0 0,I 0,I 0,.string ByteArray.empty,.slice none 0 0,.slice none 0 0]) 33 (0,0)) b3 w4 := al2
  have M1 := Mut.new st al2
  have lb1 := st.alB al2
  have sp4 := al2.st st.has
  have st4 := st.call0 sp4
  refine aV (o := 0) (n := 7) [.string x1.Name,.slice a1 x1.Index.length c1,I x1.E.Op,I x1.E.N,.string x1.E.Name,.slice a2 x1.E.Index.length c2,.slice a3 x1.E.L.length c3] [.string x1.Name,.slice a1 x1.Index.length c1,I x1.E.Op,I x1.E.N,.string x1.E.Name,.slice a2 x1.E.Index.length c2,.slice a3 x1.E.L.length c3] (.agg #[.string x1.Name,.slice a1 x1.Index.length c1,I x1.E.Op,I x1.E.N,.string x1.E.Name,.slice a2 x1.E.Index.length c2,.slice a3 x1.E.L.length c3]) sz33 rfl rfl rfl rfl M1 rfl rfl rfl rfl rfl (fun w5 wr1 M2 => ?_)
  have sp5 := wr1.st st4.has M1.none
  have st5 := st4.call sp5 (fun x e => (.inl (e ▸ lb1)))
  obtain ⟨h4,le2,g3,st6,kp1⟩ := M2.fz st5 lb1
  refine aD<|aB e3_27<|aA e3_28<|vv rfl (bH [.string x1.Name,.slice a1 x1.Index.length c1,I x1.E.Op,I x1.E.N,.string x1.E.Name,.slice a2 x1.E.Index.length c2,.slice a3 x1.E.L.length c3] ag33 sz33 rfl rfl (aY (st6.has _ _ g3) rfl))<|vv rfl (aF (b := b1) (o := 0) fl25_0 s1)<|vv rfl (aL (.slice bY p0.D.length bZ) sc22 rfl ((aQ (st6.has _ _ (le2 _ _ g2))).trans rfl)) ?_
  obtain ⟨r3,hr3,H⟩ := aK H
  refine aU [.agg #[.string x1.Name,.slice a1 x1.Index.length c1,I x1.E.Op,I x1.E.N,.string x1.E.Name,.slice a2 x1.E.Index.length c2,.slice a3 x1.E.L.length c3],.slice bY p0.D.length bZ] en10 rfl rfl rfl (F10 k (p0 := x1) st6.has (SlR.mono le2 R3) (SlR.mono le2 R4) (SlR.mono le2 R5) (SlR.mono le2 R1) hr3) ?_
  rintro _ w6 ⟨a4,c4,h5,rfl,sp6,R6⟩
  have st7 := st6.call0 sp6
  refine vv rfl (aE (.tuple #[.slice a4 r3.1.length c4,I r3.2]) rfl)<|vv rfl (bJ (.slice a4 r3.1.length c4) rfl rfl)<|vv rfl (bJ (I r3.2) rfl rfl)<|vv rfl (aC (.slice a4 r3.1.length c4) rfl)<|vv rfl (aC (I r3.2) rfl)<|aD<|aB e3_29<|aB e3_30<|aA e3_31<|vv rfl (aE (I r3.2) rfl) ?_
  refine vv rfl (aP .neq .i64 r3.2 0 (.bool (!decide (r3.2 = 0))) 35 35 rfl rfl rfl)<|aD ?_
  rcases aN H with ⟨hc2,H⟩ | ⟨hc2,H⟩
  · refine fa e3_32 (bL (dT hc2)) rfl<|aM e3_34<|aB e3_35<|aB e3_36<|aA e3_37<|vv rfl (aE (.slice a4 r3.1.length c4) rfl)<|vv rfl (bN u34 rfl)<|vv rfl (aE (I 0) rfl)<|aD<|aT e3_38 ?_
    refine cB e3_39 ?_
    exact ih.2.1 (j4 := 0) st7 s1 s3 rfl rfl s26 s27 s28 rfl rfl rfl (SlR.mono (le2.trans sp6.le) R1) (SlR.mono (le2.trans sp6.le) R2) ((le2.trans sp6.le) _ _ g2) (SlR.mono (le2.trans sp6.le) R3) (SlR.mono (le2.trans sp6.le) R4) (SlR.mono (le2.trans sp6.le) R5) (sp6.le _ _ g3) R6 rfl hd2 hj1 hx1 H
  refine tr e3_32 (bK (dF hc2)) rfl<|bM e3_33 rfl<|aA e3_109<|vv rfl (aP .add .i64 (j2 : Int) 1 (I ((j2 + 1 : Nat) : Int)) 3 3 s28 rfl (dL hj1 (SlR.mono (le2.trans sp6.le) R2).mx))<|vv rfl (aE (I ((j2 + 1 : Nat) : Int)) rfl)<|aD<|bF ?_
  exact ih.1 (j2 := (j2 + 1)) st7 s1 s3 s26 s27 rfl (SlR.mono (le2.trans sp6.le) R1) (SlR.mono (le2.trans sp6.le) R2) ((le2.trans sp6.le) _ _ g2) hd2 H
theorem SLl3_1_z : SLl3_1 0 := by
  unfold SLl3_1; intros; rename_i H; exact absurd H (by simp [l3_1])
theorem SLl3_1_s (k : Nat) (ih : ZSLl3_0 k) : SLl3_1 (k + 1) := by
 intro p0 bY bS a1 a2 a3 a4 bZ bT b1 j2 c1 c2 c3 b3 c4 j4 w0 w h0 h r1 σ x1 xs2 r3 xs3 r st s1 s3 s5 s6 s26 s27 s28 s41 s42 s43 R7 R8 g4 R9 R10 R11 g5 R12 hd3 hd2 hj1 hx1 H
 cases xs3 with
 | nil =>
  rw [l3_1] at H
  have hk3 := cV hd3
  refine aB e3_40<|aA e3_41<|vv rfl (aP .lss .i64 (j4 : Int) (r3.1.length : Int) (.bool (decide ((j4 : Int) < (r3.1.length : Int)))) 3 3 s43 s42 rfl)<|aD<|aB e3_42<|fa e3_43 hk3 rfl<|bM e3_45 rfl<|aB e3_60 ?_
  obtain ⟨j5,hj5,H⟩ := dE H
  have Jj5 : ∀ {y1 : (List GNode)} {y2 : Int} {a5 : OA} {c5 : Nat} {σ1 : Env} {w8 : World} {h6 : Sto},Le h h6 → St w0 noM h0 h6 w8 → σ1 1 = .pointer (some ⟨b1,0,none⟩) → σ1 3 = .bool r1 → σ1 6 = .slice a4 r3.1.length c4 → σ1 26 = .slice bS p0.S.length bT → σ1 27 = I (p0.S.length : Int) → σ1 28 = I (j2 : Int) → σ1 85 = .slice a5 y1.length c5 → σ1 86 = I y2 → σ1 87 = I 0 → SlR h6 a4 c4 r3.1 → SlR h6 bS bT p0.S → Own 31 w0.heap.size h6 w8 a5 c5 y1 → j5 y1 y2 = some r → Run X3 [.code c3_62,.inBlock 1,.code c3_109,.inLoop c3_17,.inBlock 0,.code c3_110] σ1 w8 (.fn (Q3 w0 h0 r)) := by
   intro y1 y2 a5 c5 σ1 w8 h6 le3 st9 s1_j5 s3_j5 s6_j5 s26_j5 s27_j5 s28_j5 s85_j5 s86_j5 s87_j5 R13 R14 O1 H
   rw [hj5] at H
   refine aT e3_62<|cB e3_63 ?_
   obtain ⟨h7,le4,st10,R15,kp2⟩ := O1.frz st9 (Nat.le_refl _)
   exact ih.2.2.1 st10 s1_j5 s3_j5 s6_j5 s26_j5 s27_j5 s28_j5 s85_j5 s86_j5 s87_j5 (SlR.mono (le3.trans le4) R7) (SlR.mono (le3.trans le4) R8) ((le3.trans le4) _ _ g4) (SlR.mono le4 R13) (SlR.mono le4 R14) R15 hd2 hj1 hx1 H
  obtain ⟨bV,hrd1_8_2,H⟩ := aK H
  obtain ⟨hsd1_9_1,H⟩ := cD H
  refine dW [[(0,false),(1,false),(2,false),(3,false),(4,false),(6,false),(7,false),(11,false),(5,true),(8,true),(9,true),(10,false)],[(0,false),(1,false),(2,false),(3,false),(4,false),(6,false),(7,false),(11,false),(8,true),(5,true),(9,true),(10,false)]] [5,8,9] [0,1,2,3,4,5,6,7,8,9,10,11] [0,1,2,3,4,5,6,7,8,9,10,11] (fun w_ => Has h w_ ∧ True) e3_61 k3_61 m3_61 (fun w7 al3 => ?_)
  have sp7 := al3.st st.has
  have st8 := st.call0 sp7
  refine ⟨⟨Has.le (Le.refl _) st8.has,trivial⟩,?_,?_,trivial⟩
  · refine bI rfl rfl (fun w_ ok_ => aF (b := b3) (o := 0) fl33_0 s5)<|bI rfl rfl (fun w_ ok_ => aL (.string x1.Name) sc9 rfl ((aQ (ok_.1 _ _ g5)).trans rfl))<|bI rfl rfl (fun w_ ok_ => aF (b := b3) (o := 0) fl33_1 s5)<|bI rfl rfl (fun w_ ok_ => aL (.slice a1 x1.Index.length c1) sc28 rfl ((aQ (ok_.1 _ _ g5)).trans rfl))<|bI rfl rfl (fun w_ ok_ => dK (vs := [I 0,I 0,.string x1.Name,.slice a1 x1.Index.length c1,.slice none 0 0]) [(2,.string x1.Name),(3,.slice a1 x1.Index.length c1)] bd31 rfl rfl)<|bI rfl rfl (fun w_ ok_ => aF (b := b3) (o := 0) fl33_2 s5)<|bI rfl rfl (fun w_ ok_ => bH [I x1.E.Op,I x1.E.N,.string x1.E.Name,.slice a2 x1.E.Index.length c2,.slice a3 x1.E.L.length c3] ag31 cX rfl rfl (aY (ok_.1 _ _ g5) rfl))<|bI rfl rfl (fun w_ ok_ => aE (I 0) rfl)<|dr_c rfl (dU [I 0,I 0,.string ByteArray.empty,.slice none 0 0,.slice none 0 0] [I 0,I 0,.string x1.Name,.slice a1 x1.Index.length c1,.slice none 0 0] [(0,.agg #[I 0,I 0,.string x1.Name,.slice a1 x1.Index.length c1,.slice none 0 0])] u29 cX zr31 rfl rfl rfl (by kernel_rfl) rfl (by kernel_rfl) (fun bd1_5_1 wd1_5_2 ald1_5_3 => ?_))
    have lid1_5_8 : Lits h [[I 0,I 0,.string x1.Name,.slice a1 x1.Index.length c1,.slice none 0 0]] ([(⟨0,0,x1.Name,x1.Index,[]⟩ : GNode)] : List GNode) := (Lits.cons (GNode.into (h := h) (x := (⟨0,0,x1.Name,x1.Index,[]⟩ : GNode)) R9 (SlR.none _)) Lits.nil)
    have Md1_5_9 := Mut.new st8 ald1_5_3
    have lbd1_5_10 := st8.alB ald1_5_3
    have spd1_5_7 := ald1_5_3.st st8.has
    have std1_5_13 := st8.call0 spd1_5_7
    have Od1_5_11 : Own 31 w0.heap.size _ _ _ _ ([(⟨0,0,x1.Name,x1.Index,[]⟩ : GNode)] : List GNode) := Lits.own (n := 1) lid1_5_8 rfl rfl (by decide) Md1_5_9 lbd1_5_10
    refine ⟨.inr ⟨Has.le (Le.refl _) std1_5_13.has,trivial⟩,?_⟩
    refine dr_c rfl (fJ [.agg #[I x1.E.Op,I x1.E.N,.string x1.E.Name,.slice a2 x1.E.Index.length c2,.slice a3 x1.E.L.length c3]] en12 rfl rfl (F12 k (p0 := x1.E) std1_5_13.has R10 R11 hrd1_8_2) ?_)
    rintro _ wd1_8_3 ⟨eV,eW,hd1_8_4,rfl,cM,Rd1_8_8⟩
    have Od1_8_9 := Od1_5_11.call0 cM
    have eL := std1_5_13.call0 cM
    refine ⟨.inr ⟨Has.le cM.le eL.has,trivial⟩,?_⟩
    refine dr_c rfl (od_append (α := GNode) (B := w0.heap.size) (l := ([(⟨0,0,x1.Name,x1.Index,[]⟩ : GNode)] : List GNode)) (l2 := bV) u29 u29 ap31 rfl rfl rfl eL.has eL.sp.size Od1_8_9 Rd1_8_8 rfl rfl hsd1_9_1 (fun ad1_9_2 cd1_9_3 wd1_9_4 Od1_9_5 spd1_9_6 bld1_9_7 => ?_))
    have std1_9_8 := eL.call spd1_9_6 (fun x e => (.inl (Od1_8_9.lbs x e)))
    refine ⟨.inr ⟨Has.le cM.le std1_9_8.has,trivial⟩,?_⟩
    refine bI rfl rfl (fun w_ ok_ => bN u29 rfl)<|dZ ?_
    exact Jj5 cM.le std1_9_8 s1 s3 s6 s26 s27 s28 rfl rfl rfl (SlR.mono cM.le R12) (SlR.mono cM.le R8) Od1_9_5 H
  refine bI rfl rfl (fun w_ ok_ => aF (b := b3) (o := 0) fl33_0 s5)<|bI rfl rfl (fun w_ ok_ => aL (.string x1.Name) sc9 rfl ((aQ (ok_.1 _ _ g5)).trans rfl))<|bI rfl rfl (fun w_ ok_ => aF (b := b3) (o := 0) fl33_1 s5)<|bI rfl rfl (fun w_ ok_ => aL (.slice a1 x1.Index.length c1) sc28 rfl ((aQ (ok_.1 _ _ g5)).trans rfl))<|bI rfl rfl (fun w_ ok_ => dK (vs := [I 0,I 0,.string x1.Name,.slice a1 x1.Index.length c1,.slice none 0 0]) [(2,.string x1.Name),(3,.slice a1 x1.Index.length c1)] bd31 rfl rfl)<|bI rfl rfl (fun w_ ok_ => aF (b := b3) (o := 0) fl33_2 s5)<|bI rfl rfl (fun w_ ok_ => bH [I x1.E.Op,I x1.E.N,.string x1.E.Name,.slice a2 x1.E.Index.length c2,.slice a3 x1.E.L.length c3] ag31 cX rfl rfl (aY (ok_.1 _ _ g5) rfl))<|bI rfl rfl (fun w_ ok_ => aE (I 0) rfl) ?_
  refine dr_c rfl (fJ [.agg #[I x1.E.Op,I x1.E.N,.string x1.E.Name,.slice a2 x1.E.Index.length c2,.slice a3 x1.E.L.length c3]] en12 rfl rfl (F12 k (p0 := x1.E) st8.has R10 R11 hrd1_8_2) ?_)
  rintro _ wd1_8_3 ⟨eV,eW,hd1_8_4,rfl,cM,Rd1_8_8⟩
  have fW := st8.call0 cM
  refine ⟨.inr ⟨Has.le cM.le fW.has,trivial⟩,?_⟩
  refine dr_c rfl (dU [I 0,I 0,.string ByteArray.empty,.slice none 0 0,.slice none 0 0] [I 0,I 0,.string x1.Name,.slice a1 x1.Index.length c1,.slice none 0 0] [(0,.agg #[I 0,I 0,.string x1.Name,.slice a1 x1.Index.length c1,.slice none 0 0])] u29 cX zr31 rfl rfl rfl (by kernel_rfl) rfl (by kernel_rfl) (fun bd1_5_1 wd1_5_2 ald1_5_3 => ?_))
  have lid1_5_8 : Lits hd1_8_4 [[I 0,I 0,.string x1.Name,.slice a1 x1.Index.length c1,.slice none 0 0]] ([(⟨0,0,x1.Name,x1.Index,[]⟩ : GNode)] : List GNode) := (Lits.cons (GNode.into (h := hd1_8_4) (x := (⟨0,0,x1.Name,x1.Index,[]⟩ : GNode)) (SlR.mono cM.le R9) (SlR.none _)) Lits.nil)
  have Md1_5_9 := Mut.new fW ald1_5_3
  have lbd1_5_10 := fW.alB ald1_5_3
  have spd1_5_7 := ald1_5_3.st fW.has
  have std1_5_13 := fW.call0 spd1_5_7
  have Od1_5_11 : Own 31 w0.heap.size _ _ _ _ ([(⟨0,0,x1.Name,x1.Index,[]⟩ : GNode)] : List GNode) := Lits.own (n := 1) lid1_5_8 rfl rfl (by decide) Md1_5_9 lbd1_5_10
  refine ⟨.inr ⟨Has.le cM.le std1_5_13.has,trivial⟩,?_⟩
  refine dr_c rfl (od_append (α := GNode) (B := w0.heap.size) (l := ([(⟨0,0,x1.Name,x1.Index,[]⟩ : GNode)] : List GNode)) (l2 := bV) u29 u29 ap31 rfl rfl rfl std1_5_13.has std1_5_13.sp.size Od1_5_11 Rd1_8_8 rfl rfl hsd1_9_1 (fun ad1_9_2 cd1_9_3 wd1_9_4 Od1_9_5 spd1_9_6 bld1_9_7 => ?_))
  have std1_9_8 := std1_5_13.call spd1_9_6 (fun x e => (.inl (Od1_5_11.lbs x e)))
  refine ⟨.inr ⟨Has.le cM.le std1_9_8.has,trivial⟩,?_⟩
  refine bI rfl rfl (fun w_ ok_ => bN u29 rfl)<|dZ ?_
  exact Jj5 cM.le std1_9_8 s1 s3 s6 s26 s27 s28 rfl rfl rfl (SlR.mono cM.le R12) (SlR.mono cM.le R8) Od1_9_5 H
 | cons x2 xs4 =>
  rw [l3_1] at H
  obtain ⟨hk4,hj2,hx2,hd4⟩ := cL hd3
  refine aB e3_40<|aA e3_41<|vv rfl (aP .lss .i64 (j4 : Int) (r3.1.length : Int) (.bool (decide ((j4 : Int) < (r3.1.length : Int)))) 3 3 s43 s42 rfl)<|aD<|aB e3_42<|tr e3_43 hk4 rfl<|aM e3_44<|aB e3_46<|aT e3_47<|aB e3_48 ?_
  refine aA e3_49<|vv rfl (aE (I (j4 : Int)) s43) ?_
  obtain ⟨b9,o5,vs5,ea5,rp5,cl5⟩ := SlR.at R12 hx2
  obtain rfl := GDim.out rp5
  refine vv rfl (aX u34 sz39 s41 s43 ea5 (Int.natCast_nonneg _) (Int.ofNat_lt.2 hj2))<|vv rfl (bH [.string x2.Name,I x2.Size] ag39 sz39 rfl rfl (cl5 _ (Has.le (Le.refl _) st.has)))<|cF (.agg #[.string ByteArray.empty,I 0]) zr39 rfl rfl (fun b10 w15 al6 => ?_)
  replace al6 : Al _ (.cells (List.toArray [.string ByteArray.empty,I 0]) 39 (0,0)) b10 w15 := al6
  have M7 := Mut.new st al6
  have lb4 := st.alB al6
  have sp14 := al6.st st.has
  have st19 := st.call0 sp14
  refine vv rfl (aC (I (j4 : Int)) rfl)<|aV (o := 0) (n := 2) [.string x2.Name,I x2.Size] [.string x2.Name,I x2.Size] (.agg #[.string x2.Name,I x2.Size]) sz39 rfl rfl rfl rfl M7 rfl rfl rfl rfl rfl (fun w16 wr4 M8 => ?_)
  have sp15 := wr4.st st19.has M7.none
  have st20 := st19.call sp15 (fun x e => (.inl (e ▸ lb4)))
  obtain ⟨h12,le7,g11,st21,kp5⟩ := M8.fz st20 lb4
  refine aD<|aB e3_50 ?_
  refine dW [[(0,false),(1,false),(2,false),(3,false),(4,false),(5,true),(6,false),(7,false),(8,false),(9,false),(10,false)]] [5] [0,1,2,3,4,5,6,7,8,9,10] [0,1,2,3,4,5,6,7,9,8,10] (fun w_ => Has h12 w_ ∧ True) e3_51 k3_51 m3_51 (fun w17 al7 => ?_)
  have sp16 := al7.st st21.has
  have st22 := st21.call0 sp16
  refine ⟨⟨Has.le (Le.refl _) st22.has,trivial⟩,?_,trivial⟩
  refine bI rfl rfl (fun w_ ok_ => aE (.slice a4 r3.1.length c4) s6)<|bI rfl rfl (fun w_ ok_ => aE (I (j4 : Int)) rfl) ?_
  obtain ⟨hsd2_2_1,H⟩ := cD H
  obtain ⟨ad2_2_3,cd2_2_4,had2_2_5,hcd2_2_6,Rd2_2_2⟩ := SlR.slice2 (lo := 0) (hi := (j4 : Int)) (SlR.mono le7 R12) hsd2_2_1.1 hsd2_2_1.2.1 hsd2_2_1.2.2
  refine bI rfl rfl (fun w_ ok_ => eY (l := 0) (h := (j4 : Int)) (kl := .i64) (kh := .i64) r3.1 rfl u34 sz39 rfl rfl rfl hsd2_2_1.1 hsd2_2_1.2.1 hsd2_2_1.2.2 (SlR.mono le7 R12).lc had2_2_5 hcd2_2_6)<|bI rfl rfl (fun w_ ok_ => aF (b := b10) (o := 0) fl39_0 rfl)<|bI rfl rfl (fun w_ ok_ => aL (.string x2.Name) sc9 rfl ((aQ (ok_.1 _ _ g11)).trans rfl)) ?_
  obtain ⟨rd2_5_1,hrd2_5_2,H⟩ := aK H
  refine dr_c rfl (fJ [.slice ad2_2_3 (((r3.1.take ((j4 : Int) : Int).toNat).drop (0 : Int).toNat).length) cd2_2_4,.string x2.Name] en11 rfl rfl (F11 k st22.has Rd2_2_2 hrd2_5_2) ?_)
  rintro _ wd2_5_3 ⟨hd2_5_4,rfl,dX⟩
  have std2_5_6 := st22.call0 dX
  refine ⟨.inr ⟨Has.le dX.le std2_5_6.has,trivial⟩,?_⟩
  refine bI rfl rfl (fun w_ ok_ => aE (.tuple #[I rd2_5_1.1,.bool rd2_5_1.2]) rfl)<|bI rfl rfl (fun w_ ok_ => bJ (I rd2_5_1.1) rfl rfl)<|bI rfl rfl (fun w_ ok_ => bJ (.bool rd2_5_1.2) rfl rfl)<|bI rfl rfl (fun w_ ok_ => aC (I rd2_5_1.1) rfl)<|bI rfl rfl (fun w_ ok_ => aC (.bool rd2_5_1.2) rfl)<|dZ<|aB e3_52 ?_
  obtain ⟨j10,hj10,H⟩ := dE H
  have Jj10 : ∀  {σ2 : Env} {w19 : World} {h13 : Sto},Le hd2_5_4 h13 → St w0 noM h0 h13 w19 → σ2 1 = .pointer (some ⟨b1,0,none⟩) → σ2 3 = .bool r1 → σ2 5 = .pointer (some ⟨b3,0,none⟩) → σ2 6 = .slice a4 r3.1.length c4 → σ2 26 = .slice bS p0.S.length bT → σ2 27 = I (p0.S.length : Int) → σ2 28 = I (j2 : Int) → σ2 41 = .slice a4 r3.1.length c4 → σ2 42 = I (r3.1.length : Int) → σ2 43 = I (j4 : Int) → SlR h13 a4 c4 r3.1 → SlR h13 bS bT p0.S → SlR h13 a4 c4 r3.1 → j10 () = some r → Run X3 [.inBlock 3,.code c3_59,.inLoop c3_40,.inBlock 2,.code c3_60,.inBlock 1,.code c3_109,.inLoop c3_17,.inBlock 0,.code c3_110] σ2 w19 (.fn (Q3 w0 h0 r)) := by
   intro σ2 w19 h13 le8 st24 s1_j10 s3_j10 s5_j10 s6_j10 s26_j10 s27_j10 s28_j10 s41_j10 s42_j10 s43_j10 R31 R32 R33 H
   rw [hj10] at H
   refine aW<|aA e3_59<|vv rfl (aP .add .i64 (j4 : Int) 1 (I ((j4 + 1 : Nat) : Int)) 3 3 s43_j10 rfl (dL hj2 R31.mx))<|vv rfl (aE (I ((j4 + 1 : Nat) : Int)) rfl)<|aD<|bF ?_
   exact ih.2.1 (j4 := (j4 + 1)) st24 s1_j10 s3_j10 s5_j10 s6_j10 s26_j10 s27_j10 s28_j10 s41_j10 s42_j10 rfl (SlR.mono (le7.trans (dX.le.trans le8)) R7) (SlR.mono (le7.trans (dX.le.trans le8)) R8) ((le7.trans (dX.le.trans le8)) _ _ g4) (SlR.mono (le7.trans (dX.le.trans le8)) R9) (SlR.mono (le7.trans (dX.le.trans le8)) R10) (SlR.mono (le7.trans (dX.le.trans le8)) R11) ((le7.trans (dX.le.trans le8)) _ _ g5) R31 hd4 hd2 hj1 hx1 H
  refine dW [[(0,false),(1,false),(2,false),(3,false),(4,false),(5,false),(6,false),(7,false),(8,false),(9,false),(10,false),(11,false),(12,false),(13,false),(14,false),(15,false),(16,false),(17,false)]] [] [0,1,2,3,4,5,6,7,8,9,10,11,12,13,14,15,16,17] [0,1,2,3,4,5,6,7,8,9,10,11,12,13,14,15,16,17] (fun w_ => Has hd2_5_4 w_ ∧ True) e3_53 k3_53 m3_53 (fun w18 al8 => ?_)
  have sp17 := al8.st std2_5_6.has
  have st23 := std2_5_6.call0 sp17
  refine ⟨⟨Has.le (Le.refl _) st23.has,trivial⟩,?_,trivial⟩
  refine bI rfl rfl (fun w_ ok_ => aE (.bool rd2_5_1.2) rfl)<|bI rfl rfl (fun w_ ok_ => aE (.bool rd2_5_1.2) rfl) ?_
  rcases aN H with ⟨hc8,H⟩ | ⟨hc8,H⟩
  · refine dP rfl (wf2 hc8 rfl)<|dP rfl (wf2 hc8 rfl)<|dP rfl (wf2 hc8 rfl)<|dP rfl (wf2 hc8 rfl)<|dP rfl (wf2 hc8 rfl)<|dP rfl (wf2 hc8 rfl)<|dP rfl (wu rfl)<|dP rfl (wu rfl)<|dP rfl (wu rfl)<|dP rfl (wu rfl) ?_
    refine dP rfl (wu rfl)<|dP rfl (wu rfl)<|dP rfl (wu rfl)<|dP rfl (wu rfl)<|dP rfl (wf2 hc8 rfl)<|bI rfl rfl (fun w_ ok_ => dH (.bool true) hc8 rfl rfl)<|dZ<|cQ e3_54 (p := true) rfl rfl<|aB e3_55<|aA e3_56 ?_
    refine vv rfl (aC (.bool false) rfl)<|aD ?_
    cases H
    exact aJ e3_57 (cG Try.results3 rfl ⟨hd2_5_4,rfl,st23⟩)
  refine bI rfl (wt2 (cA hc8) rfl) (fun w_ ok_ => aE (I (j4 : Int)) rfl)<|bI rfl (wt2 (cA hc8) rfl) (fun w_ ok_ => aF (b := b3) (o := 0) fl33_1 s5)<|bI rfl (wt2 (cA hc8) rfl) (fun w_ ok_ => aL (.slice a1 x1.Index.length c1) sc28 rfl ((aQ (ok_.1 _ _ ((le7.trans dX.le) _ _ g5))).trans rfl))<|bI rfl (wt2 (cA hc8) rfl) (fun w_ ok_ => bN u28 rfl)<|bI rfl (wt2 (cA hc8) rfl) (fun w_ ok_ => aP .lss .i64 (j4 : Int) (x1.Index.length : Int) (.bool (decide ((j4 : Int) < (x1.Index.length : Int)))) 3 3 rfl rfl rfl)<|bI rfl (wt2 (cA hc8) rfl) (fun w_ ok_ => aE (.bool (decide ((j4 : Int) < (x1.Index.length : Int)))) rfl) ?_
  rcases aN H with ⟨hc9,H⟩ | ⟨hc9,H⟩
  · refine bI rfl (wt2 (dT hc9) rfl) (fun w_ ok_ => aF (b := b3) (o := 0) fl33_1 s5)<|bI rfl (wt2 (dT hc9) rfl) (fun w_ ok_ => aL (.slice a1 x1.Index.length c1) sc28 rfl ((aQ (ok_.1 _ _ ((le7.trans dX.le) _ _ g5))).trans rfl))<|bI rfl (wt2 (dT hc9) rfl) (fun w_ ok_ => aE (I (j4 : Int)) rfl) ?_
    obtain ⟨xd3_11_1,hxd3_11_2,H⟩ := aK H
    have hid3_11_3 := dB hxd3_11_2
    obtain ⟨bd3_11_4,od3_11_5,vsd3_11_6,ead3_11_7,rpd3_11_8,cld3_11_9⟩ := SlR.at (SlR.mono (le7.trans dX.le) R9) hid3_11_3.2.2
    obtain rfl := rpd3_11_8
    refine bI rfl (wt2 (dT hc9) rfl) (fun w_ ok_ => aX u28 sz9 rfl rfl ead3_11_7 hid3_11_3.1 hid3_11_3.2.1)<|bI rfl (wt2 (dT hc9) rfl) (fun w_ ok_ => aL (.string xd3_11_1) sc9 rfl (((cld3_11_9 _ (Has.le (Le.refl _) ok_.1)) 0 (by decide)).trans rfl))<|bI rfl (wt2 (dT hc9) rfl) (fun w_ ok_ => aF (b := b10) (o := 0) fl39_0 rfl)<|bI rfl (wt2 (dT hc9) rfl) (fun w_ ok_ => aL (.string x2.Name) sc9 rfl ((aQ (ok_.1 _ _ (dX.le _ _ g11))).trans rfl))<|bI rfl (wt2 (dT hc9) rfl) (fun w_ ok_ => x_strNe xd3_11_1 x2.Name 9 9 rfl rfl)<|bI rfl (wt2 (cA hc8) rfl) (fun w_ ok_ => dH (.bool (!decide (xd3_11_1 = x2.Name))) (dT hc9) rfl rfl)<|bI rfl rfl (fun w_ ok_ => dI (.bool (!decide (xd3_11_1 = x2.Name))) (cA hc8) rfl rfl)<|dZ ?_
    rcases aN H with ⟨hc10,H⟩ | ⟨hc10,H⟩
    · refine fa e3_54 (bL (dT hc10)) rfl<|aM e3_58 ?_
      exact Jj10 (Le.refl _) st23 s1 s3 s5 s6 s26 s27 s28 s41 s42 s43 (SlR.mono (le7.trans dX.le) R12) (SlR.mono (le7.trans dX.le) R8) (SlR.mono (le7.trans dX.le) R12) H
    refine tr e3_54 (bK (dF hc10)) rfl<|aB e3_55<|aA e3_56<|vv rfl (aC (.bool false) rfl)<|aD ?_
    cases H
    exact aJ e3_57 (cG Try.results3 rfl ⟨hd2_5_4,rfl,st23⟩)
  refine dP rfl (wf2 (dF hc9) rfl)<|dP rfl (wf2 (dF hc9) rfl)<|dP rfl (wf2 (dF hc9) rfl)<|dP rfl (wf2 (dF hc9) rfl)<|dP rfl (wf2 (dF hc9) rfl)<|dP rfl (wf2 (dF hc9) rfl)<|dP rfl (wf2 (dF hc9) rfl)<|dP rfl (wf2 (dF hc9) rfl)<|bI rfl (wt2 (cA hc8) rfl) (fun w_ ok_ => dI (.bool false) (dF hc9) rfl rfl)<|bI rfl rfl (fun w_ ok_ => dI (.bool false) (cA hc8) rfl rfl) ?_
  refine dZ<|dJ e3_54 (p := false) rfl rfl<|aM e3_58 ?_
  exact Jj10 (Le.refl _) st23 s1 s3 s5 s6 s26 s27 s28 s41 s42 s43 (SlR.mono (le7.trans dX.le) R12) (SlR.mono (le7.trans dX.le) R8) (SlR.mono (le7.trans dX.le) R12) H
theorem SLl3_2_z : SLl3_2 0 := by
  unfold SLl3_2; intros; rename_i H; exact absurd H (by simp [l3_2])
theorem SLl3_2_s (k : Nat) (ih : ZSLl3_0 k) : SLl3_2 (k + 1) := by
 intro p0 bY bS a4 a5 bZ bT b1 j2 c4 c5 w0 w h0 h r1 σ x1 xs2 r3 y1 y2 i1 r st s1 s3 s6 s26 s27 s28 s85 s86 s87 R16 R17 g6 R18 R19 R20 hd2 hj1 hx1 H
 rw [l3_2] at H
 refine aB e3_64<|aA e3_65<|vv rfl (aP .lss .i64 i1 y2 (.bool (decide (i1 < y2))) 3 3 s87 s86 rfl)<|aD<|aB e3_66 ?_
 rcases aN H with ⟨hc3,H⟩ | ⟨hc3,H⟩
 · refine tr e3_67 (dT hc3) rfl<|aM e3_68<|aB e3_70<|aT e3_71<|aB e3_72<|aA e3_73 ?_
   obtain ⟨x3,hx3,H⟩ := aK H
   have hi1 := dB hx3
   obtain ⟨b4,o2,vs2,ea2,rp2,cl2⟩ := SlR.at R20 hi1.2.2
   obtain ⟨a6,c6,a7,c7,rfl,R21,R22⟩ := GNode.out rp2
   refine vv rfl (aX u29 cX s85 s87 ea2 hi1.1 hi1.2.1)<|vv rfl (bH [I x3.Op,I x3.N,.string x3.Name,.slice a6 x3.Index.length c6,.slice a7 x3.L.length c7] ag31 cX rfl rfl (cl2 _ (Has.le (Le.refl _) st.has)))<|cF (.agg #[I 0,I 0,.string ByteArray.empty,.slice none 0 0,.slice none 0 0]) zr31 rfl rfl (fun b5 w9 al4 => ?_)
   replace al4 : Al _ (.cells (List.toArray [I 0,I 0,.string ByteArray.empty,.slice none 0 0,.slice none 0 0]) 31 (0,0)) b5 w9 := al4
   have M3 := Mut.new st al4
   have lb2 := st.alB al4
   have sp8 := al4.st st.has
   have st11 := st.call0 sp8
   refine aV (o := 0) (n := 5) [I x3.Op,I x3.N,.string x3.Name,.slice a6 x3.Index.length c6,.slice a7 x3.L.length c7] [I x3.Op,I x3.N,.string x3.Name,.slice a6 x3.Index.length c6,.slice a7 x3.L.length c7] (.agg #[I x3.Op,I x3.N,.string x3.Name,.slice a6 x3.Index.length c6,.slice a7 x3.L.length c7]) cX rfl rfl rfl rfl M3 rfl rfl rfl rfl rfl (fun w10 wr2 M4 => ?_)
   have sp9 := wr2.st st11.has M3.none
   have st12 := st11.call sp9 (fun x e => (.inl (e ▸ lb2)))
   obtain ⟨h8,le5,g7,st13,kp3⟩ := M4.fz st12 lb2
   refine aD<|aB e3_74<|aA e3_75<|vv rfl (aF (b := b5) (o := 0) fl31_2 rfl)<|vv rfl (aL (.string x3.Name) sc9 rfl ((aQ (st13.has _ _ g7)).trans rfl))<|vv rfl (aF (b := b1) (o := 0) fl25_0 s1)<|vv rfl (aL (.slice bY p0.D.length bZ) sc22 rfl ((aQ (st13.has _ _ (le5 _ _ g6))).trans rfl)) ?_
   obtain ⟨r4,hr4,H⟩ := aK H
   refine aU [.string x3.Name,.slice bY p0.D.length bZ] en13 rfl rfl rfl (F13 k st13.has (SlR.mono le5 R16) hr4) ?_
   rintro _ w11 ⟨a8,c8,h9,rfl,sp10,R23⟩
   have st14 := st13.call0 sp10
   refine vv rfl (aE (.tuple #[.agg #[.string r4.1.Name,.slice a8 r4.1.Shape.length c8,.string r4.1.Form,I r4.1.Block],.bool r4.2]) rfl)<|vv rfl (bJ (.agg #[.string r4.1.Name,.slice a8 r4.1.Shape.length c8,.string r4.1.Form,I r4.1.Block]) rfl rfl)<|vv rfl (bJ (.bool r4.2) rfl rfl)<|cF (.agg #[.string ByteArray.empty,.slice none 0 0,.string ByteArray.empty,I 0]) zr45 rfl rfl (fun b6 w12 al5 => ?_)
   replace al5 : Al _ (.cells (List.toArray [.string ByteArray.empty,.slice none 0 0,.string ByteArray.empty,I 0]) 45 (0,0)) b6 w12 := al5
   have M5 := Mut.new st14 al5
   have lb3 := st14.alB al5
   have sp11 := al5.st st14.has
   have st15 := st14.call0 sp11
   refine aV (o := 0) (n := 4) [.string r4.1.Name,.slice a8 r4.1.Shape.length c8,.string r4.1.Form,I r4.1.Block] [.string r4.1.Name,.slice a8 r4.1.Shape.length c8,.string r4.1.Form,I r4.1.Block] (.agg #[.string r4.1.Name,.slice a8 r4.1.Shape.length c8,.string r4.1.Form,I r4.1.Block]) sz45 rfl rfl rfl rfl M5 rfl rfl rfl rfl rfl (fun w13 wr3 M6 => ?_)
   have sp12 := wr3.st st15.has M5.none
   have st16 := st15.call sp12 (fun x e => (.inl (e ▸ lb3)))
   obtain ⟨h10,le6,g8,st17,kp4⟩ := M6.fz st16 lb3
   refine vv rfl (aC (.bool r4.2) rfl)<|aD<|aB e3_76<|aB e3_77<|aA e3_78<|vv rfl (aE (.bool r4.2) rfl)<|vv rfl (eA r4.2 4 rfl)<|vv rfl (aE (.bool (!r4.2)) rfl) ?_
   rcases aN H with ⟨hc4,H⟩ | ⟨hc4,H⟩
   · refine aZ (wt2 (bL hc4) rfl) rfl (aF (b := b6) (o := 0) fl45_1 rfl)<|aZ (wt2 (bL hc4) rfl) rfl (aL (.slice a8 r4.1.Shape.length c8) sc43 rfl ((aQ (st17.has _ _ g8)).trans rfl))<|aZ (wt2 (bL hc4) rfl) rfl (bN u43 rfl)<|aZ (wt2 (bL hc4) rfl) rfl (aF (b := b5) (o := 0) fl31_3 rfl)<|aZ (wt2 (bL hc4) rfl) rfl (aL (.slice a6 x3.Index.length c6) sc28 rfl ((aQ (st17.has _ _ ((sp10.le.trans le6) _ _ g7))).trans rfl))<|aZ (wt2 (bL hc4) rfl) rfl (bN u28 rfl)<|aZ (wt2 (bL hc4) rfl) rfl (aP .neq .i64 (r4.1.Shape.length : Int) (x3.Index.length : Int) (.bool (!decide ((r4.1.Shape.length : Int) = (x3.Index.length : Int)))) 3 3 rfl rfl rfl)<|vv rfl (dI (.bool (!decide ((r4.1.Shape.length : Int) = (x3.Index.length : Int)))) (bL hc4) rfl rfl)<|aD ?_
     rcases aN H with ⟨hc5,H⟩ | ⟨hc5,H⟩
     · refine fa e3_79 (bL (dT hc5)) rfl<|aM e3_83<|aB e3_84<|aA e3_85<|vv rfl (aF (b := b5) (o := 0) fl31_3 rfl)<|vv rfl (aL (.slice a6 x3.Index.length c6) sc28 rfl ((aQ (st17.has _ _ ((sp10.le.trans le6) _ _ g7))).trans rfl))<|vv rfl (bN u28 rfl)<|vv rfl (aE (I 0) rfl)<|aD<|aT e3_86 ?_
       refine cB e3_87 ?_
       exact ih.2.2.2 (j8 := 0) st17 s1 s3 s6 rfl s26 s27 s28 s85 s86 s87 rfl rfl rfl (SlR.mono (le5.trans (sp10.le.trans le6)) R16) (SlR.mono (le5.trans (sp10.le.trans le6)) R17) ((le5.trans (sp10.le.trans le6)) _ _ g6) (SlR.mono (le5.trans (sp10.le.trans le6)) R18) (SlR.mono le6 R23) g8 (SlR.mono (le5.trans (sp10.le.trans le6)) R19) (SlR.mono (le5.trans (sp10.le.trans le6)) R20) (SlR.mono (le5.trans (sp10.le.trans le6)) R21) rfl hd2 hj1 hx1 H
     refine tr e3_79 (bK (dF hc5)) rfl<|aB e3_80<|aA e3_81<|vv rfl (aC (.bool false) rfl)<|aD ?_
     cases H
     exact aJ e3_82 (cG Try.results3 rfl ⟨h10,rfl,st17⟩)
   refine aR (wf2 (bK (cA hc4)) rfl) rfl<|aR (wf2 (bK (cA hc4)) rfl) rfl<|aR (wf2 (bK (cA hc4)) rfl) rfl<|aR (wf2 (bK (cA hc4)) rfl) rfl<|aR (wf2 (bK (cA hc4)) rfl) rfl<|aR (wf2 (bK (cA hc4)) rfl) rfl<|aR (wf2 (bK (cA hc4)) rfl) rfl<|vv rfl (dH (.bool true) (bK (cA hc4)) rfl rfl)<|aD<|cQ e3_79 (p := true) rfl rfl ?_
   refine aB e3_80<|aA e3_81<|vv rfl (aC (.bool false) rfl)<|aD ?_
   cases H
   exact aJ e3_82 (cG Try.results3 rfl ⟨h10,rfl,st17⟩)
 refine fa e3_67 (dF hc3) rfl<|bM e3_69 rfl<|aW<|aA e3_109<|vv rfl (aP .add .i64 (j2 : Int) 1 (I ((j2 + 1 : Nat) : Int)) 3 3 s28 rfl (dL hj1 R19.mx))<|vv rfl (aE (I ((j2 + 1 : Nat) : Int)) rfl)<|aD<|bF ?_
 exact ih.1 (j2 := (j2 + 1)) st s1 s3 s26 s27 rfl R16 R17 g6 hd2 H
theorem SLl3_3_z : SLl3_3 0 := by
  unfold SLl3_3; intros; rename_i H; exact absurd H (by simp [l3_3])
theorem SLl3_3_s (k : Nat) (ih : ZSLl3_0 k) : SLl3_3 (k + 1) := by
 intro p0 bY bS a4 a5 a6 a8 bZ bT b1 j2 c4 c5 c6 c8 b6 j8 w0 w h0 h r1 σ x1 xs2 r3 y1 y2 i1 x3 r4 xs5 r st s1 s3 s6 s14 s26 s27 s28 s85 s86 s87 s111 s112 s113 R24 R25 g9 R26 R27 g10 R28 R29 R30 hd5 hd2 hj1 hx1 H
 cases xs5 with
 | nil =>
  rw [l3_3] at H
  have hk5 := cV hd5
  refine aB e3_88<|aA e3_89<|vv rfl (aP .lss .i64 (j8 : Int) (x3.Index.length : Int) (.bool (decide ((j8 : Int) < (x3.Index.length : Int)))) 3 3 s113 s112 rfl)<|aD<|aB e3_90<|fa e3_91 hk5 rfl<|bM e3_93 rfl<|aW<|aA e3_108<|vv rfl (aP .add .i64 i1 1 (I (wr (i1 + 1))) 3 3 s87 rfl rfl) ?_
  refine vv rfl (aE (I (wr (i1 + 1))) rfl)<|aD<|bF ?_
  exact ih.2.2.1 st s1 s3 s6 s26 s27 s28 s85 s86 rfl R24 R25 g9 R26 R28 R29 hd2 hj1 hx1 H
 | cons x4 xs6 =>
  rw [l3_3] at H
  obtain ⟨hk6,hj3,hx4,hd6⟩ := cL hd5
  refine aB e3_88<|aA e3_89<|vv rfl (aP .lss .i64 (j8 : Int) (x3.Index.length : Int) (.bool (decide ((j8 : Int) < (x3.Index.length : Int)))) 3 3 s113 s112 rfl)<|aD<|aB e3_90<|tr e3_91 hk6 rfl<|aM e3_92<|aB e3_94<|aT e3_95<|aB e3_96 ?_
  refine aA e3_97<|vv rfl (aE (I (j8 : Int)) s113) ?_
  obtain ⟨b7,o3,vs3,ea3,rp3,cl3⟩ := SlR.at R30 hx4
  obtain rfl := rp3
  refine vv rfl (aX u28 sz9 s111 s113 ea3 (Int.natCast_nonneg _) (Int.ofNat_lt.2 hj3))<|vv rfl (aL (.string x4) sc9 rfl (((cl3 _ (Has.le (Le.refl _) st.has)) 0 (by decide)).trans rfl))<|vv rfl (aC (I (j8 : Int)) rfl)<|vv rfl (aC (.string x4) rfl)<|aD<|aB e3_98<|aA e3_99<|vv rfl (aE (.slice a4 r3.1.length c4) s6)<|vv rfl (aE (.string x4) rfl) ?_
  obtain ⟨r5,hr5,H⟩ := aK H
  refine aU [.slice a4 r3.1.length c4,.string x4] en11 rfl rfl rfl (F11 k st.has R26 hr5) ?_
  rintro _ w14 ⟨h11,rfl,sp13⟩
  have st18 := st.call0 sp13
  refine vv rfl (aE (.tuple #[I r5.1,.bool r5.2]) rfl)<|vv rfl (bJ (I r5.1) rfl rfl)<|vv rfl (bJ (.bool r5.2) rfl rfl)<|vv rfl (aC (I r5.1) rfl)<|vv rfl (aC (.bool r5.2) rfl)<|aD<|aB e3_100<|aA e3_101<|vv rfl (aE (.bool r5.2) rfl)<|vv rfl (eA r5.2 4 rfl) ?_
  refine vv rfl (aE (.bool (!r5.2)) rfl) ?_
  rcases aN H with ⟨hc6,H⟩ | ⟨hc6,H⟩
  · refine aZ (wt2 (bL hc6) rfl) rfl (aE (I r5.1) rfl)<|aZ (wt2 (bL hc6) rfl) rfl (aF (b := b6) (o := 0) fl45_1 s14)<|aZ (wt2 (bL hc6) rfl) rfl (aL (.slice a8 r4.1.Shape.length c8) sc43 rfl ((aQ (st18.has _ _ (sp13.le _ _ g10))).trans rfl))<|aZ (wt2 (bL hc6) rfl) rfl (aE (I (j8 : Int)) rfl) ?_
    obtain ⟨x5,hx5,H⟩ := aK H
    have hi2 := dB hx5
    obtain ⟨b8,o4,vs4,ea4,rp4,cl4⟩ := SlR.at (SlR.mono sp13.le R27) hi2.2.2
    obtain rfl := rp4
    refine aZ (wt2 (bL hc6) rfl) rfl (aX u43 sz3 rfl rfl ea4 hi2.1 hi2.2.1)<|aZ (wt2 (bL hc6) rfl) rfl (aL (I x5) sc3 rfl (((cl4 _ (Has.le (Le.refl _) st18.has)) 0 (by decide)).trans rfl))<|aZ (wt2 (bL hc6) rfl) rfl (aP .neq .i64 r5.1 x5 (.bool (!decide (r5.1 = x5))) 3 3 rfl rfl rfl)<|vv rfl (dI (.bool (!decide (r5.1 = x5))) (bL hc6) rfl rfl)<|aD ?_
    rcases aN H with ⟨hc7,H⟩ | ⟨hc7,H⟩
    · refine fa e3_102 (bL (dT hc7)) rfl<|aM e3_106<|aW<|aA e3_107<|vv rfl (aP .add .i64 (j8 : Int) 1 (I ((j8 + 1 : Nat) : Int)) 3 3 s113 rfl (dL hj3 (SlR.mono sp13.le R30).mx))<|vv rfl (aE (I ((j8 + 1 : Nat) : Int)) rfl)<|aD<|bF ?_
      exact ih.2.2.2 (j8 := (j8 + 1)) st18 s1 s3 s6 s14 s26 s27 s28 s85 s86 s87 s111 s112 rfl (SlR.mono sp13.le R24) (SlR.mono sp13.le R25) (sp13.le _ _ g9) (SlR.mono sp13.le R26) (SlR.mono sp13.le R27) (sp13.le _ _ g10) (SlR.mono sp13.le R28) (SlR.mono sp13.le R29) (SlR.mono sp13.le R30) hd6 hd2 hj1 hx1 H
    refine tr e3_102 (bK (dF hc7)) rfl<|aB e3_103<|aA e3_104<|vv rfl (aC (.bool false) rfl)<|aD ?_
    cases H
    exact aJ e3_105 (cG Try.results3 rfl ⟨h11,rfl,st18⟩)
  refine aR (wf2 (bK (cA hc6)) rfl) rfl<|aR (wf2 (bK (cA hc6)) rfl) rfl<|aR (wf2 (bK (cA hc6)) rfl) rfl<|aR (wf2 (bK (cA hc6)) rfl) rfl<|aR (wf2 (bK (cA hc6)) rfl) rfl<|aR (wf2 (bK (cA hc6)) rfl) rfl<|aR (wf2 (bK (cA hc6)) rfl) rfl<|vv rfl (dH (.bool true) (bK (cA hc6)) rfl rfl)<|aD<|cQ e3_102 (p := true) rfl rfl ?_
  refine aB e3_103<|aA e3_104<|vv rfl (aC (.bool false) rfl)<|aD ?_
  cases H
  exact aJ e3_105 (cG Try.results3 rfl ⟨h11,rfl,st18⟩)
theorem ZSLl3_0_all : ∀ k,ZSLl3_0 k
  | 0 => ⟨SLl3_0_z,SLl3_1_z,SLl3_2_z,SLl3_3_z⟩
  | k + 1 => ⟨SLl3_0_s k (ZSLl3_0_all k),SLl3_1_s k (ZSLl3_0_all k),SLl3_2_s k (ZSLl3_0_all k),SLl3_3_s k (ZSLl3_0_all k)⟩
theorem Fl3_0 (k : Nat) : SLl3_0 k := (ZSLl3_0_all k).1
theorem F3 (k : Nat) : S3 k := by
 intro p0 bY bS bZ bT w0 h0 hh Rp0_D Rp0_S r H
 unfold m3 at H
 refine aO (fn := Try.f3) Try.func3 rfl (Nat.le_of_ble_eq_true rfl) ?_
 show Run X3 [.code c3_0] (fun t => List.getD [.agg #[.slice bY p0.D.length bZ,.slice bS p0.S.length bT]] t undef) w0 (.fn (Q3 w0 h0 r))
 have st0 := St.init hh noM
 refine aB e3_0<|aA e3_1<|eF (.agg #[.slice bY p0.D.length bZ,.slice bS p0.S.length bT]) rfl rfl rfl (fun b1 w1 al1 => ?_)
 replace al1 : Al _ (.cells (List.toArray [.slice bY p0.D.length bZ,.slice bS p0.S.length bT]) 25 (0,0)) b1 w1 := al1
 obtain ⟨h1,le1,g1,sp1⟩ := al1.fz st0.has
 have st1 := st0.call0 sp1
 refine vv rfl (aC (.bool false) rfl)<|aD<|aB e3_2<|aA e3_3 ?_
 obtain ⟨r1,hr1,H⟩ := aK H
 refine aU [] en8 rfl rfl rfl (F8 k st1.has hr1) ?_
 rintro _ w2 ⟨h2,rfl,sp2⟩
 have st2 := st1.call0 sp2
 refine vv rfl (aC (.bool r1) rfl)<|aD<|aB e3_4<|aB e3_5<|aA e3_6<|vv rfl (bH [.slice bY p0.D.length bZ,.slice bS p0.S.length bT] ag25 sz25 rfl rfl (aY (st2.has _ _ (sp2.le _ _ g1)) rfl)) ?_
 obtain ⟨r2,hr2,H⟩ := aK H
 refine aU [.agg #[.slice bY p0.D.length bZ,.slice bS p0.S.length bT]] en9 rfl rfl rfl (F9 k (p0 := p0) st2.has (SlR.mono (le1.trans sp2.le) Rp0_D) (SlR.mono (le1.trans sp2.le) Rp0_S) hr2) ?_
 rintro _ w3 ⟨h3,rfl,sp3⟩
 have st3 := st2.call0 sp3
 refine vv rfl (eA r2 4 rfl)<|aD ?_
 rcases aN H with ⟨hc1,H⟩ | ⟨hc1,H⟩
 · refine fa e3_7 (bL hc1) rfl<|aM e3_11<|aB e3_12<|aB e3_13<|aA e3_14<|vv rfl (aF (b := b1) (o := 0) fl25_1 rfl)<|vv rfl (aL (.slice bS p0.S.length bT) sc23 rfl ((aQ (st3.has _ _ ((sp2.le.trans sp3.le) _ _ g1))).trans rfl))<|vv rfl (bN u23 rfl)<|vv rfl (aE (I 0) rfl)<|aD ?_
   refine aT e3_15<|cB e3_16 ?_
   exact Fl3_0 k (j2 := 0) st3 rfl rfl rfl rfl rfl (SlR.mono (le1.trans (sp2.le.trans sp3.le)) Rp0_D) (SlR.mono (le1.trans (sp2.le.trans sp3.le)) Rp0_S) ((sp2.le.trans sp3.le) _ _ g1) rfl H
 refine tr e3_7 (bK (cA hc1)) rfl<|aB e3_8<|aA e3_9<|vv rfl (aE (.bool r1) rfl)<|vv rfl (aC (.bool r1) rfl)<|aD ?_
 cases H
 exact aJ e3_10 (cG Try.results3 rfl ⟨h3,rfl,st3⟩)
class Wf (α : Type) where
  wf : α → Prop
instance : Wf Int := ⟨fun n => -9223372036854775808 ≤ n ∧ n ≤ 9223372036854775807⟩
instance : Wf Bool := ⟨fun _ => True⟩
instance : Wf ByteArray := ⟨fun s => s.size ≤ 140737488351232⟩
instance {α : Type} [Wf α] : Wf (List α) := ⟨fun l => l.length ≤ 140737488351232 ∧ ∀ x ∈ l, Wf.wf x⟩
def Ev {α : Type} (m : Nat → Option α) (r : α) : Prop := ∃ K, ∀ k, K ≤ k → m k = some r
theorem Ev.ret {α : Type} (r : α) : Ev (fun _ => some r) r := ⟨0, fun _ _ => rfl⟩
theorem Ev.of {α : Type} {m : Option α} {r : α} (h : m = some r) : Ev (fun _ => m) r := ⟨0, fun _ _ => h⟩
theorem Ev.bind {α β : Type} {m : Nat → Option α} {f : Nat → α → Option β} {r : α} {s : β} (h : Ev m r) (h2 : Ev (fun k => f k r) s) : Ev (fun k => (m k).bind (f k)) s := by
  obtain ⟨K, hK⟩ := h
  obtain ⟨K2, hK2⟩ := h2
  exact ⟨max K K2, fun k hk => by show (m k).bind (f k) = some s; rw [hK k (by omega)]; exact hK2 k (by omega)⟩
theorem Ev.step {α : Type} {m : Nat → Option α} {r : α} (h : Ev (fun k => m (k + 1)) r) : Ev m r := by
  obtain ⟨K, hK⟩ := h
  exact ⟨K + 1, fun k hk => by
    obtain ⟨j, rfl⟩ : ∃ j, k = j + 1 := ⟨k - 1, by omega⟩
    exact hK j (by omega)⟩
theorem Ev.pos {α : Type} {c : Prop} [Decidable c] {a b : Nat → Option α} {r : α} (hc : c) (h : Ev a r) : Ev (fun k => if c then a k else b k) r := by
  simpa only [if_pos hc] using h
theorem Ev.neg {α : Type} {c : Prop} [Decidable c] {a b : Nat → Option α} {r : α} (hc : ¬ c) (h : Ev b r) : Ev (fun k => if c then a k else b k) r := by
  simpa only [if_neg hc] using h
theorem Ev.ite {α : Type} {c : Prop} [Decidable c] {a b : Nat → Option α} {r s : α} (ha : c → Ev a r) (hb : ¬ c → Ev b s) : Ev (fun k => if c then a k else b k) (if c then r else s) := by
  by_cases hc : c
  · simpa only [if_pos hc] using ha hc
  · simpa only [if_neg hc] using hb hc
theorem Ev.jn {J R : Type} {j : Nat → J} {b : Nat → J → Option R} {r : R} (h : Ev (fun k => b k (j k)) r) : Ev (fun k => jn (j k) (b k)) r := h
theorem Ev.run {α : Type} {m : Nat → Option α} {r : α} (h : Ev m r) : ∃ k, m k = some r := by
  obtain ⟨K, hK⟩ := h; exact ⟨K, hK K (Nat.le_refl _)⟩
theorem Ev.congr {α : Type} {m : Nat → Option α} {r s : α} (h : Ev m r) (e : r = s) : Ev m s := e ▸ h
def Evs (p : Nat → Prop) : Prop := ∃ K, ∀ k, K ≤ k → p k
theorem Evs.use {α : Type} {m : Nat → Option α} {r : α} {p : Nat → Prop} (h : Ev m r) (h2 : Evs (fun k => m k = some r → p k)) : Evs p := by
  obtain ⟨K, hK⟩ := h
  obtain ⟨L, hL⟩ := h2
  exact ⟨max K L, fun k hk => hL k (by omega) (hK k (by omega))⟩
theorem Evs.now {p : Nat → Prop} (h : ∀ k, p k) : Evs p := ⟨0, fun k _ => h k⟩
theorem Evs.ev {α : Type} {m : Nat → Option α} {r : α} (h : Evs (fun k => m k = some r)) : Ev m r := h
theorem Evs.step {α : Type} {m : Nat → Option α} {r : α} (h : Evs (fun k => m (k + 1) = some r)) : Ev m r := Ev.step h
def Tot {α : Type} (m : Nat → Option α) (P : α → Prop) : Prop := ∃ r, Ev m r ∧ P r
section tot
variable {α β : Type} {P : α → Prop} {m : Nat → Option α}
theorem Tot.ret {r : α} (h : P r) : Tot (fun _ => some r) P := ⟨r, Ev.ret r, h⟩
theorem Tot.ev {r : α} (h : Ev m r) (hp : P r) : Tot m P := ⟨r, h, hp⟩
theorem Tot.bind {m : Nat → Option β} {f : Nat → β → Option α} {Q : β → Prop} (h : Tot m Q) (hf : ∀ r, Q r → Tot (fun k => f k r) P) : Tot (fun k => (m k).bind (f k)) P := by
  obtain ⟨r, h1, h2⟩ := h
  obtain ⟨s, h3, h4⟩ := hf r h2
  exact ⟨s, h1.bind h3, h4⟩
theorem Tot.ite {c : Prop} [Decidable c] {a b : Nat → Option α} (ha : c → Tot a P) (hb : ¬ c → Tot b P) : Tot (fun k => if c then a k else b k) P := by
  by_cases hc : c
  · simpa only [if_pos hc] using ha hc
  · simpa only [if_neg hc] using hb hc
theorem Tot.pos {c : Prop} [Decidable c] {a b : Nat → Option α} (hc : c) (ha : Tot a P) : Tot (fun k => if c then a k else b k) P := by
  simpa only [if_pos hc] using ha
theorem Tot.neg {c : Prop} [Decidable c] {a b : Nat → Option α} (hc : ¬ c) (ha : Tot b P) : Tot (fun k => if c then a k else b k) P := by
  simpa only [if_neg hc] using ha
theorem Tot.step (h : Tot (fun k => m (k + 1)) P) : Tot m P := by
  obtain ⟨r, h1, h2⟩ := h
  exact ⟨r, h1.step, h2⟩
theorem Tot.jn {J : Type} {j : Nat → J} {b : Nat → J → Option α} (h : Tot (fun k => b k (j k)) P) : Tot (fun k => jn (j k) (b k)) P := h
theorem Tot.mono {Q : α → Prop} (h : Tot m Q) (hq : ∀ r, Q r → P r) : Tot m P := by
  obtain ⟨r, h1, h2⟩ := h
  exact ⟨r, h1, hq r h2⟩
theorem Tot.run (h : Tot m P) : ∃ k r, m k = some r ∧ P r := by
  obtain ⟨r, ⟨K, hK⟩, h2⟩ := h
  exact ⟨K, r, hK K (Nat.le_refl _), h2⟩
theorem Tot.is {r : α} (h : Tot m (· = r)) : Ev m r := by
  obtain ⟨s, h1, rfl⟩ := h; exact h1
theorem Ev.is {r : α} (h : Ev m r) : Tot m (· = r) := ⟨r, h, rfl⟩
theorem Tot.run1 {r : α} (h : Tot m (· = r)) : ∃ k, m k = some r := h.is.run
theorem Tot.at_ {l : List β} {i : Int} {f : Nat → β → Option α} (h0 : 0 ≤ i) (h1 : i < l.length) (hf : ∀ x, l[i.toNat]? = some x → Tot (fun k => f k x) P) : Tot (fun k => (idx l i).bind (f k)) P := by
  have hx : l[i.toNat]? = some (l[i.toNat]'(by omega)) := List.getElem?_eq_getElem _
  refine Tot.bind (m := fun _ => idx l i) (Q := fun x => l[i.toNat]? = some x) ⟨_, Ev.of (by unfold idx; rw [if_pos h0, hx]), hx⟩ hf
theorem Tot.atN {l : List β} {j : Nat} {f : Nat → β → Option α} (h1 : j < l.length) (hf : Tot (fun k => f k l[j]) P) : Tot (fun k => (idx l (j : Int)).bind (f k)) P :=
  Tot.at_ (by omega) (by omega) (fun x hx => by
    rw [Int.toNat_natCast, List.getElem?_eq_getElem h1] at hx
    obtain rfl := Option.some.inj hx; exact hf)
theorem Tot.val {v : β} {f : Nat → β → Option α} (hf : Tot (fun k => f k v) P) : Tot (fun k => (some v).bind (f k)) P := hf
end tot
theorem idx_at {α : Type} {l : List α} {i : Int} {x : α} (h0 : 0 ≤ i) (h : l[i.toNat]? = some x) : idx l i = some x := by unfold idx; rw [if_pos h0, h]
instance : Wf GDecl := ⟨fun x => Wf.wf x.Name ∧ Wf.wf x.Shape ∧ Wf.wf x.Form ∧ Wf.wf x.Block⟩
inductive GNodeWf : GNode → Prop
  | mk (x : GNode) (hOp : Wf.wf x.Op) (hN : Wf.wf x.N) (hName : Wf.wf x.Name) (hIndex : Wf.wf x.Index) (hn : x.L.length ≤ 140737488351232) (hr : ∀ y ∈ x.L, GNodeWf y) : GNodeWf x
instance : Wf GNode := ⟨GNodeWf⟩
theorem GNodeWf.out {x : GNode} (h : GNodeWf x) : Wf.wf x.Op ∧ Wf.wf x.N ∧ Wf.wf x.Name ∧ Wf.wf x.Index ∧ x.L.length ≤ 140737488351232 ∧ ∀ y ∈ x.L, GNodeWf y := by cases h; exact ⟨‹_›, ‹_›, ‹_›, ‹_›, ‹_›, ‹_›⟩
instance : Wf GStmt := ⟨fun x => Wf.wf x.Name ∧ Wf.wf x.Index ∧ Wf.wf x.E⟩
instance : Wf GProg := ⟨fun x => Wf.wf x.D ∧ Wf.wf x.S⟩
theorem GNode.ind {P : GNode → Prop} (h : ∀ n, (∀ x ∈ n.L, P x) → P n) : ∀ n, P n :=
  GNode.rec (motive_1 := P) (motive_2 := fun l => ∀ x ∈ l, P x) (fun Op N Name Index L ih => h ⟨Op, N, Name, Index, L⟩ ih) (fun x hx => by cases hx)
    (fun x l h1 h2 y hy => by
      rcases List.mem_cons.1 hy with rfl | hy
      · exact h1
      · exact h2 y hy)
def kindF (c : Int) : Int := (m62 c).getD 0
theorem kind_some (c : Int) : ∃ v, m62 c = some v := by
  unfold m62 jn
  simp only [m63, m86, Option.bind_some]
  repeat' split
  all_goals exact ⟨_, rfl⟩
theorem kind_eq (c : Int) : m62 c = some (kindF c) := by
  obtain ⟨v, hv⟩ := kind_some c
  rw [kindF, hv]; rfl
theorem run_tot (s : ByteArray) (hs : s.size ≤ 140737488351232) : ∀ (d : Nat) (i : Int), 0 ≤ i → i ≤ s.size → (s.size : Int) - i = d → Tot (fun k => l64_0 k s i) (fun r => i ≤ r ∧ r ≤ s.size) := by
  intro d
  induction d with
  | zero =>
    intro i h0 h1 hd
    refine Tot.step ?_
    simp only [l64_0]
    refine Tot.jn (Tot.neg (by omega) (Tot.ret ⟨Int.le_refl _, h1⟩))
  | succ d ih =>
    intro i h0 h1 hd
    refine Tot.step ?_
    simp only [l64_0, kind_eq, Option.bind_some]
    have hn : wr (i + 1) = i + 1 := wr_id (by omega) (by omega)
    have hrec := (ih (i + 1) (by omega) (by omega) (by omega)).mono (P := fun r => i ≤ r ∧ r ≤ s.size) (fun r hr => ⟨by omega, hr.2⟩)
    refine Tot.jn (Tot.pos (by omega) (Tot.pos ⟨h0, by omega⟩ (Tot.ite (fun _ => ?_) (fun _ => Tot.pos ⟨h0, by omega⟩ (Tot.ite (fun _ => ?_) (fun _ => Tot.ret ⟨Int.le_refl _, h1⟩))))))
    · rw [hn]; exact hrec
    · rw [hn]; exact hrec
theorem word_tot (s : ByteArray) : Tot (fun k => m48 k s) (fun _ => True) := by
  simp only [m48, kind_eq, Option.bind_some, m64]
  refine Tot.jn (Tot.ite (fun _ => Tot.ret trivial) (fun h => Tot.ite (fun h16 => Tot.pos ⟨by omega, ?_⟩ (Tot.ite (fun _ => Tot.bind (run_tot s (by omega) s.size 0 (by omega) (by omega) (by omega)) (fun r _ => Tot.ret trivial)) (fun _ => Tot.ret trivial))) (fun _ => Tot.ret trivial)))
  rcases Nat.eq_zero_or_pos s.size with h1 | h1
  · exact absurd (ByteArray.ext (Array.eq_empty_of_size_eq_zero h1)) h
  · omega
noncomputable def wordF (s : ByteArray) : Bool := Classical.choose (word_tot s)
theorem word_ev (s : ByteArray) : Ev (fun k => m48 k s) (wordF s) := (Classical.choose_spec (word_tot s)).1
noncomputable def namedF (s : ByteArray) : Bool := wordF s && !decide (s = (⟨#[115, 117, 109]⟩ : ByteArray)) && !decide (s = (⟨#[116, 101, 110, 115, 111, 114]⟩ : ByteArray))
theorem named_ev (s : ByteArray) : Ev (fun k => m46 k s) (namedF s) := by
  unfold namedF
  simp only [m46]
  refine Ev.jn (Ev.bind (word_ev s) ?_)
  cases wordF s with
  | false => exact Ev.neg (by simp) (Ev.ret _)
  | true =>
    refine Ev.pos rfl ?_
    by_cases h : s = (⟨#[115, 117, 109]⟩ : ByteArray)
    · refine Ev.pos h ((Ev.ret _).congr ?_); simp [h]
    · refine Ev.neg h ((Ev.ret _).congr ?_); simp [h]
def anyI {α : Type} (p : α → Bool) : Nat → List α → Int
  | _, [] => -1
  | j, x :: l => if p x = true then (j : Int) else anyI p (j + 1) l
theorem anyI_lt {α : Type} (p : α → Bool) : ∀ (l : List α) (j : Nat), (anyI p j l < 0 ↔ ∀ x ∈ l, p x = false)
  | [], j => by simp [anyI]
  | x :: l, j => by
    unfold anyI
    cases h : p x with
    | false => simp [h, anyI_lt p l (j + 1)]
    | true => simp [h]; try omega
theorem anyI_dec {α : Type} (p : α → Bool) (l : List α) (j : Nat) : decide (0 ≤ anyI p j l) = l.any p := by
  have := anyI_lt p l j
  cases h : l.any p with
  | true =>
    have : ¬ anyI p j l < 0 := fun e => by
      rw [this] at e
      obtain ⟨x, hx, hp⟩ := List.any_eq_true.1 h
      rw [e x hx] at hp; cases hp
    simp; omega
  | false =>
    have h2 : anyI p j l < 0 := this.2 (fun x hx => by simpa using List.any_eq_false.1 h x hx)
    simp; omega
theorem anyI_some {α : Type} (p : α → Bool) : ∀ (l : List α) (j : Nat), 0 ≤ anyI p j l → ∃ i x, anyI p j l = ((j + i : Nat) : Int) ∧ l[i]? = some x ∧ p x = true ∧ ∀ i' x', i' < i → l[i']? = some x' → p x' = false
  | [], j, h => by simp [anyI] at h
  | x :: l, j, h => by
    unfold anyI at h ⊢
    cases hx : p x with
    | true => exact ⟨0, x, by simp, by simp, hx, fun i' _ hi => by omega⟩
    | false =>
      simp only [hx] at h
      obtain ⟨i, y, h1, h2, h3, h4⟩ := anyI_some p l (j + 1) h
      refine ⟨i + 1, y, ?_, by simpa using h2, h3, fun i' x' hi hx' => ?_⟩
      · simp only [Bool.false_eq_true, if_false]; rw [h1]; congr 1; omega
      · cases i' with
        | zero => simp at hx'; rw [← hx']; exact hx
        | succ i' => exact h4 i' x' (by omega) (by simpa using hx')
theorem indexed1_ev : ∀ (l : List ByteArray) (j : Nat), Ev (fun k => l92_0 k j l) (anyI (fun s => !namedF s) j l)
  | [], j => by refine Ev.step ?_; simp only [l92_0]; exact Ev.ret _
  | x :: l, j => by
    refine Ev.step ?_
    simp only [l92_0, m80, anyI]
    exact Ev.bind (Ev.bind (named_ev x) (Ev.ret _)) (Ev.ite (fun _ => Ev.ret _) (fun _ => indexed1_ev l (j + 1)))
noncomputable def fP (l : List ByteArray) : Bool := decide (l.length ≤ 4) && l.all namedF
theorem indexed_ev (l : List ByteArray) : Ev (fun k => m49 k l) (fP l) := by
  simp only [m49, m79, m92, fP]
  refine Ev.jn ?_
  by_cases h : l.length ≤ 4
  · refine Ev.pos (by omega) (Ev.bind (Ev.bind (indexed1_ev l 0) (Ev.ret _)) ((Ev.ret _).congr ?_))
    rw [anyI_dec]; simp [h, List.not_any_eq_all_not]
  · refine Ev.neg (by omega) ((Ev.ret _).congr ?_)
    simp [h]
def numF (n : Int) : Bool := decide (0 ≤ n) && decide (n < 1000000000000000000)
theorem number1_ev : ∀ (l : List Int) (j : Nat), Ev (fun k => l91_0 k j l) (anyI (fun s => !numF s) j l)
  | [], j => by refine Ev.step ?_; simp only [l91_0]; exact Ev.ret _
  | x :: l, j => by
    refine Ev.step ?_
    simp only [l91_0, m78, anyI]
    refine Ev.bind (r := !numF x) (Ev.jn ?_) (Ev.ite (fun _ => Ev.ret _) (fun _ => number1_ev l (j + 1)))
    by_cases h : x < 0
    · refine Ev.pos h ((Ev.ret _).congr ?_); simp [numF, h]; try omega
    · refine Ev.neg h ((Ev.ret _).congr ?_)
      simp only [numF]
      rw [decide_eq_true (show 0 ≤ x by omega)]; simp
      by_cases h2 : x < 1000000000000000000 <;> simp [h2] <;> omega
theorem number_ev (l : List Int) : Ev (fun k => m47 k l) (l.all numF) := by
  simp only [m47, m77, m91]
  refine Ev.bind (Ev.bind (number1_ev l 0) (Ev.ret _)) ((Ev.ret _).congr ?_)
  rw [anyI_dec]; simp [List.not_any_eq_all_not]
def kidsF (op : Int) : Int := (m61 op).getD 0
theorem kids_some (op : Int) : ∃ v, m61 op = some v ∧ v ≤ 2 := by
  unfold m61
  repeat' split
  all_goals exact ⟨_, rfl, by decide⟩
theorem kids_eq (op : Int) : m61 op = some (kidsF op) := by
  obtain ⟨v, hv, _⟩ := kids_some op
  rw [kidsF, hv]; rfl
theorem kidsF_le (op : Int) : kidsF op ≤ 2 := by
  obtain ⟨v, hv, h⟩ := kids_some op
  rw [kidsF, hv]; exact h
mutual
def fG : GNode → Nat
  | ⟨_, _, _, _, l⟩ => 1 + nodesL l
def nodesL : List GNode → Nat
  | [] => 0
  | x :: l => fG x + nodesL l
end
theorem nodesF_eq (n : GNode) : fG n = 1 + nodesL n.L := by cases n; simp [fG]
noncomputable def headF (n : GNode) : Bool :=
  decide (kidsF n.Op = (n.L.length : Int)) &&
    (if n.Op = 1 then numF n.N && decide (n.Name = ByteArray.empty) && decide (n.Index.length = 0)
     else if n.Op = 2 then decide (n.N = 0) && namedF n.Name && fP n.Index
     else if n.Op = 7 then decide (n.N = 0) && namedF n.Name && decide (n.Index.length = 0)
     else decide (n.N = 0) && decide (n.Name = ByteArray.empty) && decide (n.Index.length = 0))
noncomputable def okN : Nat → GNode → Bool
  | 0, _ => false
  | d + 1, n => headF n && n.L.all (okN d)
theorem nodes_lt : ∀ (d : Nat) (n : GNode), okN d n = true → fG n < 2 ^ d
  | 0, n, h => by simp [okN] at h
  | d + 1, n, h => by
    simp only [okN, Bool.and_eq_true, headF, decide_eq_true_eq] at h
    have hk := kidsF_le n.Op
    have hl : n.L.length ≤ 2 := by omega
    rw [nodesF_eq]
    have each : ∀ x ∈ n.L, fG x < 2 ^ d := fun x hx => nodes_lt d x (List.all_eq_true.1 h.2 x hx)
    have hp : 2 ^ (d + 1) = 2 * 2 ^ d := by rw [Nat.pow_succ]; omega
    have hq : 0 < 2 ^ d := Nat.pow_pos (by decide)
    match hL : n.L with
    | [] => simp only [nodesL]; omega
    | [x] => rw [hL] at each; have := each x (by simp); simp only [nodesL]; omega
    | [x, y] => rw [hL] at each; have := each x (by simp); have := each y (by simp); simp only [nodesL]; omega
    | x :: y :: z :: l => rw [hL] at hl; simp at hl
theorem count_ev (d : Nat) (hd : d ≤ 40) : ∀ (n : GNode), Ev (fun k => m38 k n (d : Int)) (if okN d n = true then (fG n : Int) else -1) := by
  induction d with
  | zero =>
    intro n
    obtain ⟨i, hi⟩ : ∃ i : Int, i = ((0 : Nat) : Int) := ⟨_, rfl⟩
    have h0 : ¬ 0 < i := by omega
    rw [← hi]
    refine Evs.step (Evs.now (fun k => ?_))
    simp only [m38, okN, jn, if_neg h0]
    repeat' split
    all_goals simp_all
  | succ d ih =>
    have ih := ih (by omega)
    have hp : 2 ^ d ≤ 2 ^ 40 := Nat.pow_le_pow_right (by decide) (by omega)
    have loop : ∀ (l : List GNode) (i : Nat), i + l.length * 2 ^ d ≤ 2 ^ 60 → Ev (fun k => l38_0 k ((d + 1 : Nat) : Int) i l) (if l.all (okN d) = true then ((i + nodesL l : Nat) : Int) else -1) := by
      intro l
      induction l with
      | nil => intro i _; refine Ev.step ?_; simp only [l38_0]; exact (Ev.ret _).congr (by simp [nodesL])
      | cons x l ihl =>
        intro i hi
        refine Ev.step ?_
        simp only [l38_0]
        have hw : wr (((d + 1 : Nat) : Int) - 1) = (d : Int) := by rw [wr_id (by omega) (by omega)]; omega
        rw [hw]
        refine Ev.bind (ih x) ?_
        cases hx : okN d x with
        | false => exact Ev.pos (by simp) ((Ev.ret _).congr (by simp [hx]))
        | true =>
          have hlt := nodes_lt d x hx
          simp only [List.length_cons, Nat.succ_mul] at hi
          have e : wr ((i : Int) + (fG x : Int)) = ((i + fG x : Nat) : Int) := by rw [wr_id (by omega) (by omega)]; omega
          simp only [if_true]
          refine Ev.neg (by omega) ?_
          rw [e]
          exact (ihl (i + fG x) (by omega)).congr (by simp [hx, nodesL, Nat.add_assoc])
    intro n
    have hk := kidsF_le n.Op
    have h0 : 0 < ((d + 1 : Nat) : Int) := by omega
    by_cases hkk : kidsF n.Op = (n.L.length : Int)
    · have hb : n.L.length * 2 ^ d ≤ 2 * 2 ^ d := Nat.mul_le_mul_right _ (by omega)
      refine Evs.step (Evs.use (named_ev n.Name) (Evs.use (indexed_ev n.Index) (Evs.use (loop n.L 1 (by omega)) (Evs.now (fun k e3 e2 e1 => ?_)))))
      have e3' : l38_0 k ((d + 1 : Nat) : Int) 1 n.L = some (if n.L.all (okN d) = true then (fG n : Int) else -1) := by
        rw [nodesF_eq]; exact e3
      simp only [m38, okN, jn, if_pos h0, kids_eq, Option.bind_some, decide_eq_true hkk, e1, e2, e3', headF, numF]
      clear e1 e2 e3 e3' loop ih hkk
      generalize namedF n.Name = bn; generalize fP n.Index = bi; generalize n.L.all (okN d) = ba; generalize fG n = nd; generalize n.N = N; generalize n.Name = Nm; generalize n.Index = Ix; generalize n.Op = Op
      by_cases h1 : Op = 1
      · simp only [h1, if_true]
        by_cases a1 : 0 ≤ N <;> by_cases a2 : N < 1000000000000000000 <;> by_cases a3 : Nm = ByteArray.empty <;> by_cases a4 : Ix = [] <;> cases ba <;> simp [a1, a2, a3, a4]
      by_cases h2 : Op = 2
      · simp only [h2, if_true]
        by_cases a1 : N = 0 <;> cases bn <;> cases bi <;> cases ba <;> simp [a1]
      by_cases h7 : Op = 7
      · simp only [h7, if_true]
        by_cases a1 : N = 0 <;> by_cases a4 : Ix = [] <;> cases bn <;> cases ba <;> simp [a1, a4]
      · simp only [h1, h2, h7, if_false]
        by_cases a1 : N = 0 <;> by_cases a3 : Nm = ByteArray.empty <;> by_cases a4 : Ix = [] <;> cases ba <;> simp [a1, a3, a4]
    · refine Evs.step (Evs.use (named_ev n.Name) (Evs.use (indexed_ev n.Index) (Evs.now (fun k e2 e1 => ?_))))
      simp only [m38, okN, jn, if_pos h0, kids_eq, Option.bind_some, decide_eq_false hkk, headF]
      simp
noncomputable def mayF (n : GNode) : Bool := okN 16 n && decide (fG n ≤ 120)
theorem may_ev (n : GNode) : Ev (fun k => m21 k n) (mayF n) := by
  simp only [m21]
  refine Ev.bind (count_ev 16 (by decide) n) (Ev.jn ?_)
  cases h : okN 16 n with
  | false => exact Ev.neg (by simp) ((Ev.ret _).congr (by simp [mayF, h]))
  | true =>
    have : 0 < fG n := by rw [nodesF_eq]; omega
    simp only [if_true]
    refine Ev.pos (by omega) ((Ev.ret _).congr ?_)
    simp only [mayF, h, Bool.true_and, decide_eq_decide]; omega
noncomputable def declF (d : GDecl) : Bool := namedF d.Name && decide (d.Shape.length ≤ 4) && d.Shape.all numF && numF d.Block && wordF d.Form
noncomputable def stmtF (s : GStmt) : Bool := namedF s.Name && fP s.Index && mayF s.E
theorem check1_ev : ∀ (l : List GStmt) (b : Bool), Ev (fun k => l26_1 k b l) (if (b && l.all stmtF) = true then 0 else 1)
  | [], b => by
    refine Evs.step (Evs.now (fun k => ?_))
    simp only [l26_1]
    cases b <;> simp
  | s :: l, b => by
    refine Evs.step (Evs.use (named_ev s.Name) (Evs.use (indexed_ev s.Index) (Evs.use (may_ev s.E) (Evs.use (check1_ev l true) (Evs.use (check1_ev l false) (Evs.now (fun k e5 e4 e3 e2 e1 => ?_)))))))
    have hs : stmtF s = (namedF s.Name && fP s.Index && mayF s.E) := rfl
    generalize namedF s.Name = b1 at e1 hs; generalize fP s.Index = b2 at e2 hs; generalize mayF s.E = b3 at e3 hs
    cases b <;> cases b1 <;> cases b2 <;> cases b3 <;> simp only [l26_1, jn, e1, e2, e3, e4, e5, hs, Option.bind_some, List.all_cons, Bool.false_and, Bool.true_and, Bool.and_true, Bool.and_false, if_true, if_false, Bool.false_eq_true]
theorem check0_ev (p : GProg) : ∀ (l : List GDecl) (b : Bool), Ev (fun k => l26_0 k p b l) (if (b && l.all declF && p.S.all stmtF) = true then 0 else 1)
  | [], b => by
    refine Ev.step ?_
    simp only [l26_0]
    exact (check1_ev p.S b).congr (by simp)
  | s :: l, b => by
    refine Evs.step (Evs.use (named_ev s.Name) (Evs.use (number_ev s.Shape) (Evs.use (number_ev [s.Block]) (Evs.use (word_ev s.Form) (Evs.use (check0_ev p l true) (Evs.use (check0_ev p l false) (Evs.now (fun k e6 e5 e4 e3 e2 e1 => ?_))))))))
    have hs : declF s = (namedF s.Name && decide (s.Shape.length ≤ 4) && s.Shape.all numF && numF s.Block && wordF s.Form) := rfl
    simp only [List.all_cons, List.all_nil, Bool.and_true] at e3
    generalize namedF s.Name = b1 at e1 hs; generalize s.Shape.all numF = b2 at e2 hs; generalize numF s.Block = b3 at e3 hs; generalize wordF s.Form = b4 at e4 hs
    by_cases h : s.Shape.length ≤ 4
    · have h2 : (s.Shape.length : Int) ≤ 4 := by omega
      simp only [h, decide_true, Bool.and_true] at hs
      cases b <;> cases b1 <;> cases b2 <;> cases b3 <;> cases b4 <;> simp only [l26_0, jn, e1, e2, e3, e4, e5, e6, hs, h2, Option.bind_some, List.all_cons, Bool.false_and, Bool.true_and, Bool.and_true, Bool.and_false, if_true, if_false, Bool.false_eq_true]
    · have h2 : ¬ (s.Shape.length : Int) ≤ 4 := by omega
      simp only [h, decide_false, Bool.and_false, Bool.false_and] at hs
      cases b <;> cases b1 <;> simp only [l26_0, jn, e1, e6, hs, h2, Option.bind_some, List.all_cons, Bool.false_and, Bool.and_false, if_true, if_false, Bool.false_eq_true]
noncomputable def checkF (p : GProg) : Bool := decide (p.D.length ≤ 32) && decide (p.S.length ≤ 32) && p.D.all declF && p.S.all stmtF
theorem check_ev (p : GProg) : Ev (fun k => m26 k p) (if checkF p = true then 0 else 1) := by
  simp only [m26]
  have e2 : decide ((p.S.length : Int) ≤ 32) = decide (p.S.length ≤ 32) := by rw [decide_eq_decide]; omega
  rw [e2]
  refine Ev.jn ?_
  by_cases h : p.D.length ≤ 32
  · refine Ev.pos (by omega) ((check0_ev p p.D _).congr ?_)
    simp [checkF, h]
  · refine Ev.neg (by omega) ((check0_ev p p.D _).congr ?_)
    simp [checkF, h]
theorem mput_all {κ ν : Type} [DecidableEq κ] {Q : ν → Prop} {k : κ} {v : ν} (hv : Q v) : ∀ {l : List (κ × ν)}, (∀ p ∈ l, Q p.2) → ∀ p ∈ cC l k v, Q p.2
  | [], _, p, hp => by simp [cC] at hp; rw [hp]; exact hv
  | q :: l, h, p, hp => by
    unfold cC at hp
    split at hp
    · rcases List.mem_cons.1 hp with rfl | hp
      · exact hv
      · exact h p (List.mem_cons_of_mem _ hp)
    · rcases List.mem_cons.1 hp with rfl | hp
      · exact h _ (List.mem_cons_self ..)
      · exact mput_all hv (fun p hp => h p (List.mem_cons_of_mem _ hp)) p hp
theorem mget_all {κ ν : Type} [DecidableEq κ] {Q : ν → Prop} {k : κ} : ∀ {l : List (κ × ν)}, (∀ p ∈ l, Q p.2) → ∀ v, dV l k = some v → Q v
  | [], _, v, h => by simp [dV] at h
  | q :: l, hq, v, h => by
    unfold dV at h
    split at h
    · cases h; exact hq _ (List.mem_cons_self ..)
    · exact mget_all (fun p hp => hq p (List.mem_cons_of_mem _ hp)) v h
theorem named2_tot (a b r : Int) (h4 : r ≤ 4) : ∀ (d : Nat) (i : Int) (l : List GSpec), 0 ≤ i → i ≤ r → r - i = d → (l.length : Int) = i → Tot (fun k => l83_0 k a b r l i) (fun l => l.length ≤ 4) := by
  intro d
  induction d with
  | zero =>
    intro i l h0 h1 hd hl
    refine Tot.step ?_
    simp only [l83_0]
    exact Tot.neg (by omega) (Tot.ret (by omega))
  | succ d ih =>
    intro i l h0 h1 hd hl
    refine Tot.step ?_
    simp only [l83_0]
    have hw : wr (i + 1) = i + 1 := wr_id (by omega) (by omega)
    rw [hw]
    refine Tot.pos (by omega) (Tot.pos (by simp only [List.length_singleton, apl]; omega) (Tot.at_ (by omega) (by simp; try omega) (fun x _ => ih (i + 1) _ (by omega) (by omega) (by omega) (by simp; try omega))))
theorem named1_ev (a b c d : Int) : Ev (fun k => m82 k [a, b, c, d]) [⟨a, b, 0⟩, ⟨c, d, 0⟩] :=
  ⟨4, fun k hk => by
    obtain ⟨j, rfl⟩ : ∃ j, k = j + 4 := ⟨k - 4, by omega⟩
    rfl⟩
theorem Named_tot (name : ByteArray) (rank block : Int) : Tot (fun k => m56 k name rank block) (fun r => r.1.length ≤ 4) := by
  simp only [m56]
  refine Tot.ite (fun _ => Tot.ret (by simp)) (fun h0 => Tot.ite (fun _ => Tot.ret (by simp)) (fun h4 => ?_))
  refine Tot.bind (named1_ev _ _ _ _).is (fun r1 e1 => Tot.bind (named1_ev _ _ _ _).is (fun r2 e2 => Tot.bind (named1_ev _ _ _ _).is (fun r3 e3 => Tot.bind (named1_ev _ _ _ _).is (fun r4 e4 => Tot.bind (named1_ev _ _ _ _).is (fun r5 e5 => ?_)))))
  have hall : ∀ x : ByteArray, ((dV (cC (cC (cC (cC (cC ([] : (List (ByteArray × (List GSpec)))) (⟨#[99, 115, 114]⟩ : ByteArray) r1) (⟨#[99, 115, 99]⟩ : ByteArray) r2) (⟨#[100, 99, 115, 114]⟩ : ByteArray) r3) (⟨#[100, 99, 115, 99]⟩ : ByteArray) r4) (⟨#[98, 115, 114]⟩ : ByteArray) (r5 ++ ([(⟨4, 0, block⟩ : GSpec), (⟨4, 1, block⟩ : GSpec)] : List GSpec))) x).getD ([] : (List GSpec))).length ≤ 4 := by
    intro x
    cases hm : dV (cC (cC (cC (cC (cC ([] : (List (ByteArray × (List GSpec)))) (⟨#[99, 115, 114]⟩ : ByteArray) r1) (⟨#[99, 115, 99]⟩ : ByteArray) r2) (⟨#[100, 99, 115, 114]⟩ : ByteArray) r3) (⟨#[100, 99, 115, 99]⟩ : ByteArray) r4) (⟨#[98, 115, 114]⟩ : ByteArray) (r5 ++ ([(⟨4, 0, block⟩ : GSpec), (⟨4, 1, block⟩ : GSpec)] : List GSpec))) x with
    | none => simp
    | some v =>
      refine mget_all (Q := fun v : List GSpec => v.length ≤ 4) (mput_all (Q := fun v : List GSpec => v.length ≤ 4) ?_ (mput_all (Q := fun v : List GSpec => v.length ≤ 4) ?_ (mput_all (Q := fun v : List GSpec => v.length ≤ 4) ?_ (mput_all (Q := fun v : List GSpec => v.length ≤ 4) ?_ (mput_all (Q := fun v : List GSpec => v.length ≤ 4) ?_ (fun p hp => absurd hp List.not_mem_nil)))))) v hm <;> subst_vars <;> simp
  generalize hM : (cC (cC (cC (cC (cC ([] : (List (ByteArray × (List GSpec)))) (⟨#[99, 115, 114]⟩ : ByteArray) r1) (⟨#[99, 115, 99]⟩ : ByteArray) r2) (⟨#[100, 99, 115, 114]⟩ : ByteArray) r3) (⟨#[100, 99, 115, 99]⟩ : ByteArray) r4) (⟨#[98, 115, 114]⟩ : ByteArray) (r5 ++ ([(⟨4, 0, block⟩ : GSpec), (⟨4, 1, block⟩ : GSpec)] : List GSpec))) = M at hall ⊢
  have two : ∀ a b : Int, Tot (fun k => (m83 k a b rank).bind fun r8 => some (r8, (0 : Int))) (fun r => r.1.length ≤ 4) := fun a b =>
    Tot.bind (named2_tot a b rank (by omega) rank.toNat 0 [] (by omega) (by omega) (by omega) rfl) (fun r hr => Tot.ret hr)
  have fin : Tot (fun _ => some ((dV M name).getD ([] : (List GSpec)), (0 : Int))) (fun r => r.1.length ≤ 4) := Tot.ret (hall name)
  have bad : ∀ e : Int, Tot (fun _ => some (([] : (List GSpec)), e)) (fun r => r.1.length ≤ 4) := fun e => Tot.ret (by simp)
  have rest : Tot (fun _ => if (dV M name).isSome = true then (if rank = 2 then (if name = (⟨#[98, 115, 114]⟩ : ByteArray) then (if block < 1 then (some (([] : (List GSpec)), (1 : Int))) else some ((dV M name).getD ([] : (List GSpec)), (0 : Int))) else some ((dV M name).getD ([] : (List GSpec)), (0 : Int))) else (some (([] : (List GSpec)), 5))) else (some (([] : (List GSpec)), 5))) (fun r => r.1.length ≤ 4) :=
    Tot.ite (fun _ => Tot.ite (fun _ => Tot.ite (fun _ => Tot.ite (fun _ => bad _) (fun _ => fin)) (fun _ => fin)) (fun _ => bad _)) (fun _ => bad _)
  have hl : r5.length + ([(⟨4, 0, block⟩ : GSpec), (⟨4, 1, block⟩ : GSpec)] : List GSpec).length ≤ apl := by subst e5; simp [apl]
  exact Tot.pos hl (Tot.ite (fun _ => two _ _) (fun _ => Tot.ite (fun _ => two _ _) (fun _ => Tot.jn (Tot.ite (fun _ => Tot.ite (fun _ => two _ _) (fun _ => rest)) (fun _ => rest)))))
theorem cells1_ev : ∀ (l : List Int) (j : Nat), Ev (fun k => l91_1_0 k j l) (anyI (fun n => decide (n < 0)) j l)
  | [], j => by refine Ev.step ?_; simp only [l91_1_0]; exact Ev.ret _
  | x :: l, j => by
    refine Ev.step ?_
    simp only [l91_1_0, m97, anyI]
    exact Ev.bind (Ev.ret _) (Ev.ite (fun _ => Ev.ret _) (fun _ => cells1_ev l (j + 1)))
theorem index_ev (v : Int) : ∀ (l : List Int) (j : Nat), Ev (fun k => l101_0 k v j l) (anyI (fun n => decide (v = n)) j l)
  | [], j => by refine Ev.step ?_; simp only [l101_0]; exact Ev.ret _
  | x :: l, j => by
    refine Ev.step ?_
    simp only [l101_0, anyI, decide_eq_true_eq]
    exact Ev.ite (fun _ => Ev.ret _) (fun _ => index_ev v l (j + 1))
theorem cells0_tot : ∀ (l : List Int) (i : Int), Tot (fun k => l93_0 k i l) (fun _ => True)
  | [], i => by refine Tot.step ?_; simp only [l93_0]; exact Tot.ret trivial
  | x :: l, i => by
    refine Tot.step ?_
    simp only [l93_0, m99, Option.bind_some]
    exact Tot.ite (fun _ => Tot.ret trivial) (fun _ => Tot.ite (fun _ => Tot.ret trivial) (fun _ => cells0_tot l _))
theorem cells_tot (l : List Int) : Tot (fun k => m93 k l) (fun r => r.2 = 0 → l.length ≤ 4) := by
  simp only [m93, m77_1, m91_1, m98, m101]
  refine Tot.ite (fun _ => Tot.ret (fun h => by simp at h)) (fun h => ?_)
  have hl : l.length ≤ 4 := by omega
  exact Tot.bind (Q := fun _ => True) (Tot.ev (Ev.bind (cells1_ev l 0) (Ev.ret _)) trivial) (fun _ _ => Tot.ite (fun _ => Tot.ret (fun _ => hl)) (fun _ => Tot.bind (Q := fun _ => True) (Tot.ev (Ev.bind (index_ev 0 l 0) (Ev.ret _)) trivial) (fun _ _ => Tot.ite (fun _ => Tot.ret (fun _ => hl)) (fun _ => (cells0_tot l 1).mono (fun _ _ _ => hl)))))
theorem read1_tot (p : List Int) (hp : p.length ≤ 4) (b6 : Bool) (i6 : Int) (b7 : Bool) (i7 : Int) (b8 : Bool) (i8 : Int) (b9 : Bool) (i9 : Int) : ∀ (d : Nat) (i : Int), 0 ≤ i → i ≤ p.length → (p.length : Int) - i = d → Tot (fun k => l94_1 k p b6 i6 b7 i7 b8 i8 b9 i9 i) (fun _ => True) := by
  intro d
  induction d with
  | zero =>
    intro i h0 h1 hd
    refine Tot.step ?_
    simp only [l94_1]
    exact Tot.neg (by omega) (Tot.ret trivial)
  | succ d ih =>
    intro i h0 h1 hd
    refine Tot.step ?_
    simp only [l94_1]
    have hw : wr (i + 1) = i + 1 := wr_id (by omega) (by omega)
    rw [hw]
    have next := ih (i + 1) (by omega) (by omega) (by omega)
    exact Tot.pos (by omega) (Tot.pos (by omega) (Tot.ite (fun _ => next) (fun _ => Tot.ret trivial)))
set_option maxHeartbeats 4000000 in
theorem read0_tot (p : List Int) (hp : p.length ≤ 4) : ∀ (xs : List GSpec) (b2 : Bool) (i1 : Int) (b3 : Bool) (i2 : Int) (b4 : Bool) (i3 : Int) (b5 : Bool) (i4 i5 : Int), Tot (fun k => l94_0 k p b2 i1 b3 i2 b4 i3 b5 i4 i5 xs) (fun r => r.2 = true → ∀ x ∈ xs, 0 ≤ x.Mode ∧ x.Mode < p.length) := by
  intro xs
  induction xs with
  | nil =>
    intro b2 i1 b3 i2 b4 i3 b5 i4 i5
    refine Tot.step ?_
    simp only [l94_0]
    exact (read1_tot p hp b2 i1 b3 i2 b4 i3 b5 i4 p.length 0 (by omega) (by omega) (by omega)).mono (fun _ _ _ x hx => by cases hx)
  | cons x xs ih0 =>
    intro b2 i1 b3 i2 b4 i3 b5 i4 i5
    have ih : 0 ≤ x.Mode → x.Mode < p.length → ∀ (b2 : Bool) (i1 : Int) (b3 : Bool) (i2 : Int) (b4 : Bool) (i3 : Int) (b5 : Bool) (i4 i5 : Int), Tot (fun k => l94_0 k p b2 i1 b3 i2 b4 i3 b5 i4 i5 xs) (fun r => r.2 = true → ∀ y ∈ x :: xs, 0 ≤ y.Mode ∧ y.Mode < p.length) := fun h0 h1 b2 i1 b3 i2 b4 i3 b5 i4 i5 =>
      (ih0 b2 i1 b3 i2 b4 i3 b5 i4 i5).mono (fun r hr h y hy => by
        rcases List.mem_cons.1 hy with rfl | hy
        · exact ⟨h0, h1⟩
        · exact hr h y hy)
    clear ih0
    refine Tot.step ?_
    simp only [l94_0]
    refine Tot.ite (fun _ => Tot.ret (by simp)) (fun h0 => Tot.ite (fun _ => Tot.ret (by simp)) (fun h1 => Tot.jn ?_))
    have h2 : (0 : Int) ≤ x.Mode ∧ x.Mode < 4 := by omega
    have h3 : 0 ≤ x.Mode := by omega
    have h4 : x.Mode < p.length := by omega
    replace ih := ih h3 h4
    simp only [if_pos h2]
    clear h0 h1 h2
    repeat' (first
      | with_reducible exact ih _ _ _ _ _ _ _ _ _
      | with_reducible exact Tot.ret (by simp)
      | with_reducible refine Tot.jn ?_
      | (with_reducible refine Tot.at_ h3 h4 (fun q _ => Tot.pos ?_ ?_)); (show _ ≠ _; omega)
      | with_reducible refine Tot.ite (fun _ => ?_) (fun _ => ?_))
theorem sizes0_tot (p : List Int) (r : GModes × Bool) : ∀ (xs : List GSpec) (j : Nat) (l : List Int), (∀ x ∈ xs, 0 ≤ x.Mode ∧ x.Mode < p.length) → p.length ≤ 4 → l.length = j + xs.length → Tot (fun k => l84_0 k p r j l xs) (fun _ => True)
  | [], j, l, _, _, _ => by refine Tot.step ?_; simp only [l84_0]; exact Tot.ret trivial
  | x :: xs, j, l, hx, hp, hl => by
    obtain ⟨h3, h4⟩ := hx x (List.mem_cons_self ..)
    simp only [List.length_cons] at hl
    have next : ∀ l' : List Int, l'.length = l.length → Tot (fun k => (idx l' (j : Int)).bind fun x7 => if 2147483648 < x7 then (some (([] : (List Int)), (2 : Int))) else l84_0 k p r (j + 1) l' xs) (fun _ => True) := fun l' h' =>
      Tot.at_ (by omega) (by omega) (fun q _ => Tot.ite (fun _ => Tot.ret trivial) (fun _ => sizes0_tot p r xs (j + 1) l' (fun y hy => hx y (List.mem_cons_of_mem _ hy)) hp (by omega)))
    have put : ∀ v : Int, Tot (fun k => (idx l (j : Int)).bind fun _ => (idx (l.set ((j : Int) : Int).toNat v) (j : Int)).bind fun x7 => if 2147483648 < x7 then (some (([] : (List Int)), (2 : Int))) else l84_0 k p r (j + 1) (l.set ((j : Int) : Int).toNat v) xs) (fun _ => True) := fun v =>
      Tot.at_ (by omega) (by omega) (fun _ _ => next _ (by simp))
    have h2 : (0 : Int) ≤ x.Mode ∧ x.Mode < 4 := by omega
    have one : ∀ b : Int, Tot (fun k => jn (fun (y1 : (List Int)) => (idx y1 (j : Int)).bind fun x7 => if 2147483648 < x7 then (some (([] : (List Int)), (2 : Int))) else (l84_0 k p r (j + 1) y1 xs)) fun j4 => if x.Kind = 4 then ((idx l (j : Int)).bind fun x2 => j4 (l.set ((j : Int) : Int).toNat b)) else (if 0 < b then ((idx p x.Mode).bind fun x3 => if b ≠ 0 then ((idx l (j : Int)).bind fun x4 => j4 (l.set ((j : Int) : Int).toNat (wr (x3.tdiv b)))) else none) else ((idx p x.Mode).bind fun x5 => (idx l (j : Int)).bind fun x6 => j4 (l.set ((j : Int) : Int).toNat x5)))) (fun _ => True) := fun b =>
      Tot.jn (Tot.ite (fun _ => put _) (fun _ => Tot.ite (fun hb => Tot.at_ h3 h4 (fun q _ => Tot.pos (by omega) (put _))) (fun _ => Tot.at_ h3 h4 (fun q _ => put _))))
    refine Tot.step ?_
    simp only [l84_0, if_pos h2]
    exact one _
theorem form_tot (p : List Int) (f : List GSpec) (hf : f.length ≤ 4) : Tot (fun k => m57 k p f) (fun _ => True) := by
  simp only [m57, m84, m94]
  refine Tot.bind (Q := fun _ => True) (Tot.bind (cells_tot p) (fun r hr => Tot.ite (fun h => ?_) (fun _ => Tot.ret trivial))) (fun _ _ => Tot.ret trivial)
  refine Tot.bind (read0_tot p (hr h) f false 0 false 0 false 0 false 0 0) (fun m hm => Tot.ite (fun h2 => Tot.pos (by omega) ?_) (fun _ => Tot.ret trivial))
  exact sizes0_tot p m f 0 _ (hm h2) (hr h) (by simp)
theorem Form_tot (d : GDecl) : Tot (fun k => m33 k d) (fun _ => True) := by
  simp only [m33]
  refine Tot.bind (Named_tot d.Form d.Shape.length d.Block) (fun r hr => Tot.jn (Tot.ite (fun _ => Tot.bind (form_tot d.Shape r.1 hr) (fun e _ => Tot.ite (fun _ => Tot.ret trivial) (fun _ => Tot.ret trivial))) (fun _ => Tot.ite (fun _ => Tot.ret trivial) (fun _ => Tot.ret trivial))))
noncomputable def formF (d : GDecl) : List GSpec × Int := Classical.choose (Form_tot d)
theorem form_ev (d : GDecl) : Ev (fun k => m33 k d) (formF d) := (Classical.choose_spec (Form_tot d)).1
def eR (name : ByteArray) (ds : List GDecl) : GDecl × Bool :=
  match ds.find? (fun d => decide (d.Name = name)) with
  | some d => (d, true)
  | none => (⟨ByteArray.empty, [], ByteArray.empty, 0⟩, false)
theorem tensor0_ev (name : ByteArray) : ∀ (l : List GDecl) (j : Nat), Ev (fun k => l31_0 k name j l) (anyI (fun d => decide (d.Name = name)) j l)
  | [], j => by refine Ev.step ?_; simp only [l31_0]; exact Ev.ret _
  | x :: l, j => by
    refine Ev.step ?_
    simp only [l31_0, m32, anyI]
    exact Ev.bind (Ev.ret _) (Ev.ite (fun _ => Ev.ret _) (fun _ => tensor0_ev name l (j + 1)))
theorem find_anyI {α : Type} (p : α → Bool) : ∀ (l : List α) (i : Nat) (x : α), l[i]? = some x → p x = true → (∀ i' x', i' < i → l[i']? = some x' → p x' = false) → l.find? p = some x
  | [], i, x, h, _, _ => by simp at h
  | y :: l, 0, x, h, hp, _ => by simp at h; subst h; simp [hp]
  | y :: l, i + 1, x, h, hp, hn => by
    have := hn 0 y (by omega) (by simp)
    simp only [List.find?_cons, this]
    exact find_anyI p l i x (by simpa using h) hp (fun i' x' hi hx => hn (i' + 1) x' (by omega) (by simpa using hx))
theorem tensor_ev (name : ByteArray) (ds : List GDecl) : Ev (fun k => m13 k name ds) (eR name ds) := by
  simp only [m13, m31, eR]
  refine Ev.bind (tensor0_ev name ds 0) ?_
  by_cases h : anyI (fun d => decide (d.Name = name)) 0 ds < 0
  · refine Ev.pos h ((Ev.ret _).congr ?_)
    rw [List.find?_eq_none.2 (fun x hx => by simpa using (anyI_lt _ _ _).1 h x hx)]
  · refine Ev.neg h ?_
    obtain ⟨i, x, h1, h2, h3, h4⟩ := anyI_some _ _ _ (Int.not_lt.1 h)
    rw [h1, find_anyI _ _ i x h2 h3 h4]
    refine Ev.bind (Ev.of (idx_at (by omega) (x := x) ?_)) (Ev.ret _)
    rw [Nat.zero_add, Int.toNat_natCast]; exact h2
noncomputable def declE (pre : List GDecl) (x : GDecl) : Int := if declF x = true then (if (eR x.Name pre).2 = true then 7 else (formF x).2) else 1
noncomputable def declsF : List GDecl → List GDecl → Int × Int
  | pre, [] => ((pre.length : Int), 0)
  | pre, x :: xs => if declE pre x = 0 then declsF (pre ++ [x]) xs else ((pre.length : Int), declE pre x)
theorem check1d (d : GDecl) : checkF ⟨[d], []⟩ = declF d := by simp [checkF]
theorem check1s (s : GStmt) : checkF ⟨[], [s]⟩ = stmtF s := by simp [checkF]
theorem decls0_ev : ∀ (xs pre : List GDecl), Ev (fun k => l15_0 k (pre ++ xs) pre.length xs) (declsF pre xs)
  | [], pre => by refine Ev.step ?_; simp only [l15_0, declsF]; exact (Ev.ret _).congr (by simp)
  | x :: xs, pre => by
    refine Ev.step ?_
    simp only [l15_0, declsF]
    have g1 : (0 : Int) ≤ (pre.length : Int) ∧ (pre.length : Int) ≤ ((pre.length + 1 : Nat) : Int) ∧ ((pre.length + 1 : Nat) : Int) ≤ ((pre ++ x :: xs).length : Int) := by rw [List.length_append, List.length_cons]; omega
    have g2 : (0 : Int) ≤ 0 ∧ 0 ≤ (pre.length : Int) ∧ (pre.length : Int) ≤ ((pre ++ x :: xs).length : Int) := by rw [List.length_append, List.length_cons]; omega
    have e1 : ((pre ++ x :: xs).take (((pre.length + 1 : Nat) : Int) : Int).toNat).drop ((pre.length : Int) : Int).toNat = [x] := by
      rw [Int.toNat_natCast, Int.toNat_natCast, List.take_append, List.take_of_length_le (by omega), show pre.length + 1 - pre.length = 1 by omega, List.drop_left']
      · simp
      · simp
    have e2 : ((pre ++ x :: xs).take ((pre.length : Int) : Int).toNat).drop (0 : Int).toNat = pre := by simp
    have ih := decls0_ev xs (pre ++ [x])
    rw [List.append_assoc, List.singleton_append, List.length_append, List.length_singleton] at ih
    refine Ev.pos g1 ?_
    rw [e1]
    have hc := check_ev ⟨[x], []⟩
    rw [check1d] at hc
    have fin : ∀ e : Int, Ev (fun k => if e = 0 then l15_0 k (pre ++ x :: xs) (pre.length + 1) xs else some ((pre.length : Int), e)) (if e = 0 then declsF (pre ++ [x]) xs else ((pre.length : Int), e)) := fun e =>
      Ev.ite (fun _ => ih) (fun _ => Ev.ret _)
    refine Ev.bind hc (Ev.jn ?_)
    cases hd : declF x with
    | false =>
      refine Ev.neg (by simp) (Ev.jn (Ev.neg (by simp) ((fin 1).congr ?_)))
      simp [declE, hd]
    | true =>
      refine Ev.pos (by simp) (Ev.jn (Ev.pos g2 ?_))
      rw [e2]
      refine Ev.bind (tensor_ev x.Name pre) ?_
      cases ht : (eR x.Name pre).2 with
      | true =>
        refine Ev.pos rfl (Ev.jn (Ev.neg (by simp) ((fin 7).congr ?_)))
        simp [declE, hd, ht]
      | false =>
        refine Ev.neg (by simp) (Ev.jn (Ev.pos (by simp) (Ev.bind (form_ev x) ((fin _).congr ?_))))
        simp [declE, hd, ht]
theorem decls_ev (ds : List GDecl) : Ev (fun k => m15 k ds) (declsF [] ds) := decls0_ev ds []
theorem index1_ev (v : ByteArray) : ∀ (l : List ByteArray) (j : Nat), Ev (fun k => l50_0 k v j l) (anyI (fun n => decide (v = n)) j l)
  | [], j => by refine Ev.step ?_; simp only [l50_0]; exact Ev.ret _
  | x :: l, j => by
    refine Ev.step ?_
    simp only [l50_0, anyI, decide_eq_true_eq]
    exact Ev.ite (fun _ => Ev.ret _) (fun _ => index1_ev v l (j + 1))
def hasF (l : List ByteArray) (v : ByteArray) : Bool := l.any (fun n => decide (v = n))
theorem hasF_mem {l : List ByteArray} {v : ByteArray} : hasF l v = true ↔ v ∈ l := by simp [hasF]
theorem contains_ev (l : List ByteArray) (v : ByteArray) : Ev (fun k => m28 k l v) (hasF l v) := by
  simp only [m28, m50]
  exact Ev.bind (index1_ev v l 0) ((Ev.ret _).congr (anyI_dec _ _ _))
def eJ (ds : List GDecl) (name : ByteArray) (index : List ByteArray) : List Int × Int :=
  if (eR name ds).2 = true then (if (eR name ds).1.Shape.length = index.length then ((eR name ds).1.Shape, 0) else ([], 8)) else ([], 7)
theorem place_ev (ds : List GDecl) (name : ByteArray) (index : List ByteArray) : Ev (fun k => m27 k ds name index) (eJ ds name index) := by
  simp only [m27, eJ]
  refine Ev.bind (tensor_ev name ds) (Ev.ite (fun _ => ?_) (fun _ => Ev.ret _))
  by_cases h : (eR name ds).1.Shape.length = index.length
  · exact Ev.pos (by omega) ((Ev.ret _).congr (by simp [h]))
  · exact Ev.neg (by omega) ((Ev.ret _).congr (by simp [h]))
def readL : List (ByteArray × Int) → List GDim → Int × List GDim
  | [], l => (0, l)
  | z :: zs, l => match l.find? (fun x => decide (x.Name = z.1)) with
    | none => readL zs (l ++ [⟨z.1, z.2⟩])
    | some d => if d.Size = z.2 then readL zs l else (4, l)
theorem dim0_ev (index : List ByteArray) (i : Nat) (s : ByteArray) (hs : index[i]? = some s) : ∀ (l : List GDim) (j : Nat), Ev (fun k => l51_0 k index (i : Int) j l) (anyI (fun x => decide (x.Name = s)) j l)
  | [], j => by refine Ev.step ?_; simp only [l51_0]; exact Ev.ret _
  | x :: l, j => by
    refine Ev.step ?_
    have hi : idx index (i : Int) = some s := idx_at (by omega) (by rw [Int.toNat_natCast]; exact hs)
    simp only [l51_0, m52, anyI, hi, Option.bind_some]
    exact Ev.ite (fun _ => Ev.ret _) (fun _ => dim0_ev index i s hs l (j + 1))
theorem read0_ev (index : List ByteArray) (pl : List Int × Int) (ds : List GDecl) : ∀ (sh : List Int) (j : Nat) (l : List GDim), index.length = j + sh.length → l.length + sh.length ≤ 1000000 →
    Ev (fun k => l29_0 k index pl j ds l sh) ((if (readL ((index.drop j).zip sh) l).1 = 0 then pl.2 else 4), ds, (readL ((index.drop j).zip sh) l).2)
  | [], j, l, hi, hl => by refine Ev.step ?_; simp only [l29_0, List.zip_nil_right, readL]; exact (Ev.ret _).congr (by simp)
  | x :: sh, j, l, hi, hl => by
    simp only [List.length_cons] at hi hl
    have hj : j < index.length := by omega
    have hs : index[j]? = some index[j] := List.getElem?_eq_getElem hj
    have hd : index.drop j = index[j] :: index.drop (j + 1) := List.drop_eq_getElem_cons hj
    have hx : idx index (j : Int) = some index[j] := idx_at (by omega) (by rw [Int.toNat_natCast]; exact hs)
    refine Ev.step ?_
    simp only [l29_0, m51, hd, List.zip_cons_cons, readL, hx, Option.bind_some]
    refine Ev.bind (dim0_ev index j _ hs l 0) (Ev.jn ?_)
    by_cases h : anyI (fun x => decide (x.Name = index[j])) 0 l < 0
    · rw [List.find?_eq_none.2 (fun x hx => by simpa using (anyI_lt _ _ _).1 h x hx)]
      exact Ev.pos h (Ev.pos (by simp [apl]; omega) (read0_ev index pl ds sh (j + 1) (l ++ [⟨index[j], x⟩]) (by omega) (by simp; omega)))
    · obtain ⟨i, y, h1, h2, h3, h4⟩ := anyI_some _ _ _ (Int.not_lt.1 h)
      rw [find_anyI _ _ i y h2 h3 h4]
      refine Ev.neg h ?_
      rw [h1]
      refine Ev.bind (Ev.of (idx_at (by omega) (x := y) (by rw [Nat.zero_add, Int.toNat_natCast]; exact h2))) ?_
      by_cases hy : y.Size = x
      · refine Ev.pos hy ((read0_ev index pl ds sh (j + 1) l (by omega) (by omega)).congr (by simp [hy]))
      · exact Ev.neg hy ((Ev.ret _).congr (by simp [hy]))
def eX (ds : List GDecl) (l : List GDim) (name : ByteArray) (index : List ByteArray) : Int × List GDim :=
  if (eJ ds name index).2 = 0 then readL (index.zip (eJ ds name index).1) l else ((eJ ds name index).2, l)
theorem readL_e : ∀ (zs : List (ByteArray × Int)) (l : List GDim), (readL zs l).1 = 0 ∨ (readL zs l).1 = 4
  | [], l => .inl rfl
  | z :: zs, l => by
    unfold readL
    split
    · exact readL_e zs _
    · split
      · exact readL_e zs _
      · exact .inr rfl
theorem place_len {ds : List GDecl} {name : ByteArray} {index : List ByteArray} (h : (eJ ds name index).2 = 0) : index.length = (eJ ds name index).1.length := by
  unfold eJ at h ⊢
  split at h
  · split at h
    · simp_all
    · simp at h
  · simp at h
theorem place_ok {ds : List GDecl} {name : ByteArray} {index : List ByteArray} (h : (eJ ds name index).2 = 0) : (eR name ds).2 = true ∧ (eJ ds name index).1 = (eR name ds).1.Shape := by
  unfold eJ at h ⊢
  split at h
  · split at h
    · simp_all
    · simp at h
  · simp at h
theorem place_bad {ds : List GDecl} {name : ByteArray} {index : List ByteArray} (h : (eJ ds name index).2 ≠ 0) : (eJ ds name index).1 = [] := by
  unfold eJ at h ⊢
  split at h
  · split at h
    · simp at h
    · simp_all
  · simp_all
theorem read_ev (ds : List GDecl) (l : List GDim) (name : ByteArray) (index : List ByteArray) (hl : l.length + index.length ≤ 1000000) :
    Ev (fun k => m29 k ds l name index) ((eX ds l name index).1, ds, (eX ds l name index).2) := by
  simp only [m29, eX]
  refine Ev.bind (place_ev ds name index) ?_
  by_cases h : (eJ ds name index).2 = 0
  · have hlen := place_len h
    refine (read0_ev index (eJ ds name index) ds _ 0 l (by omega) (by omega)).congr ?_
    simp only [List.drop_zero, h]
    rcases readL_e (index.zip (eJ ds name index).1) l with e | e <;> simp [e]
  · have hb := place_bad h
    rw [hb]
    refine Ev.step ?_
    simp only [l29_0]
    exact (Ev.ret _).congr (by simp [h])
theorem readL_len : ∀ (zs : List (ByteArray × Int)) (l : List GDim), (readL zs l).2.length ≤ l.length + zs.length
  | [], l => by simp [readL]
  | z :: zs, l => by
    unfold readL
    simp only [List.length_cons]
    split
    · have := readL_len zs (l ++ [⟨z.1, z.2⟩]); simp at this; omega
    · split
      · have := readL_len zs l; omega
      · simp
theorem readF_len (ds : List GDecl) (l : List GDim) (name : ByteArray) (index : List ByteArray) : (eX ds l name index).2.length ≤ l.length + index.length := by
  unfold eX
  split
  · have := readL_len (index.zip (eJ ds name index).1) l; rw [List.length_zip] at this; omega
  · simp
mutual
def refsF : GNode → List GNode
  | ⟨op, n, nm, ix, l⟩ => if op = 2 then [⟨op, n, nm, ix, l⟩] else refsL l
def refsL : List GNode → List GNode
  | [] => []
  | x :: l => refsF x ++ refsL l
end
theorem refsF_eq (n : GNode) : refsF n = if n.Op = 2 then [n] else refsL n.L := by cases n; simp [refsF]
theorem refs_len : ∀ n : GNode, (refsF n).length ≤ fG n := by
  apply GNode.ind
  intro n ih
  have hl : ∀ l : List GNode, (∀ x ∈ l, (refsF x).length ≤ fG x) → (refsL l).length ≤ nodesL l := by
    intro l
    induction l with
    | nil => intro _; simp [refsL]
    | cons x l ihl =>
      intro h
      have h1 := h x (by simp)
      have h2 := ihl (fun y hy => h y (by simp [hy]))
      simp only [refsL, nodesL, List.length_append]; omega
  have := hl n.L ih
  rw [refsF_eq, nodesF_eq]
  split
  · simp
  · omega
theorem refs_ev : ∀ n : GNode, fG n ≤ 1000000 → Ev (fun k => m12 k n) (refsF n) := by
  apply GNode.ind
  intro n ih hn
  rw [nodesF_eq] at hn
  have loop : ∀ (l : List GNode) (acc : List GNode), (∀ x ∈ l, x ∈ n.L) → acc.length + nodesL l ≤ 1000000 → Ev (fun k => l12_0 k acc l) (acc ++ refsL l) := by
    intro l
    induction l with
    | nil => intro acc _ _; refine Ev.step ?_; simp only [l12_0]; exact (Ev.ret _).congr (by simp [refsL])
    | cons x l ihl =>
      intro acc hx hl
      simp only [nodesL] at hl
      have h1 := refs_len x
      refine Ev.step ?_
      simp only [l12_0]
      refine Ev.bind (ih x (hx x (by simp)) (by omega)) (Ev.pos (by simp only [apl]; omega) ((ihl (acc ++ refsF x) (fun y hy => hx y (by simp [hy])) (by rw [List.length_append]; omega)).congr ?_))
      simp [refsL]
  refine Ev.step ?_
  simp only [m12]
  rw [refsF_eq]
  exact Ev.ite (fun _ => Ev.ret _) (fun _ => (loop n.L [] (fun _ h => h) (by simp; omega)).congr (by simp))
mutual
def sumsF : GNode → Bool
  | ⟨op, _, nm, _, l⟩ => (if op = 7 then (refsL l).any (fun r => hasF r.Index nm) else true) && sumsL l
def sumsL : List GNode → Bool
  | [] => true
  | x :: l => sumsF x && sumsL l
end
theorem sumsF_eq (n : GNode) : sumsF n = ((if n.Op = 7 then (refsF n).any (fun r => hasF r.Index n.Name) else true) && sumsL n.L) := by
  rw [refsF_eq]
  cases n with
  | mk op N nm ix l => 
    simp only [sumsF]
    by_cases h : op = 7
    · simp [h]
    · simp [h]
theorem sums1_ev (nm : ByteArray) (a b : Int) (c : List ByteArray) (e : List GNode) : ∀ (l : List GNode) (j : Nat), Ev (fun k => l81_0 k a b nm c e j l) (anyI (fun r => hasF r.Index nm) j l)
  | [], j => by refine Ev.step ?_; simp only [l81_0]; exact Ev.ret _
  | x :: l, j => by
    refine Ev.step ?_
    simp only [l81_0, m53, anyI]
    exact Ev.bind (Ev.bind (contains_ev _ _) (Ev.ret _)) (Ev.ite (fun _ => Ev.ret _) (fun _ => sums1_ev nm a b c e l (j + 1)))
theorem sumsL_all : ∀ l : List GNode, sumsL l = l.all sumsF
  | [] => rfl
  | x :: l => by simp [sumsL, sumsL_all l]
theorem sums_ev : ∀ n : GNode, fG n ≤ 1000000 → Ev (fun k => m30 k n) (sumsF n) := by
  apply GNode.ind
  intro n ih hn
  have hn' := hn
  rw [nodesF_eq] at hn'
  have each : ∀ l : List GNode, (∀ x ∈ l, x ∈ n.L) → (∀ x ∈ l, fG x ≤ 1000000) → ∀ j : Nat, Ev (fun k => l81_1_0 k j l) (anyI (fun r => !sumsF r) j l) := by
    intro l
    induction l with
    | nil => intro _ _ j; refine Ev.step ?_; simp only [l81_1_0]; exact Ev.ret _
    | cons x l ihl =>
      intro hx hb j
      refine Ev.step ?_
      simp only [l81_1_0, anyI]
      refine Ev.bind (Ev.step ?_) (Ev.ite (fun _ => Ev.ret _) (fun _ => ihl (fun y hy => hx y (by simp [hy])) (fun y hy => hb y (by simp [hy])) (j + 1)))
      simp only [m55]
      exact Ev.bind (ih x (hx x (by simp)) (hb x (by simp))) (Ev.ret _)
  have small : ∀ l : List GNode, nodesL l ≤ 1000000 → ∀ x ∈ l, fG x ≤ 1000000 := by
    intro l
    induction l with
    | nil => intro _ x hx; cases hx
    | cons y l ihl =>
      intro h x hx
      simp only [nodesL] at h
      rcases List.mem_cons.1 hx with rfl | hx
      · omega
      · exact ihl (by omega) x hx
  have rest : Ev (fun k => (m54_1 k n.L).bind fun r3 => some (!r3)) (sumsL n.L) := by
    refine Ev.bind (r := !sumsL n.L) (Ev.step ?_) ((Ev.ret _).congr (by simp))
    simp only [m54_1]
    refine Ev.bind (Ev.step ?_) ((Ev.ret (decide (0 ≤ anyI (fun r => !sumsF r) 0 n.L))).congr ?_)
    · simp only [m81_1]
      exact each n.L (fun _ h => h) (small n.L (by omega)) 0
    · rw [anyI_dec, sumsL_all, List.not_all_eq_any_not]
  refine Ev.step ?_
  simp only [m30]
  rw [sumsF_eq]
  refine Ev.jn ?_
  by_cases h7 : n.Op = 7
  · refine Ev.pos h7 (Ev.bind (refs_ev n hn) ?_)
    simp only [m54, m81]
    refine Ev.bind (Ev.bind (sums1_ev n.Name _ _ _ _ (refsF n) 0) ((Ev.ret _).congr (anyI_dec _ _ _))) ?_
    cases h : (refsF n).any (fun r => hasF r.Index n.Name) with
    | true => exact Ev.pos rfl (rest.congr (by simp [h7]))
    | false => exact Ev.neg (by simp) ((Ev.ret _).congr (by simp [h7]))
  · exact Ev.neg h7 (rest.congr (by simp [h7]))
theorem indexedF_len {l : List ByteArray} (h : fP l = true) : l.length ≤ 4 := by
  simp only [fP, Bool.and_eq_true, decide_eq_true_eq] at h; exact h.1
theorem refs_okN : ∀ (d : Nat) (n : GNode), okN d n = true → ∀ x ∈ refsF n, x.Op = 2 ∧ x.Index.length ≤ 4 ∧ namedF x.Name = true ∧ fP x.Index = true ∧ x.L = [] ∧ x.N = 0
  | 0, n, h, _, _ => by simp [okN] at h
  | d + 1, n, h, x, hx => by
    simp only [okN, Bool.and_eq_true] at h
    rw [refsF_eq] at hx
    split at hx
    · rename_i h2
      have hh := h.1
      simp only [headF, h2, Bool.and_eq_true, decide_eq_true_eq] at hh
      obtain rfl := List.mem_singleton.1 hx
      have h3 : kidsF 2 = 0 := rfl
      have h4 := hh.2
      rw [if_neg (by decide), if_pos trivial] at h4
      simp only [Bool.and_eq_true, decide_eq_true_eq] at h4
      refine ⟨h2, indexedF_len h4.2, h4.1.2, h4.2, ?_, h4.1.1⟩
      exact List.length_eq_zero_iff.1 (by have := hh.1; omega)
    · have aux : ∀ l : List GNode, (∀ y ∈ l, okN d y = true) → x ∈ refsL l → x.Op = 2 ∧ x.Index.length ≤ 4 ∧ namedF x.Name = true ∧ fP x.Index = true ∧ x.L = [] ∧ x.N = 0 := by
        intro l
        induction l with
        | nil => intro _ h; simp [refsL] at h
        | cons y l ih =>
          intro h1 h2
          simp only [refsL, List.mem_append] at h2
          rcases h2 with h2 | h2
          · exact refs_okN d y (h1 y (by simp)) x h2
          · exact ih (fun z hz => h1 z (by simp [hz])) h2
      exact aux n.L (List.all_eq_true.1 h.2) hx
theorem stmt_parts {s : GStmt} (h : stmtF s = true) : namedF s.Name = true ∧ fP s.Index = true ∧ okN 16 s.E = true ∧ fG s.E ≤ 120 := by
  simp only [stmtF, mayF, Bool.and_eq_true, decide_eq_true_eq] at h
  exact ⟨h.1.1, h.1.2, h.2.1, h.2.2⟩
def dupF : List ByteArray → List ByteArray → Bool
  | _, [] => false
  | pre, x :: xs => hasF pre x || dupF (pre ++ [x]) xs
theorem dupF_false : ∀ (xs pre : List ByteArray), pre.Nodup → (dupF pre xs = false ↔ (pre ++ xs).Nodup)
  | [], pre, hp => by simp [dupF, hp]
  | x :: xs, pre, hp => by
    unfold dupF
    cases h : hasF pre x with
    | true =>
      have := hasF_mem.1 h
      simp only [Bool.true_or, Bool.true_eq_false, false_iff]
      intro hn
      have := (List.nodup_append.1 hn).2.2 x this x (by simp)
      exact this rfl
    | false =>
      have hx : x ∉ pre := fun e => by rw [hasF_mem.2 e] at h; cases h
      have hp' : (pre ++ [x]).Nodup := List.nodup_append.2 ⟨hp, by simp, fun a ha b hb => by simp at hb; subst hb; intro e; subst e; exact hx ha⟩
      rw [Bool.false_or, dupF_false xs (pre ++ [x]) hp', List.append_assoc, List.singleton_append]
def restF (ds : List GDecl) : List GNode → Int → List GDim → Int × List GDim
  | [], e, l => (e, l)
  | x :: xs, e, l => if e = 0 then restF ds xs (eX ds l x.Name x.Index).1 (eX ds l x.Name x.Index).2 else restF ds xs e l
theorem sizes1_ev (s : GStmt) (ds : List GDecl) (hn : fG s.E ≤ 120) : ∀ (refs : List GNode) (e : Int) (l : List GDim), (∀ x ∈ refs, x.Index.length ≤ 4) → l.length + 4 * refs.length ≤ 1000000 →
    Ev (fun k => l10_1 k s ds l e refs) (if (restF ds refs e l).1 = 0 then (if sumsF s.E = true then ((restF ds refs e l).2, 0) else ([], 5)) else ([], (restF ds refs e l).1))
  | [], e, l, _, _ => by
    refine Ev.step ?_
    simp only [l10_1, restF]
    exact Ev.ite (fun _ => Ev.bind (sums_ev s.E (by omega)) (Ev.ite (fun _ => Ev.ret _) (fun _ => Ev.ret _))) (fun _ => Ev.ret _)
  | x :: refs, e, l, hx, hl => by
    simp only [List.length_cons] at hl
    have h4 := hx x (by simp)
    have hl2 := readF_len ds l x.Name x.Index
    refine Ev.step ?_
    simp only [l10_1, restF]
    refine Ev.jn ?_
    by_cases h : e = 0
    · refine Ev.pos h (Ev.bind (read_ev ds l x.Name x.Index (by omega)) ((sizes1_ev s ds hn refs _ _ (fun y hy => hx y (by simp [hy])) (by dsimp only; omega)).congr ?_))
      simp only [if_pos h]
    · refine Ev.neg h ((sizes1_ev s ds hn refs e l (fun y hy => hx y (by simp [hy])) (by omega)).congr ?_)
      simp only [if_neg h]
noncomputable def sizes2F (s : GStmt) (ds : List GDecl) : List GDim × Int :=
  if (restF ds (refsF s.E) (eX ds [] s.Name s.Index).1 (eX ds [] s.Name s.Index).2).1 = 0 then
    (if sumsF s.E = true then ((restF ds (refsF s.E) (eX ds [] s.Name s.Index).1 (eX ds [] s.Name s.Index).2).2, 0) else ([], 5))
  else ([], (restF ds (refsF s.E) (eX ds [] s.Name s.Index).1 (eX ds [] s.Name s.Index).2).1)
theorem sizes0_ev (s : GStmt) (ds : List GDecl) (hs : stmtF s = true) : ∀ (xs pre : List ByteArray), s.Index = pre ++ xs →
    Ev (fun k => l10_0 k s ds pre.length xs) (if dupF pre xs = true then ([], 7) else sizes2F s ds)
  | [], pre, hp => by
    obtain ⟨_, h2, h3, h4⟩ := stmt_parts hs
    have h5 := indexedF_len h2
    have h6 := refs_len s.E
    have h7 := readF_len ds [] s.Name s.Index
    simp only [List.length_nil] at h7
    refine Ev.step ?_
    simp only [l10_0, dupF, sizes2F]
    refine Ev.bind (read_ev ds [] s.Name s.Index (by simp; omega)) (Ev.bind (refs_ev s.E (by omega)) ((sizes1_ev s ds h4 (refsF s.E) _ _ (fun x hx => (refs_okN 16 s.E h3 x hx).2.1) (by dsimp only; omega)).congr ?_))
    simp
  | x :: xs, pre, hp => by
    refine Ev.step ?_
    simp only [l10_0, dupF]
    have g : (0 : Int) ≤ 0 ∧ 0 ≤ (pre.length : Int) ∧ (pre.length : Int) ≤ (s.Index.length : Int) := by rw [hp, List.length_append, List.length_cons]; omega
    have e2 : (s.Index.take ((pre.length : Int) : Int).toNat).drop (0 : Int).toNat = pre := by rw [hp]; simp
    refine Ev.pos g ?_
    rw [e2]
    refine Ev.bind (contains_ev pre x) ?_
    by_cases h : hasF pre x = true
    · exact Ev.pos h ((Ev.ret _).congr (by simp [h]))
    · have ih := sizes0_ev s ds hs xs (pre ++ [x]) (by rw [hp]; simp)
      rw [List.length_append, List.length_singleton] at ih
      exact Ev.neg h (ih.congr (by simp [h]))
noncomputable def eN (s : GStmt) (ds : List GDecl) : List GDim × Int :=
  if (declsF [] ds).2 = 0 then (if stmtF s = true then (if (eJ ds s.Name s.Index).2 = 0 then (if dupF [] s.Index = true then ([], 7) else sizes2F s ds) else ([], (eJ ds s.Name s.Index).2)) else ([], 1)) else ([], 1)
theorem sizes_ev (s : GStmt) (ds : List GDecl) : Ev (fun k => m10 k s ds) (eN s ds) := by
  simp only [m10, eN]
  refine Ev.bind (decls_ev ds) (Ev.ite (fun _ => ?_) (fun _ => Ev.ret _))
  have hc := check_ev ⟨[], [s]⟩
  rw [check1s] at hc
  refine Ev.bind hc ?_
  cases h : stmtF s with
  | false => exact Ev.neg (by simp) ((Ev.ret _).congr (by simp))
  | true =>
    refine Ev.pos (by simp) (Ev.bind (place_ev ds s.Name s.Index) (Ev.congr (r := if (eJ ds s.Name s.Index).2 = 0 then _ else _) (Ev.ite (fun _ => sizes0_ev s ds h s.Index [] rfl) (fun _ => Ev.ret _)) ?_))
    simp
theorem few0_tot (n : GNode) (d : Int) (h : Tot (fun k => l25_1 k d n.L) (fun _ => True)) : ∀ l : List ByteArray, Tot (fun k => l25_0 k n d l) (fun _ => True)
  | [] => by refine Tot.step ?_; simp only [l25_0]; exact h
  | x :: l => by refine Tot.step ?_; simp only [l25_0]; exact Tot.ite (fun _ => Tot.ret trivial) (fun _ => few0_tot n d h l)
theorem few_tot : ∀ (n : GNode) (d : Int), Tot (fun k => m25 k n d) (fun _ => True) := by
  apply GNode.ind
  intro n ih d
  have loop : ∀ l : List GNode, (∀ x ∈ l, x ∈ n.L) → Tot (fun k => l25_1 k d l) (fun _ => True) := by
    intro l
    induction l with
    | nil => intro _; refine Tot.step ?_; simp only [l25_1]; exact Tot.ret trivial
    | cons x l ihl =>
      intro hx
      refine Tot.step ?_
      simp only [l25_1]
      exact Tot.bind (ih x (hx x (by simp)) _) (fun _ _ => Tot.ite (fun _ => ihl (fun y hy => hx y (by simp [hy]))) (fun _ => Tot.ret trivial))
  refine Tot.step ?_
  simp only [m25]
  exact Tot.ite (fun _ => Tot.ret trivial) (fun _ => Tot.ite (fun _ => Tot.ret trivial) (fun _ => Tot.ite (fun _ => Tot.ret trivial) (fun _ => Tot.ite (fun _ => Tot.ret trivial) (fun _ => few0_tot n d (loop n.L (fun _ h => h)) n.Index))))
theorem fewP2_tot (p : GProg) (xs : List GStmt) (h : Tot (fun k => l9_1 k p xs) (fun _ => True)) : ∀ l : List ByteArray, Tot (fun k => l9_2 k p xs l) (fun _ => True)
  | [] => by refine Tot.step ?_; simp only [l9_2]; exact h
  | x :: l => by refine Tot.step ?_; simp only [l9_2]; exact Tot.ite (fun _ => Tot.ret trivial) (fun _ => fewP2_tot p xs h l)
theorem fewP1_tot (p : GProg) : ∀ xs : List GStmt, Tot (fun k => l9_1 k p xs) (fun _ => True)
  | [] => by refine Tot.step ?_; simp only [l9_1]; exact Tot.jn (Tot.ite (fun _ => Tot.ret trivial) (fun _ => Tot.ret trivial))
  | x :: xs => by
    refine Tot.step ?_
    simp only [l9_1]
    exact Tot.bind (few_tot _ _) (fun _ _ => Tot.ite (fun _ => Tot.ite (fun _ => Tot.ret trivial) (fun _ => Tot.ite (fun _ => Tot.ret trivial) (fun _ => fewP2_tot p xs (fewP1_tot p xs) _))) (fun _ => Tot.ret trivial))
theorem fewP0_tot (p : GProg) : ∀ xs : List GDecl, Tot (fun k => l9_0 k p xs) (fun _ => True)
  | [] => by refine Tot.step ?_; simp only [l9_0]; exact fewP1_tot p p.S
  | x :: xs => by
    refine Tot.step ?_
    simp only [l9_0]
    exact Tot.ite (fun _ => Tot.ret trivial) (fun _ => Tot.ite (fun _ => Tot.ret trivial) (fun _ => fewP0_tot p xs))
theorem fewProg_tot (p : GProg) : Tot (fun k => m9 k p) (fun _ => True) := fewP0_tot p p.D
theorem readF_place {ds : List GDecl} {l : List GDim} {n : ByteArray} {i : List ByteArray} (h : (eX ds l n i).1 = 0) : (eJ ds n i).2 = 0 := by
  unfold eX at h
  split at h
  · assumption
  · exact h
theorem restF_zero : ∀ (ds : List GDecl) (refs : List GNode) (e : Int) (l : List GDim), (restF ds refs e l).1 = 0 → e = 0
  | ds, [], e, l, h => h
  | ds, x :: refs, e, l, h => by
    unfold restF at h
    split at h
    · assumption
    · exact restF_zero ds refs e l h
theorem sizesF_parts {s : GStmt} {ds : List GDecl} (h : (eN s ds).2 = 0) : (declsF [] ds).2 = 0 ∧ stmtF s = true ∧ (eJ ds s.Name s.Index).2 = 0 ∧ dupF [] s.Index = false ∧ eN s ds = sizes2F s ds ∧
    (restF ds (refsF s.E) (eX ds [] s.Name s.Index).1 (eX ds [] s.Name s.Index).2).1 = 0 ∧ (eX ds [] s.Name s.Index).1 = 0 ∧ sumsF s.E = true ∧
    eN s ds = ((restF ds (refsF s.E) (eX ds [] s.Name s.Index).1 (eX ds [] s.Name s.Index).2).2, 0) := by
  unfold eN at h ⊢
  by_cases h1 : (declsF [] ds).2 = 0
  · rw [if_pos h1] at h ⊢
    by_cases h2 : stmtF s = true
    · rw [if_pos h2] at h ⊢
      by_cases h3 : (eJ ds s.Name s.Index).2 = 0
      · rw [if_pos h3] at h ⊢
        by_cases h4 : dupF [] s.Index = true
        · rw [if_pos h4] at h; simp at h
        · rw [if_neg h4] at h ⊢
          unfold sizes2F at h ⊢
          by_cases h5 : (restF ds (refsF s.E) (eX ds [] s.Name s.Index).1 (eX ds [] s.Name s.Index).2).1 = 0
          · rw [if_pos h5] at h ⊢
            by_cases h6 : sumsF s.E = true
            · rw [if_pos h6] at h ⊢
              exact ⟨h1, h2, h3, by simpa using h4, rfl, h5, restF_zero _ _ _ _ h5, h6, rfl⟩
            · rw [if_neg h6] at h; simp at h
          · rw [if_neg h5] at h; exact absurd h h5
      · rw [if_neg h3] at h; exact absurd h h3
    · rw [if_neg h2] at h; simp at h
  · rw [if_neg h1] at h; simp at h
theorem live_at (j : Nat) : m8 (j + 200) = some true := by kernel_rfl
theorem live_ev : Ev (fun k => m8 k) true := ⟨200, fun k hk => by
  obtain ⟨j, rfl⟩ : ∃ j, k = j + 200 := ⟨k - 200, by omega⟩
  exact live_at j⟩
def sizeF (l : List GDim) (s : ByteArray) : Int × Bool := match l.find? (fun x => decide (x.Name = s)) with | some x => (x.Size, true) | none => (0, false)
theorem size_ev (s : ByteArray) : ∀ l : List GDim, Ev (fun k => l11_0 k s l) (sizeF l s)
  | [] => by refine Ev.step ?_; simp only [l11_0]; exact Ev.ret _
  | x :: l => by
    refine Ev.step ?_
    simp only [l11_0]
    by_cases h : x.Name = s
    · exact Ev.pos h ((Ev.ret _).congr (by simp [sizeF, h]))
    · exact Ev.neg h ((size_ev s l).congr (by simp [sizeF, h]))
def once (l : List GDim) : Prop := (l.map (·.Name)).Nodup
theorem readL_keeps : ∀ (zs : List (ByteArray × Int)) (l : List GDim), once l → (readL zs l).1 = 0 →
    once (readL zs l).2 ∧ (∃ t, (readL zs l).2 = l ++ t) ∧ ∀ z ∈ zs, sizeF (readL zs l).2 z.1 = (z.2, true)
  | [], l, ho, _ => ⟨ho, ⟨[], by simp [readL]⟩, fun z hz => by cases hz⟩
  | z :: zs, l, ho, h => by
    unfold readL at h ⊢
    have keep : ∀ (t : List GDim) (n : Int) (l' : List GDim), sizeF l' z.1 = (n, true) → sizeF (l' ++ t) z.1 = (n, true) := by
      intro t n l' hs
      unfold sizeF at hs ⊢
      rw [List.find?_append]
      split at hs
      · rename_i d hd; rw [hd]; exact hs
      · cases hs
    split at h
    · rename_i hn
      have hno : once (l ++ [⟨z.1, z.2⟩]) := by
        unfold once at ho ⊢
        rw [List.map_append, List.nodup_append]
        refine ⟨ho, by simp, fun a ha b hb => ?_⟩
        simp only [List.map_cons, List.map_nil, List.mem_singleton] at hb
        subst hb
        obtain ⟨x, hx, rfl⟩ := List.mem_map.1 ha
        have := List.find?_eq_none.1 hn x hx
        simpa using this
      obtain ⟨h1, ⟨t, h2⟩, h3⟩ := readL_keeps zs _ hno h
      refine ⟨h1, ⟨⟨z.1, z.2⟩ :: t, by rw [h2]; simp⟩, fun y hy => ?_⟩
      rcases List.mem_cons.1 hy with rfl | hy
      · rw [h2]
        refine keep t _ _ ?_
        unfold sizeF
        rw [List.find?_append, hn]; simp
      · exact h3 y hy
    · rename_i d hd
      by_cases hz : d.Size = z.2
      · rw [if_pos hz] at h
        rw [if_pos hz]
        obtain ⟨h1, ⟨t, h2⟩, h3⟩ := readL_keeps zs _ ho h
        refine ⟨h1, ⟨t, h2⟩, fun y hy => ?_⟩
        rcases List.mem_cons.1 hy with rfl | hy
        · rw [h2]
          refine keep t _ _ ?_
          unfold sizeF
          rw [hd]; simp [hz]
        · exact h3 y hy
      · rw [if_neg hz] at h; simp at h
theorem sizeF_append {l t : List GDim} {s : ByteArray} {n : Int} (hs : sizeF l s = (n, true)) : sizeF (l ++ t) s = (n, true) := by
  unfold sizeF at hs ⊢
  rw [List.find?_append]
  split at hs
  · rename_i d hd; rw [hd]; exact hs
  · cases hs
def toldF (ds : List GDecl) (l : List GDim) (n : ByteArray) (ix : List ByteArray) : Prop :=
  (eR n ds).2 = true ∧ (eR n ds).1.Shape.length = ix.length ∧ ∀ (j : Nat) (h : j < ix.length) (h2 : j < (eR n ds).1.Shape.length), sizeF l ix[j] = ((eR n ds).1.Shape[j], true)
theorem readF_keeps {ds : List GDecl} {l : List GDim} {n : ByteArray} {ix : List ByteArray} (ho : once l) (h : (eX ds l n ix).1 = 0) :
    once (eX ds l n ix).2 ∧ (∃ t, (eX ds l n ix).2 = l ++ t) ∧ toldF ds (eX ds l n ix).2 n ix := by
  have hp := readF_place h
  unfold eX at h ⊢
  rw [if_pos hp] at h ⊢
  obtain ⟨h1, h2, h3⟩ := readL_keeps _ l ho h
  obtain ⟨p1, p2⟩ := place_ok hp
  have hl := place_len hp
  rw [p2] at hl
  refine ⟨h1, h2, p1, hl.symm, fun j hj hj2 => ?_⟩
  rw [p2] at h3 ⊢
  have hm : (ix[j], (eR n ds).1.Shape[j]) ∈ ix.zip (eR n ds).1.Shape := by
    refine List.mem_iff_getElem.2 ⟨j, by rw [List.length_zip]; omega, by simp⟩
  exact h3 _ hm
theorem restF_keeps : ∀ (ds : List GDecl) (refs : List GNode) (e : Int) (l : List GDim), once l → (restF ds refs e l).1 = 0 →
    once (restF ds refs e l).2 ∧ (∃ t, (restF ds refs e l).2 = l ++ t) ∧ ∀ x ∈ refs, toldF ds (restF ds refs e l).2 x.Name x.Index
  | ds, [], e, l, ho, h => ⟨ho, ⟨[], by simp [restF]⟩, fun x hx => by cases hx⟩
  | ds, x :: refs, e, l, ho, h => by
    have he := restF_zero ds (x :: refs) e l h
    unfold restF at h ⊢
    simp only [if_pos he] at h ⊢
    have hr := restF_zero _ _ _ _ h
    obtain ⟨h1, ⟨t, h2⟩, h3⟩ := readF_keeps ho hr
    obtain ⟨g1, ⟨u, g2⟩, g3⟩ := restF_keeps ds refs _ _ h1 h
    refine ⟨g1, ⟨t ++ u, by rw [g2, h2]; simp⟩, fun y hy => ?_⟩
    rcases List.mem_cons.1 hy with rfl | hy
    · refine ⟨h3.1, h3.2.1, fun j hj hj2 => ?_⟩
      rw [g2]; exact sizeF_append (h3.2.2 j hj hj2)
    · exact g3 y hy
theorem readL_first : ∀ (zs : List (ByteArray × Int)) (l : List GDim), (∀ z ∈ zs, ∀ x ∈ l, x.Name ≠ z.1) → (zs.map (·.1)).Nodup → readL zs l = (0, l ++ zs.map (fun z => ⟨z.1, z.2⟩))
  | [], l, _, _ => by simp [readL]
  | z :: zs, l, hd, hn => by
    unfold readL
    have h1 : l.find? (fun x => decide (x.Name = z.1)) = none := List.find?_eq_none.2 (fun x hx => by simpa using hd z (by simp) x hx)
    rw [h1]
    simp only [List.map_cons, List.nodup_cons] at hn
    dsimp only
    rw [readL_first zs _ ?_ hn.2]
    · simp
    · intro y hy x hx
      rcases List.mem_append.1 hx with hx | hx
      · exact hd y (by simp [hy]) x hx
      · obtain rfl := List.mem_singleton.1 hx
        intro e
        dsimp only at e
        exact hn.1 (List.mem_map.2 ⟨y, hy, e.symm⟩)
theorem sizes_told {s : GStmt} {ds : List GDecl} (h : (eN s ds).2 = 0) :
    once (eN s ds).1 ∧ toldF ds (eN s ds).1 s.Name s.Index ∧ (∀ x ∈ refsF s.E, toldF ds (eN s ds).1 x.Name x.Index) ∧
      ∀ (j : Nat) (h1 : j < s.Index.length) (h2 : j < (eN s ds).1.length), ((eN s ds).1[j]).Name = s.Index[j] := by
  obtain ⟨h1, h2, h3, h4, h5, h6, h7, h8, h9⟩ := sizesF_parts h
  obtain ⟨a1, ⟨t, a2⟩, a3⟩ := readF_keeps (ds := ds) (l := []) (n := s.Name) (ix := s.Index) (by simp [once]) h7
  obtain ⟨b1, ⟨u, b2⟩, b3⟩ := restF_keeps ds (refsF s.E) _ _ a1 h6
  rw [h9]
  dsimp only
  refine ⟨b1, ⟨a3.1, a3.2.1, fun j hj hj2 => by rw [b2]; exact sizeF_append (a3.2.2 j hj hj2)⟩, b3, fun j hj hj2 => ?_⟩
  have hlen := place_len h3
  have hnd : s.Index.Nodup := by
    have := (dupF_false s.Index [] List.nodup_nil).1 h4
    simpa using this
  have hf : (eX ds [] s.Name s.Index).2 = (s.Index.zip (eJ ds s.Name s.Index).1).map (fun z => (⟨z.1, z.2⟩ : GDim)) := by
    unfold eX
    rw [if_pos h3, readL_first _ [] (fun _ _ x hx => by cases hx)]
    · simp
    · rw [List.map_fst_zip]
      · exact hnd
      · omega
  have hl : (eX ds [] s.Name s.Index).2.length = s.Index.length := by rw [hf, List.length_map, List.length_zip]; omega
  have hx : ∀ (L : List GDim) (e : L = (eX ds [] s.Name s.Index).2 ++ u) (hj2 : j < L.length), L[j].Name = s.Index[j] := by
    intro L e hj2
    subst e
    rw [List.getElem_append_left (by omega)]
    have : ∀ (M : List GDim) (e : M = (s.Index.zip (eJ ds s.Name s.Index).1).map (fun z => (⟨z.1, z.2⟩ : GDim))) (hM : j < M.length), M[j].Name = s.Index[j] := by
      intro M e hM; subst e; simp
    exact this _ hf _
  exact hx _ b2 _
theorem size_true {l : List GDim} {s : ByteArray} (h : (sizeF l s).2 = true) : ∃ x ∈ l, x.Name = s := by
  unfold sizeF at h
  split at h
  · rename_i d hd
    exact ⟨d, List.mem_of_find?_eq_some hd, by simpa using List.find?_some hd⟩
  · cases h
section places
variable (p : GProg) (s : GStmt) (xs : List GStmt) (hs : (eN s p.D).2 = 0) (next : Tot (fun k => l3_0 k p true xs) (· = true))
theorem places3 (refs : List GNode) (i : Int) (x : GNode) (hx : toldF p.D (eN s p.D).1 x.Name x.Index) (n2 : Tot (fun k => l3_2 k p true xs (eN s p.D) refs (refs.length : Int) (wr (i + 1))) (· = true)) :
    ∀ (ix : List ByteArray) (j : Nat), x.Index.drop j = ix → j + ix.length = x.Index.length → Tot (fun k => l3_3 k p true xs (eN s p.D) refs (refs.length : Int) i (eR x.Name p.D) j ix) (· = true)
  | [], j, _, _ => by refine Tot.step ?_; simp only [l3_3]; exact n2
  | y :: ix, j, hd, hl => by
    simp only [List.length_cons] at hl
    have hj : j < x.Index.length := by omega
    have hj2 : j < (eR x.Name p.D).1.Shape.length := by rw [hx.2.1]; exact hj
    have hy := List.drop_eq_getElem_cons hj
    rw [hd] at hy
    simp only [List.cons.injEq] at hy
    have ht := hx.2.2 j hj hj2
    rw [← hy.1] at ht
    refine Tot.step ?_
    simp only [l3_3, m11]
    refine Tot.bind ((size_ev y (eN s p.D).1).congr ht).is (fun r hr => ?_)
    subst hr
    refine Tot.pos rfl (Tot.atN hj2 (Tot.pos rfl (places3 refs i x hx n2 ix (j + 1) hy.2.symm (by omega))))
include next
theorem places2 (refs : List GNode) (hr : ∀ x ∈ refs, toldF p.D (eN s p.D).1 x.Name x.Index) (hb : refs.length ≤ 1000000) : ∀ (d : Nat) (i : Int), 0 ≤ i → i ≤ refs.length → (refs.length : Int) - i = d →
    Tot (fun k => l3_2 k p true xs (eN s p.D) refs (refs.length : Int) i) (· = true) := by
  intro d
  induction d with
  | zero =>
    intro i h0 h1 hd
    refine Tot.step ?_
    simp only [l3_2]
    exact Tot.neg (by omega) next
  | succ d ih =>
    intro i h0 h1 hd
    refine Tot.step ?_
    simp only [l3_2]
    have n2 := ih (i + 1) (by omega) (by omega) (by omega)
    have hw : wr (i + 1) = i + 1 := wr_id (by omega) (by omega)
    rw [← hw] at n2
    refine Tot.pos (by omega) (Tot.at_ h0 (by omega) (fun x hx => ?_))
    have ht := hr x (List.mem_of_getElem? hx)
    refine Tot.bind (tensor_ev x.Name p.D).is (fun r4 h4 => ?_)
    subst h4
    refine Tot.pos ht.1 (Tot.pos (by rw [ht.2.1]) (places3 p s xs refs i x ht n2 x.Index 0 rfl (by omega)))
include hs
theorem places1 : ∀ (l pre : List GDim), (eN s p.D).1 = pre ++ l → Tot (fun k => l3_1 k p true s xs (eN s p.D) pre.length l) (· = true)
  | [], pre, hl => by
    obtain ⟨h1, h2, h3, h4⟩ := sizes_told hs
    obtain ⟨_, s2, _⟩ := sizesF_parts hs
    obtain ⟨_, _, k3, k4⟩ := stmt_parts s2
    have hlen := refs_len s.E
    refine Tot.step ?_
    simp only [l3_1]
    refine Tot.jn (Tot.bind (refs_ev s.E (by omega)).is (fun r hr => ?_))
    subst hr
    refine Tot.pos (by simp only [apl, List.length_singleton]; omega) ?_
    refine places2 p s xs next ([(⟨0, 0, s.Name, s.Index, []⟩ : GNode)] ++ refsF s.E) (fun x hx => ?_) (by rw [List.length_append, List.length_singleton]; omega) _ 0 (by omega) (by omega) rfl
    rcases List.mem_append.1 hx with hx | hx
    · obtain rfl := List.mem_singleton.1 hx; exact h2
    · exact h3 x hx
  | x :: l, pre, hl => by
    obtain ⟨h1, h2, h3, h4⟩ := sizes_told hs
    have hlen : (eN s p.D).1.length = pre.length + (l.length + 1) := by rw [hl, List.length_append, List.length_cons]
    refine Tot.step ?_
    simp only [l3_1, m11]
    have g : (0 : Int) ≤ 0 ∧ 0 ≤ (pre.length : Int) ∧ (pre.length : Int) ≤ ((eN s p.D).1.length : Int) := by omega
    have e2 : ((eN s p.D).1.take ((pre.length : Int) : Int).toNat).drop (0 : Int).toNat = pre := by rw [hl]; simp
    refine Tot.pos g ?_
    rw [e2]
    refine Tot.bind (size_ev x.Name pre).is (fun r hr => ?_)
    subst hr
    have ih := places1 l (pre ++ [x]) (by rw [hl]; simp)
    rw [List.length_append, List.length_singleton] at ih
    refine Tot.jn (Tot.neg ?_ (Tot.ite (fun hj => ?_) (fun _ => ih)))
    · intro e
      obtain ⟨y, hy, hn⟩ := size_true e
      unfold once at h1
      rw [hl, List.map_append, List.nodup_append] at h1
      exact h1.2.2 y.Name (List.mem_map.2 ⟨y, hy, rfl⟩) x.Name (by simp) hn
    · have hj' : pre.length < s.Index.length := by omega
      have hx := h4 pre.length hj' (by omega)
      have hget : ∀ (L : List GDim) (e : L = pre ++ x :: l) (h : pre.length < L.length), L[pre.length] = x := by
        intro L e h; subst e; simp
      rw [hget _ hl (by omega)] at hx
      exact Tot.atN hj' (Tot.pos hx.symm ih)
end places
theorem places0 (p : GProg) : ∀ xs : List GStmt, Tot (fun k => l3_0 k p true xs) (· = true)
  | [] => by refine Tot.step ?_; simp only [l3_0]; exact Tot.ret rfl
  | s :: xs => by
    refine Tot.step ?_
    simp only [l3_0]
    refine Tot.bind (sizes_ev s p.D).is (fun r hr => ?_)
    subst hr
    exact Tot.ite (fun h => places1 p s xs h (places0 p xs) _ [] rfl) (fun _ => places0 p xs)
theorem ShapePlaces_ev (p : GProg) : Tot (fun k => m3 k p) (· = true) := by
  simp only [m3]
  refine Tot.bind live_ev.is (fun r1 h1 => ?_)
  subst h1
  exact Tot.bind (fewProg_tot p) (fun r2 _ => Tot.ite (fun _ => places0 p p.S) (fun _ => Tot.ret rfl))
theorem ShapePlaces_plain (p : GProg) (_ : Wf.wf p) : ∃ k, m3 k p = some true := (ShapePlaces_ev p).run1
def stoOf (w : World) : Sto := fun b => w.heap[b]?
theorem stoOf_has (w : World) : Has (stoOf w) w := fun _ _ h => h
def Rd (α : Type) [GoTy α] [Wf α] (P : Program) (t : TypeId) (fuel : Nat) : Prop :=
  ∀ {H : Type} (enc : TypeId × Value → H) (w : World) (cs : List Value) (y : DataW H × List MemPlace),
    DataW.trod enc P w 0 (fun _ => true) true fuel t cs = some y → (∀ n ∈ y.1.weights P t, n ≤ reachBytes) → ∃ x : α, GoTy.rep (stoOf w) cs x ∧ Wf.wf x
theorem Rd.int {P : Program} {t n : Nat} (ht : P.underlying t = some (.int .i64)) : Rd Int P t n := by
  intro H enc w cs y h hs
  obtain ⟨m, rfl, rfl, hw⟩ := DataW.trod_int ht h
  refine ⟨m, rfl, ?_⟩
  simp only [Lit.wf, Bool.and_eq_true, decide_eq_true_eq] at hw
  exact hw
theorem Rd.bool {P : Program} {t n : Nat} (ht : P.underlying t = some .bool) : Rd Bool P t n := by
  intro H enc w cs y h hs
  obtain ⟨m, rfl, rfl⟩ := DataW.trod_bool ht h
  exact ⟨m, rfl, trivial⟩
theorem Rd.str {P : Program} {t n : Nat} (ht : P.underlying t = some .string) : Rd ByteArray P t n := by
  intro H enc w cs y h hs
  obtain ⟨s, rfl, rfl, hw⟩ := DataW.trod_string ht h
  refine ⟨s, rfl, ?_⟩
  have := hs s.data.toList.length (by simp [DataW.weights])
  rw [Array.length_toList] at this
  exact this
theorem mem_weightsAll {H : Type} {P : Program} {e : TypeId} : ∀ {l : List (DataW H)} {d : DataW H}, d ∈ l → ∀ n ∈ d.weights P e, n ∈ DataW.weightsAll P e l
  | x :: l, d, hd, n, hn => by
    simp only [DataW.weightsAll, List.mem_append]
    rcases List.mem_cons.1 hd with rfl | hd
    · exact .inl hn
    · exact .inr (mem_weightsAll hd n hn)
theorem Rd.slice {α : Type} [GoTy α] [Wf α] {P : Program} {t e n : Nat} (ht : P.underlying t = some (.slice e)) (hc : P.cellsOf e = GoTy.sz α) (hz : 0 < GoTy.sz α) (hb : 0 < P.bytesOf e) (ih : ∀ m, m < n → Rd α P e m) : Rd (List α) P t n := by
  intro H enc w cs y h hs
  rcases DataW.trod_slice ht h with ⟨rfl, rfl⟩ | ⟨a, len, cap, elems, rest, m, rfl, rfl, rfl, _, hl, hm, hlen, hel, hsp, hns⟩
  · exact ⟨[], ⟨none, 0, rfl, SlR.none _⟩, by simp [Wf.wf]⟩
  have hw := hs ((elems.length + rest.length) * P.bytesOf e) (by simp [DataW.weights, ht])
  have hlen2 : len ≤ 140737488351232 := by
    have h1 : elems.length + rest.length ≤ (elems.length + rest.length) * P.bytesOf e := Nat.le_mul_of_pos_right _ hb
    have h2 : reachBytes = 140737488351232 := rfl
    omega
  have each : ∀ i : Fin len, ∃ x : α, Wf.wf x ∧ ∃ vs, w.cells? 0 (a.add (i.1 * P.cellsOf e)) (P.cellsOf e) = some vs ∧ GoTy.rep (stoOf w) vs x := by
    intro ⟨i, hi⟩
    have h1 := hel i hi
    rw [List.getElem?_eq_getElem (by omega)] at h1
    obtain ⟨vs, h2, h3⟩ := Option.bind_eq_some_iff.1 h1
    obtain ⟨x, h4, h5⟩ := ih m (Nat.lt_succ_self m) enc w vs _ h3 (fun q hq => hs q (by
      simp only [DataW.weights, ht, List.mem_cons, List.mem_append]
      exact .inr (.inl (mem_weightsAll (List.mem_map.2 ⟨_, List.getElem_mem _, rfl⟩) q hq))))
    exact ⟨x, h5, vs, h2, h4⟩
  obtain ⟨f, hf⟩ := Classical.skolem.1 each
  have hll : (List.ofFn f).length = len := List.length_ofFn
  refine ⟨List.ofFn f, ⟨some a, cap, by rw [hll], ⟨by rw [hll]; exact hl, by rw [hll]; have : mxl = 140737488355328 := rfl; omega, (fun e => by cases e), fun A hA => ?_⟩⟩, ⟨by rw [hll]; exact hlen2, fun x hx => ?_⟩⟩
  · simp only [Option.some.injEq] at hA
    subst hA
    by_cases h0 : len = 0
    · exact .inl (List.length_eq_zero_iff.1 (by rw [hll]; exact h0))
    have pos : ∀ (i : Nat), i < len → ∀ q, q < GoTy.sz α → w.cell? ((a.add (i * GoTy.sz α)).add q) ≠ none := by
      intro i hi q hq
      obtain ⟨_, vs, h1, h2⟩ := hf ⟨i, hi⟩
      have h3 := World.cells?_some h1
      rw [← hc, h3.2.2 q (by rw [hc]; exact hq), List.getElem?_eq_getElem (by rw [h3.2.1, hc]; exact hq)]
      exact fun e => by cases e
    have p0 := pos 0 (by omega) 0 hz
    have e0 : (a.add (0 * GoTy.sz α)).add 0 = a := by simp [Addr.add]
    rw [e0] at p0
    obtain ⟨b, o, s⟩ := a
    simp only [World.cell?] at p0
    have hs0 : s = none := by
      cases s with
      | none => rfl
      | some _ => split at p0 <;> simp at p0
    subst hs0
    cases hh : w.heap[b]? with
    | none => rw [hh] at p0; simp at p0
    | some ob =>
      cases ob with
      | cells c T fr =>
        refine .inr ⟨rfl, c, T, fr, hh, fun j hj => ?_⟩
        rw [hll] at hj
        obtain ⟨_, vs, h1, h2⟩ := hf ⟨j, hj⟩
        refine ⟨vs, by simpa using h2, fun i hi => ?_⟩
        have h3 := (World.cells?_some h1).2.2 i (by rw [hc]; exact hi)
        rw [← h3, hc]
        have e1 : ((⟨b, o, none⟩ : Addr).add (j * GoTy.sz α)).add i = ⟨b, o + (j * GoTy.sz α + i), none⟩ := by
          unfold Addr.add; repeat' split
          all_goals simp_all [Nat.add_assoc]
        rw [e1, aQ hh]
      | _ => rw [hh] at p0; simp at p0
  · obtain ⟨i, hi⟩ := List.mem_ofFn.1 hx
    subst hi; exact (hf i).1
theorem rd_parts {H : Type} {enc : TypeId × Value → H} {w : World} {P : Program} {t n : Nat} {fs : Array Field} {cs : List Value} {y : DataW H × List MemPlace} (ht : P.underlying t = some (.struct fs))
    (h : DataW.trod enc P w 0 (fun _ => true) true n t cs = some y) (hs : ∀ q ∈ y.1.weights P t, q ≤ reachBytes) :
    cs.length = P.cellsOf t ∧ ∃ m, m < n ∧ ∀ (i : Nat) (f : Field), fs[i]? = some f → ∀ (α : Type) [GoTy α] [Wf α], Rd α P f.type m → ∃ x : α, GoTy.rep (stoOf w) ((cs.drop f.offset).take (P.cellsOf f.type)) x ∧ Wf.wf x := by
  obtain ⟨xs, m, rfl, rfl, hl, hlen, hf⟩ := DataW.trod_struct ht h
  refine ⟨hl, m, Nat.lt_succ_self m, fun i f hi α _ _ hr => ?_⟩
  have hi2 := (Array.getElem?_eq_some_iff.1 hi).1
  have h1 := hf i f hi
  rw [List.getElem?_eq_getElem (by omega)] at h1
  refine hr enc w _ _ h1 (fun q hq => hs q ?_)
  simp only [DataW.weights, ht]
  refine DataW.weights_mem_each (j := i) (t := f.type) (d := xs[i].1) ?_ ?_ q hq
  · rw [List.getElem?_map, Array.getElem?_toList, hi]; rfl
  · rw [List.getElem?_map, List.getElem?_eq_getElem (by omega)]; rfl
theorem rd45 : ∀ n, Rd GDecl Try.prog 45 n := by
  intro n
  intro H enc w cs y h hs
  obtain ⟨hl, m, hm, hf⟩ := rd_parts Try.underlying45 h hs
  have hl : cs.length = 4 := hl
  obtain ⟨x0, r0, w0⟩ := hf 0 _ rfl ByteArray (Rd.str Try.underlying9)
  obtain ⟨x1, r1, w1⟩ := hf 1 _ rfl (List Int) (Rd.slice Try.underlying43 (by kernel_rfl) (by decide) (of_decide_eq_true (by kernel_rfl)) (fun m hm => (Rd.int Try.underlying3)))
  obtain ⟨x2, r2, w2⟩ := hf 2 _ rfl ByteArray (Rd.str Try.underlying9)
  obtain ⟨x3, r3, w3⟩ := hf 3 _ rfl Int (Rd.int Try.underlying3)
  obtain ⟨c0, c1, c2, c3, rfl⟩ : ∃ c0 c1 c2 c3, cs = [c0, c1, c2, c3] := by
    match cs, hl with
    | [q0, q1, q2, q3], _ => exact ⟨_, _, _, _, rfl⟩
  have e0 := r0
  have e0_0 : [c0] = _ := e0
  clear e0
  obtain ⟨g0_0, e0_1⟩ := List.cons.inj e0_0
  subst g0_0
  obtain ⟨a1, k1, e1, s1⟩ := r1
  have e1_0 : [c1] = _ := e1
  clear e1
  obtain ⟨g1_0, e1_1⟩ := List.cons.inj e1_0
  subst g1_0
  have e2 := r2
  have e2_0 : [c2] = _ := e2
  clear e2
  obtain ⟨g2_0, e2_1⟩ := List.cons.inj e2_0
  subst g2_0
  have e3 := r3
  have e3_0 : [c3] = _ := e3
  clear e3
  obtain ⟨g3_0, e3_1⟩ := List.cons.inj e3_0
  subst g3_0
  exact ⟨⟨x0, x1, x2, x3⟩, GDecl.into (x := ⟨x0, x1, x2, x3⟩) s1, ⟨w0, w1, w2, w3⟩⟩
theorem rd31 : ∀ n, Rd GNode Try.prog 31 n := by
  intro n
  induction n using Nat.strongRecOn with
  | ind n ih =>
  intro H enc w cs y h hs
  obtain ⟨hl, m, hm, hf⟩ := rd_parts Try.underlying31 h hs
  have hl : cs.length = 5 := hl
  obtain ⟨x0, r0, w0⟩ := hf 0 _ rfl Int (Rd.int Try.underlying3)
  obtain ⟨x1, r1, w1⟩ := hf 1 _ rfl Int (Rd.int Try.underlying2)
  obtain ⟨x2, r2, w2⟩ := hf 2 _ rfl ByteArray (Rd.str Try.underlying9)
  obtain ⟨x3, r3, w3⟩ := hf 3 _ rfl (List ByteArray) (Rd.slice Try.underlying28 (by kernel_rfl) (by decide) (of_decide_eq_true (by kernel_rfl)) (fun m hm => (Rd.str Try.underlying9)))
  obtain ⟨x4, r4, w4⟩ := hf 4 _ rfl (List GNode) (Rd.slice Try.underlying29 (by kernel_rfl) (by decide) (of_decide_eq_true (by kernel_rfl)) (fun m' hm' => ih m' (by omega)))
  obtain ⟨c0, c1, c2, c3, c4, rfl⟩ : ∃ c0 c1 c2 c3 c4, cs = [c0, c1, c2, c3, c4] := by
    match cs, hl with
    | [q0, q1, q2, q3, q4], _ => exact ⟨_, _, _, _, _, rfl⟩
  have e0 := r0
  have e0_0 : [c0] = _ := e0
  clear e0
  obtain ⟨g0_0, e0_1⟩ := List.cons.inj e0_0
  subst g0_0
  have e1 := r1
  have e1_0 : [c1] = _ := e1
  clear e1
  obtain ⟨g1_0, e1_1⟩ := List.cons.inj e1_0
  subst g1_0
  have e2 := r2
  have e2_0 : [c2] = _ := e2
  clear e2
  obtain ⟨g2_0, e2_1⟩ := List.cons.inj e2_0
  subst g2_0
  obtain ⟨a3, k3, e3, s3⟩ := r3
  have e3_0 : [c3] = _ := e3
  clear e3
  obtain ⟨g3_0, e3_1⟩ := List.cons.inj e3_0
  subst g3_0
  obtain ⟨a4, k4, e4, s4⟩ := r4
  have e4_0 : [c4] = _ := e4
  clear e4
  obtain ⟨g4_0, e4_1⟩ := List.cons.inj e4_0
  subst g4_0
  exact ⟨⟨x0, x1, x2, x3, x4⟩, GNode.into (x := ⟨x0, x1, x2, x3, x4⟩) s3 s4, .mk _ w0 w1 w2 w3 w4.1 w4.2⟩
theorem rd33 : ∀ n, Rd GStmt Try.prog 33 n := by
  intro n
  intro H enc w cs y h hs
  obtain ⟨hl, m, hm, hf⟩ := rd_parts Try.underlying33 h hs
  have hl : cs.length = 7 := hl
  obtain ⟨x0, r0, w0⟩ := hf 0 _ rfl ByteArray (Rd.str Try.underlying9)
  obtain ⟨x1, r1, w1⟩ := hf 1 _ rfl (List ByteArray) (Rd.slice Try.underlying28 (by kernel_rfl) (by decide) (of_decide_eq_true (by kernel_rfl)) (fun m hm => (Rd.str Try.underlying9)))
  obtain ⟨x2, r2, w2⟩ := hf 2 _ rfl GNode (rd31 _)
  obtain ⟨c0, c1, c2, c3, c4, c5, c6, rfl⟩ : ∃ c0 c1 c2 c3 c4 c5 c6, cs = [c0, c1, c2, c3, c4, c5, c6] := by
    match cs, hl with
    | [q0, q1, q2, q3, q4, q5, q6], _ => exact ⟨_, _, _, _, _, _, _, rfl⟩
  have e0 := r0
  have e0_0 : [c0] = _ := e0
  clear e0
  obtain ⟨g0_0, e0_1⟩ := List.cons.inj e0_0
  subst g0_0
  obtain ⟨a1, k1, e1, s1⟩ := r1
  have e1_0 : [c1] = _ := e1
  clear e1
  obtain ⟨g1_0, e1_1⟩ := List.cons.inj e1_0
  subst g1_0
  obtain ⟨a2_3, k2_3, a2_4, k2_4, e2, s2_3, s2_4⟩ := GNode.out r2
  have e2_0 : [c2, c3, c4, c5, c6] = _ := e2
  clear e2
  obtain ⟨g2_0, e2_1⟩ := List.cons.inj e2_0
  obtain ⟨g2_1, e2_2⟩ := List.cons.inj e2_1
  obtain ⟨g2_2, e2_3⟩ := List.cons.inj e2_2
  obtain ⟨g2_3, e2_4⟩ := List.cons.inj e2_3
  obtain ⟨g2_4, e2_5⟩ := List.cons.inj e2_4
  subst g2_0
  subst g2_1
  subst g2_2
  subst g2_3
  subst g2_4
  exact ⟨⟨x0, x1, x2⟩, GStmt.into (x := ⟨x0, x1, x2⟩) s1 s2_3 s2_4, ⟨w0, w1, w2⟩⟩
theorem rd25 : ∀ n, Rd GProg Try.prog 25 n := by
  intro n
  intro H enc w cs y h hs
  obtain ⟨hl, m, hm, hf⟩ := rd_parts Try.underlying25 h hs
  have hl : cs.length = 2 := hl
  obtain ⟨x0, r0, w0⟩ := hf 0 _ rfl (List GDecl) (Rd.slice Try.underlying22 (by kernel_rfl) (by decide) (of_decide_eq_true (by kernel_rfl)) (fun m hm => (rd45 _)))
  obtain ⟨x1, r1, w1⟩ := hf 1 _ rfl (List GStmt) (Rd.slice Try.underlying23 (by kernel_rfl) (by decide) (of_decide_eq_true (by kernel_rfl)) (fun m hm => (rd33 _)))
  obtain ⟨c0, c1, rfl⟩ : ∃ c0 c1, cs = [c0, c1] := by
    match cs, hl with
    | [q0, q1], _ => exact ⟨_, _, rfl⟩
  obtain ⟨a0, k0, e0, s0⟩ := r0
  have e0_0 : [c0] = _ := e0
  clear e0
  obtain ⟨g0_0, e0_1⟩ := List.cons.inj e0_0
  subst g0_0
  obtain ⟨a1, k1, e1, s1⟩ := r1
  have e1_0 : [c1] = _ := e1
  clear e1
  obtain ⟨g1_0, e1_1⟩ := List.cons.inj e1_0
  subst g1_0
  exact ⟨⟨x0, x1⟩, GProg.into (x := ⟨x0, x1⟩) s0 s1, ⟨w0, w1⟩⟩
end Go.Proofs.Ytjdfoipnmbnkeaa
namespace Go.Proofs.Ytjdfoipnmbnkeaa.shapePlaces
open Go Go.ChangeShapes Go.WideShapes Go.ChangeAt Go.RowKit Go.Proofs.Ytjdfoipnmbnkeaa
open Go.ChangeMaps (open_string shut_string)
theorem own : ownKnob Try.prog.godebug = none := by kernel_rfl
theorem laidOut : laidOutB Try.prog = true := by kernel_rfl
theorem lifted (os : Os) (started : os.Started) (H : Type) (enc : TypeId × Value → H) :
    ReturnsInHanded {} Try.checked os 3 .any (Rows.shapePlacesSpec.pre6 enc Try.prog Try.f3 Rows.shapePlacesRow.domain false) (Rows.shapePlacesSpec.post enc Try.prog Try.f3 false true false false) := by
  refine returnsInHanded_of_change_sized (C := Try.checked) own started (by kernel_rfl) Try.func3
    (ChangeSpec.witness6 (enc := enc) (C := Try.checked) false ⟨#[], #[.agg #[.slice none 0 0, .slice none 0 0]], []⟩ 8 (by kernel_rfl) (by kernel_rfl) (by kernel_rfl) (by kernel_rfl)) ?_
  intro W base args ds gs before hval0 hW hcnd hsz0 _
  have hsz : (DataW.weightsEach Try.prog (Try.f3.params.toList ++ Rows.shapePlacesSpec.plain.varTypes Try.prog) (ds ++ gs)).all (· ≤ reachBytes) = true := hsz0
  have hval : ∀ (j : Nat) t v, Try.f3.params[j]? = some t → args[j]? = some v → Value.okWide Try.prog W .any base t v := hval0
  have hW' := hW
  obtain ⟨p, q, hA0, hV, rfl, hfz, hnd⟩ := hW
  have hA : DataW.TrodAll enc Try.prog W 0 (fun _ => true) true Try.f3.params.toList args.toList ds p := hA0
  rw [Try.params3] at hA hval hsz
  obtain ⟨v0, vs0, d0, ds0, p0, q0, hargs, rfl, rfl, h0, r0⟩ := trodAll_cons hA
  obtain ⟨rfl, rfl, rfl⟩ := trodAll_nil r0
  obtain rfl : args = #[v0] := by cases args; simp_all
  obtain ⟨rfl, rfl⟩ := trodVars_none hV
  obtain ⟨cs0, rfl, _⟩ := okWide_struct Try.underlying25 (hval 0 25 v0 rfl rfl)
  have k0 := h0
  have lt0 : ∀ x ∈ p0, x.block < W.heap.size := by obtain ⟨m, hm⟩ := k0; exact DataW.trod_lt m _ _ _ hm
  obtain ⟨fuel0, hf0⟩ := h0
  obtain ⟨p0', rx0, w0⟩ := rd25 _ enc W _ _ hf0 (fun n hn => by have := List.all_eq_true.1 hsz n (DataW.weights_mem_each (j := 0) (t := 25) rfl rfl n hn); simpa using this)
  obtain ⟨a0_0, c0_0, a0_1, c0_1, hcs0, R0_0, R0_1⟩ := GProg.out rx0
  obtain rfl : cs0 = List.toArray [.slice a0_0 p0'.D.length c0_0, .slice a0_1 p0'.S.length c0_1] := by apply Array.toList_inj.1; exact hcs0
  clear hA0 hval0 hsz0 hsz
  obtain ⟨k, hk⟩ := ShapePlaces_plain p0' w0
  refine (F3 k (stoOf_has W) R0_0 R0_1 hk).mono fun e W' he => ?_
  cases e with
  | returned v =>
    obtain ⟨h', rfl, st⟩ := he
    have bel := st.sp.below
    exact ⟨_, rfl, _, _, _, [], _, [], hW', trodAll_mk1 (shut_bool Try.underlying4 _), (trodAll_cons_mk (Below.trod laidOut (by kernel_rfl) (of_decide_eq_true (by kernel_rfl)) k0 bel lt0) trodAll_mk0), rfl, bel.frame _, fun h => by cases h⟩
  | panicked _ => exact he.elim
  | outgrown => exact he.elim
theorem over : Rows.shapePlacesRow.holds Try.pinned (OpenSpec.ofChange Rows.shapePlacesSpec) :=
  OpenClaim.holds_of_wide 3 Try.f3 rfl rfl rfl rfl rfl rfl rfl ⟨rfl, rfl, rfl, rfl, rfl⟩ rfl rfl rfl rfl rfl (by kernel_rfl) Try.func3 (by kernel_rfl)
    (of_decide_eq_true (by kernel_rfl)) (by unfold Func.isWrapper; first | (rw [if_pos (by decide +kernel)]; kernel_rfl) | (rw [if_neg (by decide +kernel)]; exact ⟨rfl, rfl⟩))
    (fun os started H enc _ => lifted os started H enc)
end Go.Proofs.Ytjdfoipnmbnkeaa.shapePlaces
namespace Go.Proofs.Ytjdfoipnmbnkeaa
theorem shapePlaces_holds : Rows.ShapePlacesSaid := shapePlaces.over
end Go.Proofs.Ytjdfoipnmbnkeaa
