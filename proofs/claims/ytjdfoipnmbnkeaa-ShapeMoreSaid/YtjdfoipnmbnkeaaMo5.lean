/- ShapeMore holds: for every input the law returns true, and the input reads as it did. Part 6 of 6. No conditions. -/
import Derived.Test.YtjdfoipnmbnkeaaMo4
import Derived.KernelRfl
import Derived.ChangeArms
import Derived.ChangeSame
import Derived.SizedLaws
import Derived.Test.YtjdfoipnmbnkeaaRows
import Derived.WalkKit
import Derived.ProofKit
import Derived.OpenShut
import Derived.ShutString
import Derived.ChangeOld
import Derived.Below
import Derived.Carry
set_option maxRecDepth 100000
set_option maxHeartbeats 8000000
namespace Go.Proofs.Ytjdfoipnmbnkeaa
open Go
abbrev ZSLl9_0 (k : Nat) : Prop := SLl9_0 k ∧ SLl9_1 k ∧ SLl9_2 k
theorem SLl9_0_z : SLl9_0 0 := by
  unfold SLl9_0; intros; rename_i H; exact absurd H (by simp [l9_0])
theorem SLl9_0_s (k : Nat) (ih : ZSLl9_0 k) : SLl9_0 (k + 1) := by
 intro p0 cB bF cC bG b1 j1 w0 w h0 h σ xs1 r st s1 s10 s11 s12 R1 R2 g2 hd1 H
 cases xs1 with
 | nil =>
  rw [l9_0] at H
  have hk1 := dH hd1
  refine aB e9_7 <| aA e9_8 <| vv rfl (aQ .lss .i64 (j1 : Int) (p0.D.length : Int) (.bool (decide ((j1 : Int) < (p0.D.length : Int)))) 3 3 s12 s11 rfl) <| aD <| aB e9_9 <| fa e9_10 hk1 rfl <| bW e9_12 rfl <| aB e9_25 <| aB e9_26 <| aA e9_27 ?_
  refine vv rfl (aF (b := b1) (o := 0) gZ s1) <| vv rfl (aL (.slice bF p0.S.length bG) sc23 rfl ((aP (st.has _ _ g2)).trans rfl)) <| vv rfl (bV u23 rfl) <| vv rfl (aE (I 0) rfl) <| aD <| aT e9_28 <| cH e9_29 ?_
  exact ih.2.1 (j2 := 0) st s1 rfl rfl rfl R1 R2 g2 rfl H
 | cons x1 xs2 =>
  rw [l9_0] at H
  obtain ⟨hk2, hj1, hx1, hd2⟩ := cX hd1
  refine aB e9_7 <| aA e9_8 <| vv rfl (aQ .lss .i64 (j1 : Int) (p0.D.length : Int) (.bool (decide ((j1 : Int) < (p0.D.length : Int)))) 3 3 s12 s11 rfl) <| aD <| aB e9_9 <| tr e9_10 hk2 rfl <| aN e9_11 <| aB e9_13 <| aT e9_14 <| aB e9_15 ?_
  refine aA e9_16 ?_
  obtain ⟨b5, o3, vs3, ea3, rp3, cl3⟩ := SlR.at R1 hx1
  obtain ⟨a4, c4, rfl, R11⟩ := GDecl.out rp3
  refine vv rfl (aY u22 sz45 s10 s12 ea3 (Int.natCast_nonneg _) (Int.ofNat_lt.2 hj1)) <| vv rfl (bH [.string x1.Name, .slice a4 x1.Shape.length c4, .string x1.Form, I x1.Block] ag45 sz45 rfl rfl (cl3 _ (Has.le (Le.refl _) st.has))) <| cR (.agg #[.string ByteArray.empty, .slice none 0 0, .string ByteArray.empty, I 0]) zr45 rfl rfl (fun b6 w6 al3 => ?_)
  replace al3 : Al _ (.cells (List.toArray [.string ByteArray.empty, .slice none 0 0, .string ByteArray.empty, I 0]) 45 (0, 0)) b6 w6 := al3
  have M3 := Mut.new st al3
  have lb2 := st.alB al3
  have sp5 := al3.st st.has
  have st7 := st.call0 sp5
  refine aV (o := 0) (n := 4) [.string x1.Name, .slice a4 x1.Shape.length c4, .string x1.Form, I x1.Block] [.string x1.Name, .slice a4 x1.Shape.length c4, .string x1.Form, I x1.Block] (.agg #[.string x1.Name, .slice a4 x1.Shape.length c4, .string x1.Form, I x1.Block]) sz45 rfl rfl rfl rfl M3 rfl rfl rfl rfl rfl (fun w7 wr2 M4 => ?_)
  have sp6 := wr2.st st7.has M3.none
  have st8 := st7.call sp6 (fun x e => (.inl (e ▸ lb2)))
  obtain ⟨h5, le4, g6, st9, kp2⟩ := M4.fz st8 lb2
  refine aD <| aB e9_17 <| aA e9_18 <| vv rfl (aF (b := b6) (o := 0) fl45_1 rfl) <| vv rfl (aL (.slice a4 x1.Shape.length c4) sc43 rfl ((aP (st9.has _ _ g6)).trans rfl)) <| vv rfl (bV u43 rfl) <| vv rfl (aQ .gtr .i64 (x1.Shape.length : Int) 20 (.bool (decide (20 < (x1.Shape.length : Int)))) 3 3 rfl rfl rfl) <| vv rfl (aE (.bool (decide (20 < (x1.Shape.length : Int)))) rfl) ?_
  rcases aM H with ⟨hc6, H⟩ | ⟨hc6, H⟩
  · refine aR (wf2 (dT hc6) rfl) rfl <| aR (wf2 (dT hc6) rfl) rfl <| aR (wf2 (dT hc6) rfl) rfl <| aR (wf2 (dT hc6) rfl) rfl <| aR (wf2 (dT hc6) rfl) rfl <| aR (wf2 (dT hc6) rfl) rfl <| aR (wf2 (dT hc6) rfl) rfl <| aR (wf2 (dT hc6) rfl) rfl <| vv rfl (dV (.bool true) (dT hc6) rfl rfl) <| aD ?_
    refine cV e9_19 (p := true) rfl rfl <| aB e9_20 <| aA e9_21 <| vv rfl (aC (.bool false) rfl) <| aD ?_
    cases H
    exact aI e9_22 (cJ Try.results9 rfl ⟨h5, rfl, st9⟩)
  refine aZ (wt2 (dF hc6) rfl) rfl (aF (b := b6) (o := 0) fl45_0 rfl) <| aZ (wt2 (dF hc6) rfl) rfl (aL (.string x1.Name) sc9 rfl ((aP (st9.has _ _ g6)).trans rfl)) <| aZ (wt2 (dF hc6) rfl) rfl (fA u9 rfl) <| aZ (wt2 (dF hc6) rfl) rfl (aF (b := b6) (o := 0) fl45_2 rfl) <| aZ (wt2 (dF hc6) rfl) rfl (aL (.string x1.Form) sc9 rfl ((aP (st9.has _ _ g6)).trans rfl)) <| aZ (wt2 (dF hc6) rfl) rfl (fA u9 rfl) <| aZ (wt2 (dF hc6) rfl) rfl (aQ .add .i64 (x1.Name.size : Int) (x1.Form.size : Int) (I (wr ((x1.Name.size : Int) + (x1.Form.size : Int)))) 3 3 rfl rfl rfl) <| aZ (wt2 (dF hc6) rfl) rfl (aQ .gtr .i64 (wr ((x1.Name.size : Int) + (x1.Form.size : Int))) 200 (.bool (decide (200 < (wr ((x1.Name.size : Int) + (x1.Form.size : Int)))))) 3 3 rfl rfl rfl) <| vv rfl (dW (.bool (decide (200 < (wr ((x1.Name.size : Int) + (x1.Form.size : Int)))))) (dF hc6) rfl rfl) <| aD ?_
  rcases aM H with ⟨hc7, H⟩ | ⟨hc7, H⟩
  · refine tr e9_19 (dT hc7) rfl <| aB e9_20 <| aA e9_21 <| vv rfl (aC (.bool false) rfl) <| aD ?_
    cases H
    exact aI e9_22 (cJ Try.results9 rfl ⟨h5, rfl, st9⟩)
  refine fa e9_19 (dF hc7) rfl <| aN e9_23 <| aX <| aA e9_24 <| vv rfl (aQ .add .i64 (j1 : Int) 1 (I ((j1 + 1 : Nat) : Int)) 3 3 s12 rfl (eK hj1 (SlR.mono le4 R1).mx)) <| vv rfl (aE (I ((j1 + 1 : Nat) : Int)) rfl) <| aD <| bM ?_
  exact ih.1 (j1 := (j1 + 1)) st9 s1 s10 s11 rfl (SlR.mono le4 R1) (SlR.mono le4 R2) (le4 _ _ g2) hd2 H
theorem SLl9_1_z : SLl9_1 0 := by
  unfold SLl9_1; intros; rename_i H; exact absurd H (by simp [l9_1])
theorem SLl9_1_s (k : Nat) (ih : ZSLl9_0 k) : SLl9_1 (k + 1) := by
 intro p0 cB bF cC bG b1 j2 w0 w h0 h σ xs3 r st s1 s32 s33 s34 R3 R4 g3 hd3 H
 cases xs3 with
 | nil =>
  rw [l9_1] at H
  have hk3 := dH hd3
  refine aB e9_30 <| aA e9_31 <| vv rfl (aQ .lss .i64 (j2 : Int) (p0.S.length : Int) (.bool (decide ((j2 : Int) < (p0.S.length : Int)))) 3 3 s34 s33 rfl) <| aD <| aB e9_32 <| fa e9_33 hk3 rfl <| bW e9_35 rfl <| aB e9_71 <| aA e9_72 ?_
  obtain ⟨j3, hj3, H⟩ := dQ H
  have Jj3 : ∀ {y1 : Bool} {σ1 : Env} {w2 : World} {h2 : Sto}, Le h h2 → St w0 noM h0 h2 w2 → σ1 2 = .bool y1 → j3 y1 = some r → Run X9 [.code c9_73] σ1 w2 (.fn (Q9 w0 h0 r)) := by
   intro y1 σ1 w2 h2 le2 st2 s2_j3 H
   rw [hj3] at H
   cases H
   exact aI e9_73 (cJ Try.results9 s2_j3 ⟨h2, rfl, st2⟩)
  refine vv rfl (aF (b := b1) (o := 0) fX s1) <| vv rfl (aL (.slice cB p0.D.length cC) sc22 rfl ((aP (st.has _ _ g3)).trans rfl)) <| vv rfl (bV u22 rfl) <| vv rfl (aQ .leq .i64 (p0.D.length : Int) 40 (.bool (decide ((p0.D.length : Int) ≤ 40))) 3 3 rfl rfl rfl) <| vv rfl (aE (.bool (decide ((p0.D.length : Int) ≤ 40))) rfl) ?_
  rcases aM H with ⟨hc1, H⟩ | ⟨hc1, H⟩
  · refine aZ (wt2 (dT hc1) rfl) rfl (aF (b := b1) (o := 0) gZ s1) <| aZ (wt2 (dT hc1) rfl) rfl (aL (.slice bF p0.S.length bG) sc23 rfl ((aP (st.has _ _ g3)).trans rfl)) <| aZ (wt2 (dT hc1) rfl) rfl (bV u23 rfl) <| aZ (wt2 (dT hc1) rfl) rfl (aQ .leq .i64 (p0.S.length : Int) 40 (.bool (decide ((p0.S.length : Int) ≤ 40))) 3 3 rfl rfl rfl) <| vv rfl (dV (.bool (decide ((p0.S.length : Int) ≤ 40))) (dT hc1) rfl rfl) <| vv rfl (aC (.bool (decide ((p0.S.length : Int) ≤ 40))) rfl) <| aD ?_
    exact Jj3 (Le.refl _) st rfl H
  refine aR (wf2 (dF hc1) rfl) rfl <| aR (wf2 (dF hc1) rfl) rfl <| aR (wf2 (dF hc1) rfl) rfl <| aR (wf2 (dF hc1) rfl) rfl <| vv rfl (dW (.bool false) (dF hc1) rfl rfl) <| vv rfl (aC (.bool false) rfl) <| aD ?_
  exact Jj3 (Le.refl _) st rfl H
 | cons x2 xs4 =>
  rw [l9_1] at H
  obtain ⟨hk4, hj2, hx2, hd4⟩ := cX hd3
  refine aB e9_30 <| aA e9_31 <| vv rfl (aQ .lss .i64 (j2 : Int) (p0.S.length : Int) (.bool (decide ((j2 : Int) < (p0.S.length : Int)))) 3 3 s34 s33 rfl) <| aD <| aB e9_32 <| tr e9_33 hk4 rfl <| aN e9_34 <| aB e9_36 <| aT e9_37 <| aB e9_38 ?_
  refine aA e9_39 ?_
  obtain ⟨b2, o1, vs1, ea1, rp1, cl1⟩ := SlR.at R4 hx2
  obtain ⟨a1, c1, a2, c2, a3, c3, rfl, R5, R6, R7⟩ := GStmt.out rp1
  refine vv rfl (aY u23 sz33 s32 s34 ea1 (Int.natCast_nonneg _) (Int.ofNat_lt.2 hj2)) <| vv rfl (bH [.string x2.Name, .slice a1 x2.Index.length c1, I x2.E.Op, I x2.E.N, .string x2.E.Name, .slice a2 x2.E.Index.length c2, .slice a3 x2.E.L.length c3] ag33 sz33 rfl rfl (cl1 _ (Has.le (Le.refl _) st.has))) <| cR (.agg #[.string ByteArray.empty, .slice none 0 0, I 0, I 0, .string ByteArray.empty, .slice none 0 0, .slice none 0 0]) zr33 rfl rfl (fun b3 w3 al2 => ?_)
  replace al2 : Al _ (.cells (List.toArray [.string ByteArray.empty, .slice none 0 0, I 0, I 0, .string ByteArray.empty, .slice none 0 0, .slice none 0 0]) 33 (0, 0)) b3 w3 := al2
  have M1 := Mut.new st al2
  have lb1 := st.alB al2
  have sp2 := al2.st st.has
  have st3 := st.call0 sp2
  refine aV (o := 0) (n := 7) [.string x2.Name, .slice a1 x2.Index.length c1, I x2.E.Op, I x2.E.N, .string x2.E.Name, .slice a2 x2.E.Index.length c2, .slice a3 x2.E.L.length c3] [.string x2.Name, .slice a1 x2.Index.length c1, I x2.E.Op, I x2.E.N, .string x2.E.Name, .slice a2 x2.E.Index.length c2, .slice a3 x2.E.L.length c3] (.agg #[.string x2.Name, .slice a1 x2.Index.length c1, I x2.E.Op, I x2.E.N, .string x2.E.Name, .slice a2 x2.E.Index.length c2, .slice a3 x2.E.L.length c3]) sz33 rfl rfl rfl rfl M1 rfl rfl rfl rfl rfl (fun w4 wr1 M2 => ?_)
  have sp3 := wr1.st st3.has M1.none
  have st4 := st3.call sp3 (fun x e => (.inl (e ▸ lb1)))
  obtain ⟨h3, le3, g4, st5, kp1⟩ := M2.fz st4 lb1
  refine aD <| aB e9_40 <| aB e9_41 <| aA e9_42 <| vv rfl (aF (b := b3) (o := 0) fl33_2 rfl) <| vv rfl (bH [I x2.E.Op, I x2.E.N, .string x2.E.Name, .slice a2 x2.E.Index.length c2, .slice a3 x2.E.L.length c3] ag31 dJ rfl rfl (aW (st5.has _ _ g4) rfl)) ?_
  obtain ⟨r1, hr1, H⟩ := aK H
  refine aU [.agg #[I x2.E.Op, I x2.E.N, .string x2.E.Name, .slice a2 x2.E.Index.length c2, .slice a3 x2.E.L.length c3], I 20] en25 rfl rfl rfl (F25 k (p0 := x2.E) st5.has (SlR.mono le3 R6) (SlR.mono le3 R7) hr1) ?_
  rintro _ w5 ⟨h4, rfl, sp4⟩
  have st6 := st5.call0 sp4
  refine vv rfl (eZ r1 4 rfl) <| vv rfl (aE (.bool (!r1)) rfl) ?_
  rcases aM H with ⟨hc2, H⟩ | ⟨hc2, H⟩
  · refine aZ (wt2 (bK hc2) rfl) rfl (aF (b := b3) (o := 0) fl33_1 rfl) <| aZ (wt2 (bK hc2) rfl) rfl (aL (.slice a1 x2.Index.length c1) sc28 rfl ((aP (st6.has _ _ (sp4.le _ _ g4))).trans rfl)) <| aZ (wt2 (bK hc2) rfl) rfl (bV u28 rfl) <| aZ (wt2 (bK hc2) rfl) rfl (aQ .gtr .i64 (x2.Index.length : Int) 20 (.bool (decide (20 < (x2.Index.length : Int)))) 3 3 rfl rfl rfl) <| vv rfl (dW (.bool (decide (20 < (x2.Index.length : Int)))) (bK hc2) rfl rfl) <| vv rfl (aE (.bool (decide (20 < (x2.Index.length : Int)))) rfl) ?_
    rcases aM H with ⟨hc3, H⟩ | ⟨hc3, H⟩
    · refine aR (wf2 (dT hc3) rfl) rfl <| aR (wf2 (dT hc3) rfl) rfl <| aR (wf2 (dT hc3) rfl) rfl <| aR (wf2 (dT hc3) rfl) rfl <| vv rfl (dV (.bool true) (dT hc3) rfl rfl) <| aD <| cV e9_43 (p := true) rfl rfl <| aB e9_44 <| aA e9_45 <| vv rfl (aC (.bool false) rfl) ?_
      refine aD ?_
      cases H
      exact aI e9_46 (cJ Try.results9 rfl ⟨h4, rfl, st6⟩)
    refine aZ (wt2 (dF hc3) rfl) rfl (aF (b := b3) (o := 0) fl33_0 rfl) <| aZ (wt2 (dF hc3) rfl) rfl (aL (.string x2.Name) sc9 rfl ((aP (st6.has _ _ (sp4.le _ _ g4))).trans rfl)) <| aZ (wt2 (dF hc3) rfl) rfl (fA u9 rfl) <| aZ (wt2 (dF hc3) rfl) rfl (aQ .gtr .i64 (x2.Name.size : Int) 100 (.bool (decide (100 < (x2.Name.size : Int)))) 3 3 rfl rfl rfl) <| vv rfl (dW (.bool (decide (100 < (x2.Name.size : Int)))) (dF hc3) rfl rfl) <| aD ?_
    rcases aM H with ⟨hc4, H⟩ | ⟨hc4, H⟩
    · refine tr e9_43 (dT hc4) rfl <| aB e9_44 <| aA e9_45 <| vv rfl (aC (.bool false) rfl) <| aD ?_
      cases H
      exact aI e9_46 (cJ Try.results9 rfl ⟨h4, rfl, st6⟩)
    refine fa e9_43 (dF hc4) rfl <| aN e9_47 <| aB e9_48 <| aA e9_49 <| vv rfl (aF (b := b3) (o := 0) fl33_1 rfl) <| vv rfl (aL (.slice a1 x2.Index.length c1) sc28 rfl ((aP (st6.has _ _ (sp4.le _ _ g4))).trans rfl)) <| vv rfl (bV u28 rfl) <| vv rfl (aE (I 0) rfl) <| aD <| aT e9_50 ?_
    refine cH e9_51 ?_
    exact ih.2.2 (j5 := 0) st6 s1 s32 s33 s34 rfl rfl rfl (SlR.mono (le3.trans sp4.le) R3) (SlR.mono (le3.trans sp4.le) R4) ((le3.trans sp4.le) _ _ g3) (SlR.mono (le3.trans sp4.le) R5) rfl hd4 hj2 hx2 H
  refine aR (wf2 (bJ (cG hc2)) rfl) rfl <| aR (wf2 (bJ (cG hc2)) rfl) rfl <| aR (wf2 (bJ (cG hc2)) rfl) rfl <| aR (wf2 (bJ (cG hc2)) rfl) rfl <| vv rfl (dV (.bool true) (bJ (cG hc2)) rfl rfl) <| vv rfl (aE (.bool true) rfl) <| aR (wf (p := true) rfl rfl) rfl <| aR (wf (p := true) rfl rfl) rfl <| aR (wf (p := true) rfl rfl) rfl <| aR (wf (p := true) rfl rfl) rfl ?_
  refine vv rfl (x_pickT (.bool true) (p := true) rfl rfl rfl) <| aD <| cV e9_43 (p := true) rfl rfl <| aB e9_44 <| aA e9_45 <| vv rfl (aC (.bool false) rfl) <| aD ?_
  cases H
  exact aI e9_46 (cJ Try.results9 rfl ⟨h4, rfl, st6⟩)
theorem SLl9_2_z : SLl9_2 0 := by
  unfold SLl9_2; intros; rename_i H; exact absurd H (by simp [l9_2])
theorem SLl9_2_s (k : Nat) (ih : ZSLl9_0 k) : SLl9_2 (k + 1) := by
 intro p0 cB bF a1 cC bG b1 j2 c1 j5 w0 w h0 h σ x2 xs4 xs5 r st s1 s32 s33 s34 s55 s56 s57 R8 R9 g5 R10 hd5 hd4 hj2 hx2 H
 cases xs5 with
 | nil =>
  rw [l9_2] at H
  have hk5 := dH hd5
  refine aB e9_52 <| aA e9_53 <| vv rfl (aQ .lss .i64 (j5 : Int) (x2.Index.length : Int) (.bool (decide ((j5 : Int) < (x2.Index.length : Int)))) 3 3 s57 s56 rfl) <| aD <| aB e9_54 <| fa e9_55 hk5 rfl <| bW e9_57 rfl <| aX <| aA e9_70 <| vv rfl (aQ .add .i64 (j2 : Int) 1 (I ((j2 + 1 : Nat) : Int)) 3 3 s34 rfl (eK hj2 R9.mx)) ?_
  refine vv rfl (aE (I ((j2 + 1 : Nat) : Int)) rfl) <| aD <| bM ?_
  exact ih.2.1 (j2 := (j2 + 1)) st s1 s32 s33 rfl R8 R9 g5 hd4 H
 | cons x3 xs6 =>
  rw [l9_2] at H
  obtain ⟨hk6, hj3, hx3, hd6⟩ := cX hd5
  refine aB e9_52 <| aA e9_53 <| vv rfl (aQ .lss .i64 (j5 : Int) (x2.Index.length : Int) (.bool (decide ((j5 : Int) < (x2.Index.length : Int)))) 3 3 s57 s56 rfl) <| aD <| aB e9_54 <| tr e9_55 hk6 rfl <| aN e9_56 <| aB e9_58 <| aT e9_59 <| aB e9_60 ?_
  refine aA e9_61 ?_
  obtain ⟨b4, o2, vs2, ea2, rp2, cl2⟩ := SlR.at R10 hx3
  obtain rfl := rp2
  refine vv rfl (aY u28 sz9 s55 s57 ea2 (Int.natCast_nonneg _) (Int.ofNat_lt.2 hj3)) <| vv rfl (aL (.string x3) sc9 rfl (((cl2 _ (Has.le (Le.refl _) st.has)) 0 (by decide)).trans rfl)) <| vv rfl (aC (.string x3) rfl) <| aD <| aB e9_62 <| aA e9_63 <| vv rfl (aE (.string x3) rfl) <| vv rfl (fA u9 rfl) <| vv rfl (aQ .gtr .i64 (x3.size : Int) 100 (.bool (decide (100 < (x3.size : Int)))) 3 3 rfl rfl rfl) <| aD ?_
  rcases aM H with ⟨hc5, H⟩ | ⟨hc5, H⟩
  · refine tr e9_64 (dT hc5) rfl <| aB e9_65 <| aA e9_66 <| vv rfl (aC (.bool false) rfl) <| aD ?_
    cases H
    exact aI e9_67 (cJ Try.results9 rfl ⟨h, rfl, st⟩)
  refine fa e9_64 (dF hc5) rfl <| aN e9_68 <| aX <| aA e9_69 <| vv rfl (aQ .add .i64 (j5 : Int) 1 (I ((j5 + 1 : Nat) : Int)) 3 3 s57 rfl (eK hj3 R10.mx)) <| vv rfl (aE (I ((j5 + 1 : Nat) : Int)) rfl) <| aD <| bM ?_
  exact ih.2.2 (j5 := (j5 + 1)) st s1 s32 s33 s34 s55 s56 rfl R8 R9 g5 R10 hd6 hd4 hj2 hx2 H
theorem ZSLl9_0_all : ∀ k, ZSLl9_0 k
  | 0 => ⟨SLl9_0_z, SLl9_1_z, SLl9_2_z⟩
  | k + 1 => ⟨SLl9_0_s k (ZSLl9_0_all k), SLl9_1_s k (ZSLl9_0_all k), SLl9_2_s k (ZSLl9_0_all k)⟩
theorem Fl9_0 (k : Nat) : SLl9_0 k := (ZSLl9_0_all k).1
theorem F9 (k : Nat) : S9 k := by
 intro p0 cB bF cC bG w0 h0 hh Rp0_D Rp0_S r H
 unfold m9 at H
 refine aO (fn := Try.f9) Try.func9 rfl (Nat.le_of_ble_eq_true rfl) ?_
 show Run X9 [.code c9_0] (fun t => List.getD [.agg #[.slice cB p0.D.length cC, .slice bF p0.S.length bG]] t undef) w0 (.fn (Q9 w0 h0 r))
 have st0 := St.init hh noM
 refine aB e9_0 <| aA e9_1 <| eY (.agg #[.slice cB p0.D.length cC, .slice bF p0.S.length bG]) rfl rfl rfl (fun b1 w1 al1 => ?_)
 replace al1 : Al _ (.cells (List.toArray [.slice cB p0.D.length cC, .slice bF p0.S.length bG]) 25 (0, 0)) b1 w1 := al1
 obtain ⟨h1, le1, g1, sp1⟩ := al1.fz st0.has
 have st1 := st0.call0 sp1
 refine vv rfl (aC (.bool false) rfl) <| aD <| aB e9_2 <| aB e9_3 <| aA e9_4 <| vv rfl (aF (b := b1) (o := 0) fX rfl) <| vv rfl (aL (.slice cB p0.D.length cC) sc22 rfl ((aP (st1.has _ _ g1)).trans rfl)) <| vv rfl (bV u22 rfl) <| vv rfl (aE (I 0) rfl) <| aD ?_
 refine aT e9_5 <| cH e9_6 ?_
 exact Fl9_0 k (j1 := 0) st1 rfl rfl rfl rfl (SlR.mono le1 Rp0_D) (SlR.mono le1 Rp0_S) g1 rfl H
abbrev ZSLl5_0 (k : Nat) : Prop := SLl5_0 k
theorem SLl5_0_z : SLl5_0 0 := by
  unfold SLl5_0; intros; rename_i H; exact absurd H (by simp [l5_0])
theorem SLl5_0_s (k : Nat) (ih : ZSLl5_0 k) : SLl5_0 (k + 1) := by
 intro p0 cB bF a1 cC bG b1 b4 c1 j6 w0 w h0 h r1 y3 σ xs1 r st s2 s5 s10 s89 s90 s91 R5 R6 g5 R7 R8 g6 hd1 H
 cases xs1 with
 | nil =>
  rw [l5_0] at H
  have hk1 := dH hd1
  refine aB e5_41 <| aA e5_42 <| vv rfl (aQ .lss .i64 (j6 : Int) (p0.S.length : Int) (.bool (decide ((j6 : Int) < (p0.S.length : Int)))) 3 3 s91 s90 rfl) <| aD <| aB e5_43 <| fa e5_44 hk1 rfl <| bW e5_46 rfl <| aB e5_63 <| aA e5_64 <| vv rfl (aE (.bool r1) s5) ?_
  refine vv rfl (aC (.bool r1) rfl) <| aD ?_
  cases H
  exact aI e5_65 (cJ Try.results5 rfl ⟨h, rfl, st⟩)
 | cons x1 xs2 =>
  rw [l5_0] at H
  obtain ⟨hk2, hj1, hx1, hd2⟩ := cX hd1
  refine aB e5_41 <| aA e5_42 <| vv rfl (aQ .lss .i64 (j6 : Int) (p0.S.length : Int) (.bool (decide ((j6 : Int) < (p0.S.length : Int)))) 3 3 s91 s90 rfl) <| aD <| aB e5_43 <| tr e5_44 hk2 rfl <| aN e5_45 <| aB e5_47 <| aT e5_48 <| aB e5_49 ?_
  refine aA e5_50 ?_
  obtain ⟨b5, o1, vs1, ea1, rp1, cl1⟩ := SlR.at R6 hx1
  obtain ⟨a2, c2, a3, c3, a4, c4, rfl, R9, R10, R11⟩ := GStmt.out rp1
  refine vv rfl (aY u23 sz33 s89 s91 ea1 (Int.natCast_nonneg _) (Int.ofNat_lt.2 hj1)) <| vv rfl (bH [.string x1.Name, .slice a2 x1.Index.length c2, I x1.E.Op, I x1.E.N, .string x1.E.Name, .slice a3 x1.E.Index.length c3, .slice a4 x1.E.L.length c4] ag33 sz33 rfl rfl (cl1 _ (Has.le (Le.refl _) st.has))) <| cR (.agg #[.string ByteArray.empty, .slice none 0 0, I 0, I 0, .string ByteArray.empty, .slice none 0 0, .slice none 0 0]) zr33 rfl rfl (fun b6 w13 al6 => ?_)
  replace al6 : Al _ (.cells (List.toArray [.string ByteArray.empty, .slice none 0 0, I 0, I 0, .string ByteArray.empty, .slice none 0 0, .slice none 0 0]) 33 (0, 0)) b6 w13 := al6
  have M1 := Mut.new st al6
  have lb1 := st.alB al6
  have sp12 := al6.st st.has
  have st14 := st.call0 sp12
  refine aV (o := 0) (n := 7) [.string x1.Name, .slice a2 x1.Index.length c2, I x1.E.Op, I x1.E.N, .string x1.E.Name, .slice a3 x1.E.Index.length c3, .slice a4 x1.E.L.length c4] [.string x1.Name, .slice a2 x1.Index.length c2, I x1.E.Op, I x1.E.N, .string x1.E.Name, .slice a3 x1.E.Index.length c3, .slice a4 x1.E.L.length c4] (.agg #[.string x1.Name, .slice a2 x1.Index.length c2, I x1.E.Op, I x1.E.N, .string x1.E.Name, .slice a3 x1.E.Index.length c3, .slice a4 x1.E.L.length c4]) sz33 rfl rfl rfl rfl M1 rfl rfl rfl rfl rfl (fun w14 wr1 M2 => ?_)
  have sp13 := wr1.st st14.has M1.none
  have st15 := st14.call sp13 (fun x e => (.inl (e ▸ lb1)))
  obtain ⟨h13, le8, g7, st16, kp3⟩ := M2.fz st15 lb1
  refine aD <| aB e5_51 <| aA e5_52 <| vv rfl (bH [.string x1.Name, .slice a2 x1.Index.length c2, I x1.E.Op, I x1.E.N, .string x1.E.Name, .slice a3 x1.E.Index.length c3, .slice a4 x1.E.L.length c4] ag33 sz33 rfl rfl (aW (st16.has _ _ g7) rfl)) <| vv rfl (aF (b := b1) (o := 0) fX s2) <| vv rfl (aL (.slice cB p0.D.length cC) sc22 rfl ((aP (st16.has _ _ (le8 _ _ g5))).trans rfl)) ?_
  obtain ⟨r6, hr6, H⟩ := aK H
  refine aU [.agg #[.string x1.Name, .slice a2 x1.Index.length c2, I x1.E.Op, I x1.E.N, .string x1.E.Name, .slice a3 x1.E.Index.length c3, .slice a4 x1.E.L.length c4], .slice cB p0.D.length cC] en10 rfl rfl rfl (F10 k (p0 := x1) st16.has (SlR.mono le8 R9) (SlR.mono le8 R10) (SlR.mono le8 R11) (SlR.mono le8 R5) hr6) ?_
  rintro _ w15 ⟨a5, c5, h14, rfl, sp14, R12⟩
  have st17 := st16.call0 sp14
  refine vv rfl (aE (.tuple #[.slice a5 r6.1.length c5, I r6.2]) rfl) <| vv rfl (bL (.slice a5 r6.1.length c5) rfl rfl) <| vv rfl (bL (I r6.2) rfl rfl) <| vv rfl (aC (.slice a5 r6.1.length c5) rfl) <| vv rfl (aC (I r6.2) rfl) <| aD <| aB e5_53 <| aA e5_54 <| vv rfl (bH [.string x1.Name, .slice a2 x1.Index.length c2, I x1.E.Op, I x1.E.N, .string x1.E.Name, .slice a3 x1.E.Index.length c3, .slice a4 x1.E.L.length c4] ag33 sz33 rfl rfl (aW (st17.has _ _ (sp14.le _ _ g7)) rfl)) <| vv rfl (aF (b := b4) (o := 0) fX s10) ?_
  refine vv rfl (aL (.slice a1 y3.length c1) sc22 rfl ((aP (st17.has _ _ ((le8.trans sp14.le) _ _ g6))).trans rfl)) ?_
  obtain ⟨r7, hr7, H⟩ := aK H
  refine aU [.agg #[.string x1.Name, .slice a2 x1.Index.length c2, I x1.E.Op, I x1.E.N, .string x1.E.Name, .slice a3 x1.E.Index.length c3, .slice a4 x1.E.L.length c4], .slice a1 y3.length c1] en10 rfl rfl rfl (F10 k (p0 := x1) st17.has (SlR.mono (le8.trans sp14.le) R9) (SlR.mono (le8.trans sp14.le) R10) (SlR.mono (le8.trans sp14.le) R11) (SlR.mono (le8.trans sp14.le) R7) hr7) ?_
  rintro _ w16 ⟨a6, c6, h15, rfl, sp15, R13⟩
  have st18 := st17.call0 sp15
  refine vv rfl (aE (.tuple #[.slice a6 r7.1.length c6, I r7.2]) rfl) <| vv rfl (bL (.slice a6 r7.1.length c6) rfl rfl) <| vv rfl (bL (I r7.2) rfl rfl) <| vv rfl (aC (.slice a6 r7.1.length c6) rfl) <| vv rfl (aC (I r7.2) rfl) <| aD <| aB e5_55 <| aA e5_56 <| vv rfl (aE (I r6.2) rfl) <| vv rfl (aE (I r7.2) rfl) ?_
  refine vv rfl (aQ .neq .i64 r6.2 r7.2 (.bool (!decide (r6.2 = r7.2))) 35 35 rfl rfl rfl) <| vv rfl (aE (.bool (!decide (r6.2 = r7.2))) rfl) ?_
  rcases aM H with ⟨hc9, H⟩ | ⟨hc9, H⟩
  · refine aZ (wt2 (bK (dT hc9)) rfl) rfl (aE (.slice a5 r6.1.length c5) rfl) <| aZ (wt2 (bK (dT hc9)) rfl) rfl (aE (.slice a6 r7.1.length c6) rfl) ?_
    obtain ⟨r8, hr8, H⟩ := aK H
    refine aU [.slice a5 r6.1.length c5, .slice a6 r7.1.length c6] en16 (wt2 (bK (dT hc9)) rfl) rfl rfl (F16 k st18.has (SlR.mono sp15.le R12) R13 hr8) ?_
    rintro _ w17 ⟨h16, rfl, sp16⟩
    have st19 := st18.call0 sp16
    refine aZ (wt2 (bK (dT hc9)) rfl) rfl (eZ r8 4 rfl) <| vv rfl (dW (.bool (!r8)) (bK (dT hc9)) rfl rfl) <| aD ?_
    rcases aM H with ⟨hc10, H⟩ | ⟨hc10, H⟩
    · refine fa e5_57 (bK hc10) rfl <| aN e5_61 <| aX <| aA e5_62 <| vv rfl (aQ .add .i64 (j6 : Int) 1 (I ((j6 + 1 : Nat) : Int)) 3 3 s91 rfl (eK hj1 (SlR.mono (le8.trans (sp14.le.trans (sp15.le.trans sp16.le))) R6).mx)) <| vv rfl (aE (I ((j6 + 1 : Nat) : Int)) rfl) <| aD <| bM ?_
      exact ih (j6 := (j6 + 1)) st19 s2 s5 s10 s89 s90 rfl (SlR.mono (le8.trans (sp14.le.trans (sp15.le.trans sp16.le))) R5) (SlR.mono (le8.trans (sp14.le.trans (sp15.le.trans sp16.le))) R6) ((le8.trans (sp14.le.trans (sp15.le.trans sp16.le))) _ _ g5) (SlR.mono (le8.trans (sp14.le.trans (sp15.le.trans sp16.le))) R7) (SlR.mono (le8.trans (sp14.le.trans (sp15.le.trans sp16.le))) R8) ((le8.trans (sp14.le.trans (sp15.le.trans sp16.le))) _ _ g6) hd2 H
    refine tr e5_57 (bJ (cG hc10)) rfl <| aB e5_58 <| aA e5_59 <| vv rfl (aC (.bool false) rfl) <| aD ?_
    cases H
    exact aI e5_60 (cJ Try.results5 rfl ⟨h16, rfl, st19⟩)
  refine aR (wf2 (bJ (dF hc9)) rfl) rfl <| aR (wf2 (bJ (dF hc9)) rfl) rfl <| aR (wf2 (bJ (dF hc9)) rfl) rfl <| aR (wf2 (bJ (dF hc9)) rfl) rfl <| vv rfl (dV (.bool true) (bJ (dF hc9)) rfl rfl) <| aD <| cV e5_57 (p := true) rfl rfl <| aB e5_58 <| aA e5_59 <| vv rfl (aC (.bool false) rfl) ?_
  refine aD ?_
  cases H
  exact aI e5_60 (cJ Try.results5 rfl ⟨h15, rfl, st18⟩)
theorem ZSLl5_0_all : ∀ k, ZSLl5_0 k
  | 0 => SLl5_0_z
  | k + 1 => SLl5_0_s k (ZSLl5_0_all k)
theorem Fl5_0 (k : Nat) : SLl5_0 k := (ZSLl5_0_all k)
theorem F5 (k : Nat) : S5 k := by
 intro p0 cB bF bN cC bG bO p1 w0 h0 hh Rp0_D Rp0_S gD r H
 unfold m5 at H
 refine aO (fn := Try.f5) Try.func5 rfl (Nat.le_of_ble_eq_true rfl) ?_
 show Run X5 [.code c5_0] (fun t => List.getD [.agg #[.slice cB p0.D.length cC, .slice bF p0.S.length bG], .agg #[.string p1.Name, .slice bN p1.Shape.length bO, .string p1.Form, I p1.Block]] t undef) w0 (.fn (Q5 w0 h0 r))
 have st0 := St.init hh noM
 refine aB e5_0 <| aA e5_1 <| eY (.agg #[.slice cB p0.D.length cC, .slice bF p0.S.length bG]) rfl rfl rfl (fun b1 w1 al1 => ?_)
 replace al1 : Al _ (.cells (List.toArray [.slice cB p0.D.length cC, .slice bF p0.S.length bG]) 25 (0, 0)) b1 w1 := al1
 obtain ⟨h1, le1, g1, sp1⟩ := al1.fz st0.has
 have st1 := st0.call0 sp1
 refine eY (.agg #[.string p1.Name, .slice bN p1.Shape.length bO, .string p1.Form, I p1.Block]) rfl rfl rfl (fun b2 w2 al2 => ?_)
 replace al2 : Al _ (.cells (List.toArray [.string p1.Name, .slice bN p1.Shape.length bO, .string p1.Form, I p1.Block]) 45 (0, 0)) b2 w2 := al2
 obtain ⟨h2, le2, g2, sp2⟩ := al2.fz st1.has
 have st2 := st1.call0 sp2
 refine vv rfl (aC (.bool false) rfl) <| aD <| aB e5_2 <| aA e5_3 ?_
 obtain ⟨r1, hr1, H⟩ := aK H
 refine aU [] en8 rfl rfl rfl (F8 k st2.has hr1) ?_
 rintro _ w3 ⟨h3, rfl, sp3⟩
 have st3 := st2.call0 sp3
 refine vv rfl (aC (.bool r1) rfl) <| aD <| aB e5_4 <| aB e5_5 <| aA e5_6 <| vv rfl (bH [.slice cB p0.D.length cC, .slice bF p0.S.length bG] ag25 sz25 rfl rfl (aW (st3.has _ _ ((le2.trans sp3.le) _ _ g1)) rfl)) ?_
 obtain ⟨r2, hr2, H⟩ := aK H
 refine aU [.agg #[.slice cB p0.D.length cC, .slice bF p0.S.length bG]] en9 rfl rfl rfl (F9 k (p0 := p0) st3.has (SlR.mono (le1.trans (le2.trans sp3.le)) Rp0_D) (SlR.mono (le1.trans (le2.trans sp3.le)) Rp0_S) hr2) ?_
 rintro _ w4 ⟨h4, rfl, sp4⟩
 have st4 := st3.call0 sp4
 refine vv rfl (eZ r2 4 rfl) <| vv rfl (aE (.bool (!r2)) rfl) ?_
 rcases aM H with ⟨hc1, H⟩ | ⟨hc1, H⟩
 · refine aZ (wt2 (bK hc1) rfl) rfl (bH [.string p1.Name, .slice bN p1.Shape.length bO, .string p1.Form, I p1.Block] ag45 sz45 rfl rfl (aW (st4.has _ _ ((sp3.le.trans sp4.le) _ _ g2)) rfl)) <| cK [.string ByteArray.empty, .slice none 0 0, .string ByteArray.empty, I 0] [.string p1.Name, .slice bN p1.Shape.length bO, .string p1.Form, I p1.Block] [(0, .agg #[.string p1.Name, .slice bN p1.Shape.length bO, .string p1.Form, I p1.Block])] u22 sz45 zr45 (wt2 (bK hc1) rfl) rfl rfl rfl (by kernel_rfl) rfl (by kernel_rfl) (fun b3 w5 al3 => ?_)
   have li1 : Lits h4 [[.string p1.Name, .slice bN p1.Shape.length bO, .string p1.Form, I p1.Block]] ([p1] : List GDecl) := (Lits.cons (GDecl.into (h := h4) (x := p1) (SlR.mono (le1.trans (le2.trans (sp3.le.trans sp4.le))) gD)) Lits.nil)
   obtain ⟨h5, le3, g3, sp5⟩ := al3.fz st4.has
   have st5 := st4.call0 sp5
   have R1 : SlR _ _ _ ([p1] : List GDecl) := Lits.sl (n := 1) (Lits.mono le3 li1) rfl rfl (by decide) g3
   refine aZ (wt2 (bK hc1) rfl) rfl (dK (vs := [.slice (some ⟨b3, 0, none⟩) 1 1, .slice none 0 0]) [(0, .slice (some ⟨b3, 0, none⟩) 1 1)] bd25 rfl rfl) ?_
   obtain ⟨r3, hr3, H⟩ := aK H
   refine aU [.agg #[.slice (some ⟨b3, 0, none⟩) 1 1, .slice none 0 0]] en9 (wt2 (bK hc1) rfl) rfl rfl (F9 k (p0 := (⟨([p1] : List GDecl), []⟩ : GProg)) st5.has R1 (SlR.none _) hr3) ?_
   rintro _ w6 ⟨h6, rfl, sp6⟩
   have st6 := st5.call0 sp6
   refine aZ (wt2 (bK hc1) rfl) rfl (eZ r3 4 rfl) <| vv rfl (dW (.bool (!r3)) (bK hc1) rfl rfl) <| vv rfl (aE (.bool (!r3)) rfl) ?_
   rcases aM H with ⟨hc2, H⟩ | ⟨hc2, H⟩
   · refine aZ (wt2 (bK hc2) rfl) rfl (aF (b := b1) (o := 0) fX rfl) <| aZ (wt2 (bK hc2) rfl) rfl (aL (.slice cB p0.D.length cC) sc22 rfl ((aP (st6.has _ _ ((le2.trans (sp3.le.trans (sp4.le.trans (le3.trans sp6.le)))) _ _ g1))).trans rfl)) <| aZ (wt2 (bK hc2) rfl) rfl (bV u22 rfl) <| aZ (wt2 (bK hc2) rfl) rfl (aQ .geq .i64 (p0.D.length : Int) 32 (.bool (decide (32 ≤ (p0.D.length : Int)))) 3 3 rfl rfl rfl) <| vv rfl (dW (.bool (decide (32 ≤ (p0.D.length : Int)))) (bK hc2) rfl rfl) <| aD ?_
     rcases aM H with ⟨hc3, H⟩ | ⟨hc3, H⟩
     · refine tr e5_7 (dT hc3) rfl <| aB e5_8 <| aA e5_9 <| vv rfl (aE (.bool r1) rfl) <| vv rfl (aC (.bool r1) rfl) <| aD ?_
       cases H
       exact aI e5_10 (cJ Try.results5 rfl ⟨h6, rfl, st6⟩)
     refine fa e5_7 (dF hc3) rfl <| aN e5_11 <| aB e5_12 <| aA e5_13 <| vv rfl (bH [.slice cB p0.D.length cC, .slice bF p0.S.length bG] ag25 sz25 rfl rfl (aW (st6.has _ _ ((le2.trans (sp3.le.trans (sp4.le.trans (le3.trans sp6.le)))) _ _ g1)) rfl)) ?_
     obtain ⟨r4, hr4, H⟩ := aK H
     refine aU [.agg #[.slice cB p0.D.length cC, .slice bF p0.S.length bG]] en14 rfl rfl rfl (F14 k (p0 := p0) st6.has (SlR.mono (le1.trans (le2.trans (sp3.le.trans (sp4.le.trans (le3.trans sp6.le))))) Rp0_D) (SlR.mono (le1.trans (le2.trans (sp3.le.trans (sp4.le.trans (le3.trans sp6.le))))) Rp0_S) hr4) ?_
     rintro _ w7 ⟨h7, rfl, sp7⟩
     have st7 := st6.call0 sp7
     refine vv rfl (aE (.tuple #[I r4.1, I r4.2]) rfl) <| vv rfl (bL (I r4.1) rfl rfl) <| vv rfl (bL (I r4.2) rfl rfl) <| vv rfl (aC (I r4.1) rfl) <| vv rfl (aC (I r4.2) rfl) <| aD <| aB e5_14 ?_
     obtain ⟨j2, hj2, H⟩ := dQ H
     have Jj2 : ∀ {y1 y2 : Int} {σ1 : Env} {w9 : World} {h8 : Sto}, Le h7 h8 → St w0 noM h0 h8 w9 → σ1 2 = .pointer (some ⟨b1, 0, none⟩) → σ1 3 = .pointer (some ⟨b2, 0, none⟩) → σ1 5 = .bool r1 → σ1 6 = I r4.1 → σ1 7 = I r4.2 → σ1 8 = I y1 → σ1 9 = I y2 → j2 y1 y2 = some r → Run X5 [.code c5_16] σ1 w9 (.fn (Q5 w0 h0 r)) := by
      intro y1 y2 σ1 w9 h8 le4 st9 s2_j2 s3_j2 s5_j2 s6_j2 s7_j2 s8_j2 s9_j2 H
      rw [hj2] at H
      refine aB e5_16 <| aB e5_17 <| aA e5_18 <| vv rfl (aE (I r4.2) s7_j2) <| vv rfl (aQ .neq .i64 r4.2 0 (.bool (!decide (r4.2 = 0))) 35 35 rfl rfl rfl) <| vv rfl (aE (.bool (!decide (r4.2 = 0))) rfl) ?_
      rcases aM H with ⟨hc4, H⟩ | ⟨hc4, H⟩
      · refine aZ (wt2 (bK (dT hc4)) rfl) rfl (aE (I y2) s9_j2) <| aZ (wt2 (bK (dT hc4)) rfl) rfl (aQ .neq .i64 y2 0 (.bool (!decide (y2 = 0))) 35 35 rfl rfl rfl) <| vv rfl (dW (.bool (!decide (y2 = 0))) (bK (dT hc4)) rfl rfl) <| aD ?_
        rcases aM H with ⟨hc5, H⟩ | ⟨hc5, H⟩
        · refine fa e5_19 (bK (dT hc5)) rfl <| aN e5_23 <| aB e5_24 ?_
          obtain ⟨j4, hj4, H⟩ := dQ H
          have Jj4 : ∀ {y3 : (List GDecl)} {b4 c1 : Nat} {a1 : OA} {σ2 : Env} {w11 : World} {h9 : Sto}, Le h8 h9 → St w0 noM h0 h9 w11 → σ2 2 = .pointer (some ⟨b1, 0, none⟩) → σ2 5 = .bool r1 → σ2 6 = I r4.1 → σ2 8 = I y1 → σ2 10 = .pointer (some ⟨b4, 0, none⟩) → Own 45 w0.heap.size h9 w11 a1 c1 y3 → SlR h9 bF bG p0.S → h9 b4 = some (.cells (List.toArray [.slice a1 y3.length c1, .slice bF p0.S.length bG]) 25 (0, 0)) → j4 y3 = some r → Run X5 [.code c5_26] σ2 w11 (.fn (Q5 w0 h0 r)) := by
           intro y3 b4 c1 a1 σ2 w11 h9 le5 st11 s2_j4 s5_j4 s6_j4 s8_j4 s10_j4 O1 R2 g4 H
           rw [hj4] at H
           refine aB e5_26 <| aA e5_27 <| vv rfl (bH [.slice a1 y3.length c1, .slice bF p0.S.length bG] ag25 sz25 s10_j4 rfl (aW (st11.has _ _ g4) rfl)) ?_
           obtain ⟨h10, le6, R3, hh1, kp1⟩ := Own.lend O1 st11.has
           obtain ⟨r5, hr5, H⟩ := aK H
           refine aU [.agg #[.slice a1 y3.length c1, .slice bF p0.S.length bG]] en14 rfl rfl rfl (F14 k (p0 := (⟨y3, p0.S⟩ : GProg)) hh1 R3 (SlR.mono le6 R2) hr5) ?_
           rintro _ w12 ⟨h11, rfl, sp10⟩
           have sp11 := St.lend sp10 le6
           have O2 := O1.call0 sp11
           have st12 := st11.call0 sp11
           refine vv rfl (aE (.tuple #[I r5.1, I r5.2]) rfl) <| vv rfl (bL (I r5.1) rfl rfl) <| vv rfl (bL (I r5.2) rfl rfl) <| vv rfl (aC (I r5.1) rfl) <| vv rfl (aC (I r5.2) rfl) <| aD <| aB e5_28 <| aB e5_29 <| aA e5_30 <| vv rfl (aE (I r5.2) rfl) ?_
           refine vv rfl (aQ .neq .i64 r5.2 0 (.bool (!decide (r5.2 = 0))) 35 35 rfl rfl rfl) <| vv rfl (aE (.bool (!decide (r5.2 = 0))) rfl) ?_
           rcases aM H with ⟨hc6, H⟩ | ⟨hc6, H⟩
           · refine aZ (wt2 (bK (dT hc6)) rfl) rfl (aE (I r5.1) rfl) <| aZ (wt2 (bK (dT hc6)) rfl) rfl (aE (I r4.1) s6_j4) <| aZ (wt2 (bK (dT hc6)) rfl) rfl (aQ .add .i64 r4.1 1 (I (wr (r4.1 + 1))) 3 3 rfl rfl rfl) <| aZ (wt2 (bK (dT hc6)) rfl) rfl (aQ .neq .i64 r5.1 (wr (r4.1 + 1)) (.bool (!decide (r5.1 = (wr (r4.1 + 1))))) 3 3 rfl rfl rfl) <| vv rfl (dW (.bool (!decide (r5.1 = (wr (r4.1 + 1))))) (bK (dT hc6)) rfl rfl) <| vv rfl (aE (.bool (!decide (r5.1 = (wr (r4.1 + 1))))) rfl) ?_
             rcases aM H with ⟨hc7, H⟩ | ⟨hc7, H⟩
             · refine aZ (wt2 (bK (dT hc7)) rfl) rfl (aE (I y1) s8_j4) <| aZ (wt2 (bK (dT hc7)) rfl) rfl (aF (b := b4) (o := 0) fX s10_j4) <| aZ (wt2 (bK (dT hc7)) rfl) rfl (aL (.slice a1 y3.length c1) sc22 rfl ((aP (st12.has _ _ g4)).trans rfl)) <| aZ (wt2 (bK (dT hc7)) rfl) rfl (bV u22 rfl) <| aZ (wt2 (bK (dT hc7)) rfl) rfl (aQ .neq .i64 y1 (y3.length : Int) (.bool (!decide (y1 = (y3.length : Int)))) 3 3 rfl rfl rfl) <| vv rfl (dW (.bool (!decide (y1 = (y3.length : Int)))) (bK (dT hc7)) rfl rfl) <| aD ?_
               rcases aM H with ⟨hc8, H⟩ | ⟨hc8, H⟩
               · refine fa e5_31 (bK (dT hc8)) rfl <| aN e5_35 <| aB e5_36 <| aB e5_37 <| aA e5_38 <| vv rfl (aF (b := b1) (o := 0) gZ s2_j4) <| vv rfl (aL (.slice bF p0.S.length bG) sc23 rfl ((aP (st12.has _ _ ((le2.trans (sp3.le.trans (sp4.le.trans (le3.trans (sp6.le.trans (sp7.le.trans (le4.trans le5))))))) _ _ g1))).trans rfl)) <| vv rfl (bV u23 rfl) <| vv rfl (aE (I 0) rfl) <| aD ?_
                 refine aT e5_39 <| cH e5_40 ?_
                 obtain ⟨h12, le7, st13, R4, kp2⟩ := O2.frz st12 (Nat.le_refl _)
                 exact Fl5_0 k (j6 := 0) st13 s2_j4 s5_j4 s10_j4 rfl rfl rfl (SlR.mono (le1.trans (le2.trans (sp3.le.trans (sp4.le.trans (le3.trans (sp6.le.trans (sp7.le.trans (le4.trans (le5.trans le7))))))))) Rp0_D) (SlR.mono (le1.trans (le2.trans (sp3.le.trans (sp4.le.trans (le3.trans (sp6.le.trans (sp7.le.trans (le4.trans (le5.trans le7))))))))) Rp0_S) ((le2.trans (sp3.le.trans (sp4.le.trans (le3.trans (sp6.le.trans (sp7.le.trans (le4.trans (le5.trans le7)))))))) _ _ g1) R4 (SlR.mono le7 R2) (le7 _ _ g4) rfl H
               refine tr e5_31 (bJ (dF hc8)) rfl <| aB e5_32 <| aA e5_33 <| vv rfl (aC (.bool false) rfl) <| aD ?_
               cases H
               exact aI e5_34 (cJ Try.results5 rfl ⟨h9, rfl, st12⟩)
             refine aR (wf2 (bJ (dF hc7)) rfl) rfl <| aR (wf2 (bJ (dF hc7)) rfl) rfl <| aR (wf2 (bJ (dF hc7)) rfl) rfl <| aR (wf2 (bJ (dF hc7)) rfl) rfl <| aR (wf2 (bJ (dF hc7)) rfl) rfl <| vv rfl (dV (.bool true) (bJ (dF hc7)) rfl rfl) <| aD <| cV e5_31 (p := true) rfl rfl <| aB e5_32 <| aA e5_33 ?_
             refine vv rfl (aC (.bool false) rfl) <| aD ?_
             cases H
             exact aI e5_34 (cJ Try.results5 rfl ⟨h9, rfl, st12⟩)
           refine aR (wf2 (bJ (dF hc6)) rfl) rfl <| aR (wf2 (bJ (dF hc6)) rfl) rfl <| aR (wf2 (bJ (dF hc6)) rfl) rfl <| aR (wf2 (bJ (dF hc6)) rfl) rfl <| vv rfl (dV (.bool true) (bJ (dF hc6)) rfl rfl) <| vv rfl (aE (.bool true) rfl) <| aR (wf (p := true) rfl rfl) rfl <| aR (wf (p := true) rfl rfl) rfl <| aR (wf (p := true) rfl rfl) rfl <| aR (wf (p := true) rfl rfl) rfl ?_
           refine aR (wf (p := true) rfl rfl) rfl <| vv rfl (x_pickT (.bool true) (p := true) rfl rfl rfl) <| aD <| cV e5_31 (p := true) rfl rfl <| aB e5_32 <| aA e5_33 <| vv rfl (aC (.bool false) rfl) <| aD ?_
           cases H
           exact aI e5_34 (cJ Try.results5 rfl ⟨h9, rfl, st12⟩)
          obtain ⟨hsd2_2_1, H⟩ := cD H
          obtain ⟨hsd2_5_1, H⟩ := cD H
          refine eP [[(0, false), (1, false), (3, false), (6, false), (7, false), (2, true), (4, true), (5, true), (8, false), (9, true), (10, true)], [(0, false), (1, false), (3, false), (6, false), (7, false), (2, true), (4, true), (9, true), (5, true), (8, false), (10, true)], [(0, false), (1, false), (3, false), (6, false), (7, false), (2, true), (9, true), (4, true), (5, true), (8, false), (10, true)], [(0, false), (1, false), (3, false), (6, false), (7, false), (4, true), (2, true), (5, true), (8, false), (9, true), (10, true)], [(0, false), (1, false), (3, false), (6, false), (7, false), (4, true), (2, true), (9, true), (5, true), (8, false), (10, true)], [(0, false), (1, false), (3, false), (6, false), (7, false), (4, true), (9, true), (2, true), (5, true), (8, false), (10, true)], [(0, false), (1, false), (3, false), (6, false), (7, false), (9, true), (2, true), (4, true), (5, true), (8, false), (10, true)], [(0, false), (1, false), (3, false), (6, false), (7, false), (9, true), (4, true), (2, true), (5, true), (8, false), (10, true)]] [2, 4, 5, 9, 10] [0, 1, 2, 3, 4, 5, 6, 7, 8, 9, 10] [0, 1, 2, 3, 4, 5, 6, 7, 8, 9, 10] (fun w_ => Has h8 w_ ∧ True) e5_25 k5_25 m5_25 (fun w10 al5 => ?_)
          have sp9 := al5.st st9.has
          have st10 := st9.call0 sp9
          refine ⟨⟨Has.le (Le.refl _) st10.has, trivial⟩, ?_, ?_, ?_, ?_, ?_, ?_, ?_, ?_, trivial⟩
          · refine bI rfl rfl (fun w_ ok_ => aF (b := b1) (o := 0) fX s2_j2) <| bI rfl rfl (fun w_ ok_ => aL (.slice cB p0.D.length cC) sc22 rfl ((aP (ok_.1 _ _ ((le2.trans (sp3.le.trans (sp4.le.trans (le3.trans (sp6.le.trans (sp7.le.trans le4)))))) _ _ g1))).trans rfl)) <| bI rfl rfl (fun w_ ok_ => bH [.string p1.Name, .slice bN p1.Shape.length bO, .string p1.Form, I p1.Block] ag45 sz45 s3_j2 rfl (aW (ok_.1 _ _ ((sp3.le.trans (sp4.le.trans (le3.trans (sp6.le.trans (sp7.le.trans le4))))) _ _ g2)) rfl)) <| bI rfl rfl (fun w_ ok_ => aF (b := b1) (o := 0) gZ s2_j2) <| bI rfl rfl (fun w_ ok_ => aL (.slice bF p0.S.length bG) sc23 rfl ((aP (ok_.1 _ _ ((le2.trans (sp3.le.trans (sp4.le.trans (le3.trans (sp6.le.trans (sp7.le.trans le4)))))) _ _ g1))).trans rfl)) <| dX rfl (dI (α := GDecl) (B := w0.heap.size) (l := ([] : List GDecl)) (l2 := p0.D) u22 u22 ap45 rfl rfl rfl st10.has st10.sp.size (Own.nil _ _ _ _) (SlR.mono (le1.trans (le2.trans (sp3.le.trans (sp4.le.trans (le3.trans (sp6.le.trans (sp7.le.trans le4))))))) Rp0_D) rfl rfl hsd2_2_1 (fun ad2_2_2 cd2_2_3 wd2_2_4 Od2_2_5 fO bld2_2_7 => ?_))
            have eS := fO.weak (m' := noM) (fun _ hx => (blk_none hx).elim)
            have dY := st10.call0 eS
            refine ⟨.inr ⟨Has.le (Le.refl _) dY.has, trivial⟩, ?_⟩
            refine dX rfl (cZ [.string ByteArray.empty, .slice none 0 0, .string ByteArray.empty, I 0] [.string p1.Name, .slice bN p1.Shape.length bO, .string p1.Form, I p1.Block] [(0, .agg #[.string p1.Name, .slice bN p1.Shape.length bO, .string p1.Form, I p1.Block])] u22 sz45 zr45 rfl rfl rfl (by kernel_rfl) rfl (by kernel_rfl) (fun bd2_4_1 wd2_4_2 fC => ?_))
            have fD : Lits h8 [[.string p1.Name, .slice bN p1.Shape.length bO, .string p1.Form, I p1.Block]] ([p1] : List GDecl) := (Lits.cons (GDecl.into (h := h8) (x := p1) (SlR.mono (le1.trans (le2.trans (sp3.le.trans (sp4.le.trans (le3.trans (sp6.le.trans (sp7.le.trans le4))))))) gD)) Lits.nil)
            obtain ⟨hd2_4_4, bP, fW, dM⟩ := fC.fz dY.has
            have Od2_4_9 := Od2_2_5.call0 dM
            have eT := dY.call0 dM
            have Rd2_4_11 : SlR _ _ _ ([p1] : List GDecl) := Lits.sl (n := 1) (Lits.mono bP fD) rfl rfl (by decide) fW
            refine ⟨.inr ⟨Has.le bP eT.has, trivial⟩, ?_⟩
            refine dX rfl (dI (α := GDecl) (B := w0.heap.size) (l := ([] : List GDecl) ++ p0.D) (l2 := ([p1] : List GDecl)) u22 u22 ap45 rfl rfl rfl eT.has eT.sp.size Od2_4_9 Rd2_4_11 rfl rfl hsd2_5_1 (fun cN cO wd2_5_4 Od2_5_5 dU bld2_5_7 => ?_))
            have iB := eT.call dU (fun x e => (.inl (Od2_4_9.lbs x e)))
            refine ⟨.inr ⟨Has.le bP iB.has, trivial⟩, ?_⟩
            refine bI rfl rfl (fun w_ ok_ => dK (vs := [.slice cN (((([] : List GDecl) ++ p0.D) ++ ([p1] : List GDecl)).length) cO, .slice bF p0.S.length bG]) [(0, .slice cN (((([] : List GDecl) ++ p0.D) ++ ([p1] : List GDecl)).length) cO), (1, .slice bF p0.S.length bG)] bd25 rfl rfl) <| dX rfl (od_alloc (.agg #[.slice none 0 0, .slice none 0 0]) zr25 rfl (fun gT gU cI => ?_))
            replace cI : Al _ (.cells (List.toArray [.slice none 0 0, .slice none 0 0]) 25 (0, 0)) gT gU := cI
            have Md2_9_4 := Mut.new iB cI
            have eA := iB.alB cI
            have eN := cI.st iB.has
            have Od2_9_7 := Od2_5_5.call0 eN
            have eH := iB.call0 eN
            refine ⟨.inr ⟨Has.le bP eH.has, trivial⟩, ?_⟩
            refine dX rfl (fN (o := 0) (n := 2) [.slice cN (((([] : List GDecl) ++ p0.D) ++ ([p1] : List GDecl)).length) cO, .slice bF p0.S.length bG] [.slice cN (((([] : List GDecl) ++ p0.D) ++ ([p1] : List GDecl)).length) cO, .slice bF p0.S.length bG] (.agg #[.slice cN (((([] : List GDecl) ++ p0.D) ++ ([p1] : List GDecl)).length) cO, .slice bF p0.S.length bG]) sz25 rfl rfl rfl Md2_9_4 rfl rfl rfl rfl rfl (fun wd2_10_1 eU Md2_10_3 => ?_))
            have dN := eU.st eH.has Md2_9_4.none
            have Od2_10_5 := Od2_9_7.call dN (fun x hx e => (absurd (e ▸ hx) (Od2_9_7.ne_mut Md2_9_4 (by decide))))
            have eV := eH.call dN (fun x e => (.inl (e ▸ eA)))
            obtain ⟨hd2_10_7, cY, fP, eI, eJ⟩ := Md2_10_3.fz eV eA
            have Od2_10_12 := Od2_10_5.fr cY eJ (Od2_10_5.ne_mut Md2_10_3 (by decide))
            refine ⟨.inl rfl, ?_⟩
            refine eG ?_
            exact Jj4 (bP.trans cY) eI s2_j2 s5_j2 s6_j2 s8_j2 rfl Od2_10_12 (SlR.mono (le1.trans (le2.trans (sp3.le.trans (sp4.le.trans (le3.trans (sp6.le.trans (sp7.le.trans (le4.trans (bP.trans cY))))))))) Rp0_S) fP H
          · refine bI rfl rfl (fun w_ ok_ => aF (b := b1) (o := 0) fX s2_j2) <| bI rfl rfl (fun w_ ok_ => aL (.slice cB p0.D.length cC) sc22 rfl ((aP (ok_.1 _ _ ((le2.trans (sp3.le.trans (sp4.le.trans (le3.trans (sp6.le.trans (sp7.le.trans le4)))))) _ _ g1))).trans rfl)) <| bI rfl rfl (fun w_ ok_ => bH [.string p1.Name, .slice bN p1.Shape.length bO, .string p1.Form, I p1.Block] ag45 sz45 s3_j2 rfl (aW (ok_.1 _ _ ((sp3.le.trans (sp4.le.trans (le3.trans (sp6.le.trans (sp7.le.trans le4))))) _ _ g2)) rfl)) <| bI rfl rfl (fun w_ ok_ => aF (b := b1) (o := 0) gZ s2_j2) <| bI rfl rfl (fun w_ ok_ => aL (.slice bF p0.S.length bG) sc23 rfl ((aP (ok_.1 _ _ ((le2.trans (sp3.le.trans (sp4.le.trans (le3.trans (sp6.le.trans (sp7.le.trans le4)))))) _ _ g1))).trans rfl)) <| dX rfl (dI (α := GDecl) (B := w0.heap.size) (l := ([] : List GDecl)) (l2 := p0.D) u22 u22 ap45 rfl rfl rfl st10.has st10.sp.size (Own.nil _ _ _ _) (SlR.mono (le1.trans (le2.trans (sp3.le.trans (sp4.le.trans (le3.trans (sp6.le.trans (sp7.le.trans le4))))))) Rp0_D) rfl rfl hsd2_2_1 (fun ad2_2_2 cd2_2_3 wd2_2_4 Od2_2_5 fO bld2_2_7 => ?_))
            have eS := fO.weak (m' := noM) (fun _ hx => (blk_none hx).elim)
            have dY := st10.call0 eS
            refine ⟨.inr ⟨Has.le (Le.refl _) dY.has, trivial⟩, ?_⟩
            refine dX rfl (cZ [.string ByteArray.empty, .slice none 0 0, .string ByteArray.empty, I 0] [.string p1.Name, .slice bN p1.Shape.length bO, .string p1.Form, I p1.Block] [(0, .agg #[.string p1.Name, .slice bN p1.Shape.length bO, .string p1.Form, I p1.Block])] u22 sz45 zr45 rfl rfl rfl (by kernel_rfl) rfl (by kernel_rfl) (fun bd2_4_1 wd2_4_2 fC => ?_))
            have fD : Lits h8 [[.string p1.Name, .slice bN p1.Shape.length bO, .string p1.Form, I p1.Block]] ([p1] : List GDecl) := (Lits.cons (GDecl.into (h := h8) (x := p1) (SlR.mono (le1.trans (le2.trans (sp3.le.trans (sp4.le.trans (le3.trans (sp6.le.trans (sp7.le.trans le4))))))) gD)) Lits.nil)
            obtain ⟨hd2_4_4, bP, fW, dM⟩ := fC.fz dY.has
            have Od2_4_9 := Od2_2_5.call0 dM
            have eT := dY.call0 dM
            have Rd2_4_11 : SlR _ _ _ ([p1] : List GDecl) := Lits.sl (n := 1) (Lits.mono bP fD) rfl rfl (by decide) fW
            refine ⟨.inr ⟨Has.le bP eT.has, trivial⟩, ?_⟩
            refine dX rfl (od_alloc (.agg #[.slice none 0 0, .slice none 0 0]) zr25 rfl (fun gT gU cI => ?_))
            replace cI : Al _ (.cells (List.toArray [.slice none 0 0, .slice none 0 0]) 25 (0, 0)) gT gU := cI
            have Md2_9_4 := Mut.new eT cI
            have eA := eT.alB cI
            have eN := cI.st eT.has
            have Od2_9_7 := Od2_4_9.call0 eN
            have eH := eT.call0 eN
            refine ⟨.inr ⟨Has.le bP eH.has, trivial⟩, ?_⟩
            refine dX rfl (dI (α := GDecl) (B := w0.heap.size) (l := ([] : List GDecl) ++ p0.D) (l2 := ([p1] : List GDecl)) u22 u22 ap45 rfl rfl rfl eH.has eH.sp.size Od2_9_7 Rd2_4_11 rfl rfl hsd2_5_1 (fun cN cO wd2_5_4 Od2_5_5 dU bld2_5_7 => ?_))
            have Md2_5_8 := Md2_9_4.call dU (fun e => ((Od2_9_7.ne_mut Md2_9_4 (by decide)) e))
            have eB := eH.call dU (fun x e => (.inl (Od2_9_7.lbs x e)))
            refine ⟨.inr ⟨Has.le bP eB.has, trivial⟩, ?_⟩
            refine bI rfl rfl (fun w_ ok_ => dK (vs := [.slice cN (((([] : List GDecl) ++ p0.D) ++ ([p1] : List GDecl)).length) cO, .slice bF p0.S.length bG]) [(0, .slice cN (((([] : List GDecl) ++ p0.D) ++ ([p1] : List GDecl)).length) cO), (1, .slice bF p0.S.length bG)] bd25 rfl rfl) <| dX rfl (fN (o := 0) (n := 2) [.slice cN (((([] : List GDecl) ++ p0.D) ++ ([p1] : List GDecl)).length) cO, .slice bF p0.S.length bG] [.slice cN (((([] : List GDecl) ++ p0.D) ++ ([p1] : List GDecl)).length) cO, .slice bF p0.S.length bG] (.agg #[.slice cN (((([] : List GDecl) ++ p0.D) ++ ([p1] : List GDecl)).length) cO, .slice bF p0.S.length bG]) sz25 rfl rfl rfl Md2_5_8 rfl rfl rfl rfl rfl (fun wd2_10_1 eU Md2_10_3 => ?_))
            have dN := eU.st eB.has Md2_5_8.none
            have Od2_10_5 := Od2_5_5.call dN (fun x hx e => (absurd (e ▸ hx) (Od2_5_5.ne_mut Md2_5_8 (by decide))))
            have eV := eB.call dN (fun x e => (.inl (e ▸ eA)))
            obtain ⟨hd2_10_7, cY, fP, eI, eJ⟩ := Md2_10_3.fz eV eA
            have Od2_10_12 := Od2_10_5.fr cY eJ (Od2_10_5.ne_mut Md2_10_3 (by decide))
            refine ⟨.inl rfl, ?_⟩
            refine eG ?_
            exact Jj4 (bP.trans cY) eI s2_j2 s5_j2 s6_j2 s8_j2 rfl Od2_10_12 (SlR.mono (le1.trans (le2.trans (sp3.le.trans (sp4.le.trans (le3.trans (sp6.le.trans (sp7.le.trans (le4.trans (bP.trans cY))))))))) Rp0_S) fP H
          · refine bI rfl rfl (fun w_ ok_ => aF (b := b1) (o := 0) fX s2_j2) <| bI rfl rfl (fun w_ ok_ => aL (.slice cB p0.D.length cC) sc22 rfl ((aP (ok_.1 _ _ ((le2.trans (sp3.le.trans (sp4.le.trans (le3.trans (sp6.le.trans (sp7.le.trans le4)))))) _ _ g1))).trans rfl)) <| bI rfl rfl (fun w_ ok_ => bH [.string p1.Name, .slice bN p1.Shape.length bO, .string p1.Form, I p1.Block] ag45 sz45 s3_j2 rfl (aW (ok_.1 _ _ ((sp3.le.trans (sp4.le.trans (le3.trans (sp6.le.trans (sp7.le.trans le4))))) _ _ g2)) rfl)) <| bI rfl rfl (fun w_ ok_ => aF (b := b1) (o := 0) gZ s2_j2) <| bI rfl rfl (fun w_ ok_ => aL (.slice bF p0.S.length bG) sc23 rfl ((aP (ok_.1 _ _ ((le2.trans (sp3.le.trans (sp4.le.trans (le3.trans (sp6.le.trans (sp7.le.trans le4)))))) _ _ g1))).trans rfl)) <| dX rfl (dI (α := GDecl) (B := w0.heap.size) (l := ([] : List GDecl)) (l2 := p0.D) u22 u22 ap45 rfl rfl rfl st10.has st10.sp.size (Own.nil _ _ _ _) (SlR.mono (le1.trans (le2.trans (sp3.le.trans (sp4.le.trans (le3.trans (sp6.le.trans (sp7.le.trans le4))))))) Rp0_D) rfl rfl hsd2_2_1 (fun ad2_2_2 cd2_2_3 wd2_2_4 Od2_2_5 fO bld2_2_7 => ?_))
            have eS := fO.weak (m' := noM) (fun _ hx => (blk_none hx).elim)
            have dY := st10.call0 eS
            refine ⟨.inr ⟨Has.le (Le.refl _) dY.has, trivial⟩, ?_⟩
            refine dX rfl (od_alloc (.agg #[.slice none 0 0, .slice none 0 0]) zr25 rfl (fun gT gU cI => ?_))
            replace cI : Al _ (.cells (List.toArray [.slice none 0 0, .slice none 0 0]) 25 (0, 0)) gT gU := cI
            have Md2_9_4 := Mut.new dY cI
            have eA := dY.alB cI
            have eN := cI.st dY.has
            have Od2_9_7 := Od2_2_5.call0 eN
            have eH := dY.call0 eN
            refine ⟨.inr ⟨Has.le (Le.refl _) eH.has, trivial⟩, ?_⟩
            refine dX rfl (cZ [.string ByteArray.empty, .slice none 0 0, .string ByteArray.empty, I 0] [.string p1.Name, .slice bN p1.Shape.length bO, .string p1.Form, I p1.Block] [(0, .agg #[.string p1.Name, .slice bN p1.Shape.length bO, .string p1.Form, I p1.Block])] u22 sz45 zr45 rfl rfl rfl (by kernel_rfl) rfl (by kernel_rfl) (fun bd2_4_1 wd2_4_2 fC => ?_))
            have fD : Lits h8 [[.string p1.Name, .slice bN p1.Shape.length bO, .string p1.Form, I p1.Block]] ([p1] : List GDecl) := (Lits.cons (GDecl.into (h := h8) (x := p1) (SlR.mono (le1.trans (le2.trans (sp3.le.trans (sp4.le.trans (le3.trans (sp6.le.trans (sp7.le.trans le4))))))) gD)) Lits.nil)
            obtain ⟨hd2_4_4, bP, fW, dM⟩ := fC.fz eH.has
            have Md2_4_9 := Md2_9_4.call0 dM
            have Od2_4_10 := Od2_9_7.call0 dM
            have iE := eH.call0 dM
            have Rd2_4_12 : SlR _ _ _ ([p1] : List GDecl) := Lits.sl (n := 1) (Lits.mono bP fD) rfl rfl (by decide) fW
            refine ⟨.inr ⟨Has.le bP iE.has, trivial⟩, ?_⟩
            refine dX rfl (dI (α := GDecl) (B := w0.heap.size) (l := ([] : List GDecl) ++ p0.D) (l2 := ([p1] : List GDecl)) u22 u22 ap45 rfl rfl rfl iE.has iE.sp.size Od2_4_10 Rd2_4_12 rfl rfl hsd2_5_1 (fun cN cO wd2_5_4 Od2_5_5 dU bld2_5_7 => ?_))
            have Md2_5_8 := Md2_4_9.call dU (fun e => ((Od2_4_10.ne_mut Md2_4_9 (by decide)) e))
            have eB := iE.call dU (fun x e => (.inl (Od2_4_10.lbs x e)))
            refine ⟨.inr ⟨Has.le bP eB.has, trivial⟩, ?_⟩
            refine bI rfl rfl (fun w_ ok_ => dK (vs := [.slice cN (((([] : List GDecl) ++ p0.D) ++ ([p1] : List GDecl)).length) cO, .slice bF p0.S.length bG]) [(0, .slice cN (((([] : List GDecl) ++ p0.D) ++ ([p1] : List GDecl)).length) cO), (1, .slice bF p0.S.length bG)] bd25 rfl rfl) <| dX rfl (fN (o := 0) (n := 2) [.slice cN (((([] : List GDecl) ++ p0.D) ++ ([p1] : List GDecl)).length) cO, .slice bF p0.S.length bG] [.slice cN (((([] : List GDecl) ++ p0.D) ++ ([p1] : List GDecl)).length) cO, .slice bF p0.S.length bG] (.agg #[.slice cN (((([] : List GDecl) ++ p0.D) ++ ([p1] : List GDecl)).length) cO, .slice bF p0.S.length bG]) sz25 rfl rfl rfl Md2_5_8 rfl rfl rfl rfl rfl (fun wd2_10_1 eU Md2_10_3 => ?_))
            have dN := eU.st eB.has Md2_5_8.none
            have Od2_10_5 := Od2_5_5.call dN (fun x hx e => (absurd (e ▸ hx) (Od2_5_5.ne_mut Md2_5_8 (by decide))))
            have eV := eB.call dN (fun x e => (.inl (e ▸ eA)))
            obtain ⟨hd2_10_7, cY, fP, eI, eJ⟩ := Md2_10_3.fz eV eA
            have Od2_10_12 := Od2_10_5.fr cY eJ (Od2_10_5.ne_mut Md2_10_3 (by decide))
            refine ⟨.inl rfl, ?_⟩
            refine eG ?_
            exact Jj4 (bP.trans cY) eI s2_j2 s5_j2 s6_j2 s8_j2 rfl Od2_10_12 (SlR.mono (le1.trans (le2.trans (sp3.le.trans (sp4.le.trans (le3.trans (sp6.le.trans (sp7.le.trans (le4.trans (bP.trans cY))))))))) Rp0_S) fP H
          · refine bI rfl rfl (fun w_ ok_ => aF (b := b1) (o := 0) fX s2_j2) <| bI rfl rfl (fun w_ ok_ => aL (.slice cB p0.D.length cC) sc22 rfl ((aP (ok_.1 _ _ ((le2.trans (sp3.le.trans (sp4.le.trans (le3.trans (sp6.le.trans (sp7.le.trans le4)))))) _ _ g1))).trans rfl)) <| bI rfl rfl (fun w_ ok_ => bH [.string p1.Name, .slice bN p1.Shape.length bO, .string p1.Form, I p1.Block] ag45 sz45 s3_j2 rfl (aW (ok_.1 _ _ ((sp3.le.trans (sp4.le.trans (le3.trans (sp6.le.trans (sp7.le.trans le4))))) _ _ g2)) rfl)) <| bI rfl rfl (fun w_ ok_ => aF (b := b1) (o := 0) gZ s2_j2) <| bI rfl rfl (fun w_ ok_ => aL (.slice bF p0.S.length bG) sc23 rfl ((aP (ok_.1 _ _ ((le2.trans (sp3.le.trans (sp4.le.trans (le3.trans (sp6.le.trans (sp7.le.trans le4)))))) _ _ g1))).trans rfl)) <| dX rfl (cZ [.string ByteArray.empty, .slice none 0 0, .string ByteArray.empty, I 0] [.string p1.Name, .slice bN p1.Shape.length bO, .string p1.Form, I p1.Block] [(0, .agg #[.string p1.Name, .slice bN p1.Shape.length bO, .string p1.Form, I p1.Block])] u22 sz45 zr45 rfl rfl rfl (by kernel_rfl) rfl (by kernel_rfl) (fun bd2_4_1 wd2_4_2 fC => ?_))
            have fD : Lits h8 [[.string p1.Name, .slice bN p1.Shape.length bO, .string p1.Form, I p1.Block]] ([p1] : List GDecl) := (Lits.cons (GDecl.into (h := h8) (x := p1) (SlR.mono (le1.trans (le2.trans (sp3.le.trans (sp4.le.trans (le3.trans (sp6.le.trans (sp7.le.trans le4))))))) gD)) Lits.nil)
            obtain ⟨hd2_4_4, bP, fW, dM⟩ := fC.fz st10.has
            have fQ := st10.call0 dM
            have Rd2_4_10 : SlR _ _ _ ([p1] : List GDecl) := Lits.sl (n := 1) (Lits.mono bP fD) rfl rfl (by decide) fW
            refine ⟨.inr ⟨Has.le bP fQ.has, trivial⟩, ?_⟩
            refine dX rfl (dI (α := GDecl) (B := w0.heap.size) (l := ([] : List GDecl)) (l2 := p0.D) u22 u22 ap45 rfl rfl rfl fQ.has fQ.sp.size (Own.nil _ _ _ _) (SlR.mono (le1.trans (le2.trans (sp3.le.trans (sp4.le.trans (le3.trans (sp6.le.trans (sp7.le.trans (le4.trans bP)))))))) Rp0_D) rfl rfl hsd2_2_1 (fun ad2_2_2 cd2_2_3 wd2_2_4 Od2_2_5 fO bld2_2_7 => ?_))
            have eS := fO.weak (m' := noM) (fun _ hx => (blk_none hx).elim)
            have dY := fQ.call0 eS
            refine ⟨.inr ⟨Has.le bP dY.has, trivial⟩, ?_⟩
            refine dX rfl (dI (α := GDecl) (B := w0.heap.size) (l := ([] : List GDecl) ++ p0.D) (l2 := ([p1] : List GDecl)) u22 u22 ap45 rfl rfl rfl dY.has dY.sp.size Od2_2_5 Rd2_4_10 rfl rfl hsd2_5_1 (fun cN cO wd2_5_4 Od2_5_5 dU bld2_5_7 => ?_))
            have iB := dY.call dU (fun x e => (.inl (Od2_2_5.lbs x e)))
            refine ⟨.inr ⟨Has.le bP iB.has, trivial⟩, ?_⟩
            refine bI rfl rfl (fun w_ ok_ => dK (vs := [.slice cN (((([] : List GDecl) ++ p0.D) ++ ([p1] : List GDecl)).length) cO, .slice bF p0.S.length bG]) [(0, .slice cN (((([] : List GDecl) ++ p0.D) ++ ([p1] : List GDecl)).length) cO), (1, .slice bF p0.S.length bG)] bd25 rfl rfl) <| dX rfl (od_alloc (.agg #[.slice none 0 0, .slice none 0 0]) zr25 rfl (fun gT gU cI => ?_))
            replace cI : Al _ (.cells (List.toArray [.slice none 0 0, .slice none 0 0]) 25 (0, 0)) gT gU := cI
            have Md2_9_4 := Mut.new iB cI
            have eA := iB.alB cI
            have eN := cI.st iB.has
            have Od2_9_7 := Od2_5_5.call0 eN
            have eH := iB.call0 eN
            refine ⟨.inr ⟨Has.le bP eH.has, trivial⟩, ?_⟩
            refine dX rfl (fN (o := 0) (n := 2) [.slice cN (((([] : List GDecl) ++ p0.D) ++ ([p1] : List GDecl)).length) cO, .slice bF p0.S.length bG] [.slice cN (((([] : List GDecl) ++ p0.D) ++ ([p1] : List GDecl)).length) cO, .slice bF p0.S.length bG] (.agg #[.slice cN (((([] : List GDecl) ++ p0.D) ++ ([p1] : List GDecl)).length) cO, .slice bF p0.S.length bG]) sz25 rfl rfl rfl Md2_9_4 rfl rfl rfl rfl rfl (fun wd2_10_1 eU Md2_10_3 => ?_))
            have dN := eU.st eH.has Md2_9_4.none
            have Od2_10_5 := Od2_9_7.call dN (fun x hx e => (absurd (e ▸ hx) (Od2_9_7.ne_mut Md2_9_4 (by decide))))
            have eV := eH.call dN (fun x e => (.inl (e ▸ eA)))
            obtain ⟨hd2_10_7, cY, fP, eI, eJ⟩ := Md2_10_3.fz eV eA
            have Od2_10_12 := Od2_10_5.fr cY eJ (Od2_10_5.ne_mut Md2_10_3 (by decide))
            refine ⟨.inl rfl, ?_⟩
            refine eG ?_
            exact Jj4 (bP.trans cY) eI s2_j2 s5_j2 s6_j2 s8_j2 rfl Od2_10_12 (SlR.mono (le1.trans (le2.trans (sp3.le.trans (sp4.le.trans (le3.trans (sp6.le.trans (sp7.le.trans (le4.trans (bP.trans cY))))))))) Rp0_S) fP H
          · refine bI rfl rfl (fun w_ ok_ => aF (b := b1) (o := 0) fX s2_j2) <| bI rfl rfl (fun w_ ok_ => aL (.slice cB p0.D.length cC) sc22 rfl ((aP (ok_.1 _ _ ((le2.trans (sp3.le.trans (sp4.le.trans (le3.trans (sp6.le.trans (sp7.le.trans le4)))))) _ _ g1))).trans rfl)) <| bI rfl rfl (fun w_ ok_ => bH [.string p1.Name, .slice bN p1.Shape.length bO, .string p1.Form, I p1.Block] ag45 sz45 s3_j2 rfl (aW (ok_.1 _ _ ((sp3.le.trans (sp4.le.trans (le3.trans (sp6.le.trans (sp7.le.trans le4))))) _ _ g2)) rfl)) <| bI rfl rfl (fun w_ ok_ => aF (b := b1) (o := 0) gZ s2_j2) <| bI rfl rfl (fun w_ ok_ => aL (.slice bF p0.S.length bG) sc23 rfl ((aP (ok_.1 _ _ ((le2.trans (sp3.le.trans (sp4.le.trans (le3.trans (sp6.le.trans (sp7.le.trans le4)))))) _ _ g1))).trans rfl)) <| dX rfl (cZ [.string ByteArray.empty, .slice none 0 0, .string ByteArray.empty, I 0] [.string p1.Name, .slice bN p1.Shape.length bO, .string p1.Form, I p1.Block] [(0, .agg #[.string p1.Name, .slice bN p1.Shape.length bO, .string p1.Form, I p1.Block])] u22 sz45 zr45 rfl rfl rfl (by kernel_rfl) rfl (by kernel_rfl) (fun bd2_4_1 wd2_4_2 fC => ?_))
            have fD : Lits h8 [[.string p1.Name, .slice bN p1.Shape.length bO, .string p1.Form, I p1.Block]] ([p1] : List GDecl) := (Lits.cons (GDecl.into (h := h8) (x := p1) (SlR.mono (le1.trans (le2.trans (sp3.le.trans (sp4.le.trans (le3.trans (sp6.le.trans (sp7.le.trans le4))))))) gD)) Lits.nil)
            obtain ⟨hd2_4_4, bP, fW, dM⟩ := fC.fz st10.has
            have fQ := st10.call0 dM
            have Rd2_4_10 : SlR _ _ _ ([p1] : List GDecl) := Lits.sl (n := 1) (Lits.mono bP fD) rfl rfl (by decide) fW
            refine ⟨.inr ⟨Has.le bP fQ.has, trivial⟩, ?_⟩
            refine dX rfl (dI (α := GDecl) (B := w0.heap.size) (l := ([] : List GDecl)) (l2 := p0.D) u22 u22 ap45 rfl rfl rfl fQ.has fQ.sp.size (Own.nil _ _ _ _) (SlR.mono (le1.trans (le2.trans (sp3.le.trans (sp4.le.trans (le3.trans (sp6.le.trans (sp7.le.trans (le4.trans bP)))))))) Rp0_D) rfl rfl hsd2_2_1 (fun ad2_2_2 cd2_2_3 wd2_2_4 Od2_2_5 fO bld2_2_7 => ?_))
            have eS := fO.weak (m' := noM) (fun _ hx => (blk_none hx).elim)
            have dY := fQ.call0 eS
            refine ⟨.inr ⟨Has.le bP dY.has, trivial⟩, ?_⟩
            refine dX rfl (od_alloc (.agg #[.slice none 0 0, .slice none 0 0]) zr25 rfl (fun gT gU cI => ?_))
            replace cI : Al _ (.cells (List.toArray [.slice none 0 0, .slice none 0 0]) 25 (0, 0)) gT gU := cI
            have Md2_9_4 := Mut.new dY cI
            have eA := dY.alB cI
            have eN := cI.st dY.has
            have Od2_9_7 := Od2_2_5.call0 eN
            have eH := dY.call0 eN
            refine ⟨.inr ⟨Has.le bP eH.has, trivial⟩, ?_⟩
            refine dX rfl (dI (α := GDecl) (B := w0.heap.size) (l := ([] : List GDecl) ++ p0.D) (l2 := ([p1] : List GDecl)) u22 u22 ap45 rfl rfl rfl eH.has eH.sp.size Od2_9_7 Rd2_4_10 rfl rfl hsd2_5_1 (fun cN cO wd2_5_4 Od2_5_5 dU bld2_5_7 => ?_))
            have Md2_5_8 := Md2_9_4.call dU (fun e => ((Od2_9_7.ne_mut Md2_9_4 (by decide)) e))
            have eB := eH.call dU (fun x e => (.inl (Od2_9_7.lbs x e)))
            refine ⟨.inr ⟨Has.le bP eB.has, trivial⟩, ?_⟩
            refine bI rfl rfl (fun w_ ok_ => dK (vs := [.slice cN (((([] : List GDecl) ++ p0.D) ++ ([p1] : List GDecl)).length) cO, .slice bF p0.S.length bG]) [(0, .slice cN (((([] : List GDecl) ++ p0.D) ++ ([p1] : List GDecl)).length) cO), (1, .slice bF p0.S.length bG)] bd25 rfl rfl) <| dX rfl (fN (o := 0) (n := 2) [.slice cN (((([] : List GDecl) ++ p0.D) ++ ([p1] : List GDecl)).length) cO, .slice bF p0.S.length bG] [.slice cN (((([] : List GDecl) ++ p0.D) ++ ([p1] : List GDecl)).length) cO, .slice bF p0.S.length bG] (.agg #[.slice cN (((([] : List GDecl) ++ p0.D) ++ ([p1] : List GDecl)).length) cO, .slice bF p0.S.length bG]) sz25 rfl rfl rfl Md2_5_8 rfl rfl rfl rfl rfl (fun wd2_10_1 eU Md2_10_3 => ?_))
            have dN := eU.st eB.has Md2_5_8.none
            have Od2_10_5 := Od2_5_5.call dN (fun x hx e => (absurd (e ▸ hx) (Od2_5_5.ne_mut Md2_5_8 (by decide))))
            have eV := eB.call dN (fun x e => (.inl (e ▸ eA)))
            obtain ⟨hd2_10_7, cY, fP, eI, eJ⟩ := Md2_10_3.fz eV eA
            have Od2_10_12 := Od2_10_5.fr cY eJ (Od2_10_5.ne_mut Md2_10_3 (by decide))
            refine ⟨.inl rfl, ?_⟩
            refine eG ?_
            exact Jj4 (bP.trans cY) eI s2_j2 s5_j2 s6_j2 s8_j2 rfl Od2_10_12 (SlR.mono (le1.trans (le2.trans (sp3.le.trans (sp4.le.trans (le3.trans (sp6.le.trans (sp7.le.trans (le4.trans (bP.trans cY))))))))) Rp0_S) fP H
          · refine bI rfl rfl (fun w_ ok_ => aF (b := b1) (o := 0) fX s2_j2) <| bI rfl rfl (fun w_ ok_ => aL (.slice cB p0.D.length cC) sc22 rfl ((aP (ok_.1 _ _ ((le2.trans (sp3.le.trans (sp4.le.trans (le3.trans (sp6.le.trans (sp7.le.trans le4)))))) _ _ g1))).trans rfl)) <| bI rfl rfl (fun w_ ok_ => bH [.string p1.Name, .slice bN p1.Shape.length bO, .string p1.Form, I p1.Block] ag45 sz45 s3_j2 rfl (aW (ok_.1 _ _ ((sp3.le.trans (sp4.le.trans (le3.trans (sp6.le.trans (sp7.le.trans le4))))) _ _ g2)) rfl)) <| bI rfl rfl (fun w_ ok_ => aF (b := b1) (o := 0) gZ s2_j2) <| bI rfl rfl (fun w_ ok_ => aL (.slice bF p0.S.length bG) sc23 rfl ((aP (ok_.1 _ _ ((le2.trans (sp3.le.trans (sp4.le.trans (le3.trans (sp6.le.trans (sp7.le.trans le4)))))) _ _ g1))).trans rfl)) <| dX rfl (cZ [.string ByteArray.empty, .slice none 0 0, .string ByteArray.empty, I 0] [.string p1.Name, .slice bN p1.Shape.length bO, .string p1.Form, I p1.Block] [(0, .agg #[.string p1.Name, .slice bN p1.Shape.length bO, .string p1.Form, I p1.Block])] u22 sz45 zr45 rfl rfl rfl (by kernel_rfl) rfl (by kernel_rfl) (fun bd2_4_1 wd2_4_2 fC => ?_))
            have fD : Lits h8 [[.string p1.Name, .slice bN p1.Shape.length bO, .string p1.Form, I p1.Block]] ([p1] : List GDecl) := (Lits.cons (GDecl.into (h := h8) (x := p1) (SlR.mono (le1.trans (le2.trans (sp3.le.trans (sp4.le.trans (le3.trans (sp6.le.trans (sp7.le.trans le4))))))) gD)) Lits.nil)
            obtain ⟨hd2_4_4, bP, fW, dM⟩ := fC.fz st10.has
            have fQ := st10.call0 dM
            have Rd2_4_10 : SlR _ _ _ ([p1] : List GDecl) := Lits.sl (n := 1) (Lits.mono bP fD) rfl rfl (by decide) fW
            refine ⟨.inr ⟨Has.le bP fQ.has, trivial⟩, ?_⟩
            refine dX rfl (od_alloc (.agg #[.slice none 0 0, .slice none 0 0]) zr25 rfl (fun gT gU cI => ?_))
            replace cI : Al _ (.cells (List.toArray [.slice none 0 0, .slice none 0 0]) 25 (0, 0)) gT gU := cI
            have Md2_9_4 := Mut.new fQ cI
            have eA := fQ.alB cI
            have eN := cI.st fQ.has
            have gI := fQ.call0 eN
            refine ⟨.inr ⟨Has.le bP gI.has, trivial⟩, ?_⟩
            refine dX rfl (dI (α := GDecl) (B := w0.heap.size) (l := ([] : List GDecl)) (l2 := p0.D) u22 u22 ap45 rfl rfl rfl gI.has gI.sp.size (Own.nil _ _ _ _) (SlR.mono (le1.trans (le2.trans (sp3.le.trans (sp4.le.trans (le3.trans (sp6.le.trans (sp7.le.trans (le4.trans bP)))))))) Rp0_D) rfl rfl hsd2_2_1 (fun ad2_2_2 cd2_2_3 wd2_2_4 Od2_2_5 fO bld2_2_7 => ?_))
            have eS := fO.weak (m' := noM) (fun _ hx => (blk_none hx).elim)
            have Md2_2_9 := Md2_9_4.call0 eS
            have fI := gI.call0 eS
            refine ⟨.inr ⟨Has.le bP fI.has, trivial⟩, ?_⟩
            refine dX rfl (dI (α := GDecl) (B := w0.heap.size) (l := ([] : List GDecl) ++ p0.D) (l2 := ([p1] : List GDecl)) u22 u22 ap45 rfl rfl rfl fI.has fI.sp.size Od2_2_5 Rd2_4_10 rfl rfl hsd2_5_1 (fun cN cO wd2_5_4 Od2_5_5 dU bld2_5_7 => ?_))
            have Md2_5_8 := Md2_2_9.call dU (fun e => ((Od2_2_5.ne_mut Md2_2_9 (by decide)) e))
            have eB := fI.call dU (fun x e => (.inl (Od2_2_5.lbs x e)))
            refine ⟨.inr ⟨Has.le bP eB.has, trivial⟩, ?_⟩
            refine bI rfl rfl (fun w_ ok_ => dK (vs := [.slice cN (((([] : List GDecl) ++ p0.D) ++ ([p1] : List GDecl)).length) cO, .slice bF p0.S.length bG]) [(0, .slice cN (((([] : List GDecl) ++ p0.D) ++ ([p1] : List GDecl)).length) cO), (1, .slice bF p0.S.length bG)] bd25 rfl rfl) <| dX rfl (fN (o := 0) (n := 2) [.slice cN (((([] : List GDecl) ++ p0.D) ++ ([p1] : List GDecl)).length) cO, .slice bF p0.S.length bG] [.slice cN (((([] : List GDecl) ++ p0.D) ++ ([p1] : List GDecl)).length) cO, .slice bF p0.S.length bG] (.agg #[.slice cN (((([] : List GDecl) ++ p0.D) ++ ([p1] : List GDecl)).length) cO, .slice bF p0.S.length bG]) sz25 rfl rfl rfl Md2_5_8 rfl rfl rfl rfl rfl (fun wd2_10_1 eU Md2_10_3 => ?_))
            have dN := eU.st eB.has Md2_5_8.none
            have Od2_10_5 := Od2_5_5.call dN (fun x hx e => (absurd (e ▸ hx) (Od2_5_5.ne_mut Md2_5_8 (by decide))))
            have eV := eB.call dN (fun x e => (.inl (e ▸ eA)))
            obtain ⟨hd2_10_7, cY, fP, eI, eJ⟩ := Md2_10_3.fz eV eA
            have Od2_10_12 := Od2_10_5.fr cY eJ (Od2_10_5.ne_mut Md2_10_3 (by decide))
            refine ⟨.inl rfl, ?_⟩
            refine eG ?_
            exact Jj4 (bP.trans cY) eI s2_j2 s5_j2 s6_j2 s8_j2 rfl Od2_10_12 (SlR.mono (le1.trans (le2.trans (sp3.le.trans (sp4.le.trans (le3.trans (sp6.le.trans (sp7.le.trans (le4.trans (bP.trans cY))))))))) Rp0_S) fP H
          · refine bI rfl rfl (fun w_ ok_ => aF (b := b1) (o := 0) fX s2_j2) <| bI rfl rfl (fun w_ ok_ => aL (.slice cB p0.D.length cC) sc22 rfl ((aP (ok_.1 _ _ ((le2.trans (sp3.le.trans (sp4.le.trans (le3.trans (sp6.le.trans (sp7.le.trans le4)))))) _ _ g1))).trans rfl)) <| bI rfl rfl (fun w_ ok_ => bH [.string p1.Name, .slice bN p1.Shape.length bO, .string p1.Form, I p1.Block] ag45 sz45 s3_j2 rfl (aW (ok_.1 _ _ ((sp3.le.trans (sp4.le.trans (le3.trans (sp6.le.trans (sp7.le.trans le4))))) _ _ g2)) rfl)) <| bI rfl rfl (fun w_ ok_ => aF (b := b1) (o := 0) gZ s2_j2) <| bI rfl rfl (fun w_ ok_ => aL (.slice bF p0.S.length bG) sc23 rfl ((aP (ok_.1 _ _ ((le2.trans (sp3.le.trans (sp4.le.trans (le3.trans (sp6.le.trans (sp7.le.trans le4)))))) _ _ g1))).trans rfl)) <| dX rfl (od_alloc (.agg #[.slice none 0 0, .slice none 0 0]) zr25 rfl (fun gT gU cI => ?_))
            replace cI : Al _ (.cells (List.toArray [.slice none 0 0, .slice none 0 0]) 25 (0, 0)) gT gU := cI
            have Md2_9_4 := Mut.new st10 cI
            have eA := st10.alB cI
            have eN := cI.st st10.has
            have gI := st10.call0 eN
            refine ⟨.inr ⟨Has.le (Le.refl _) gI.has, trivial⟩, ?_⟩
            refine dX rfl (dI (α := GDecl) (B := w0.heap.size) (l := ([] : List GDecl)) (l2 := p0.D) u22 u22 ap45 rfl rfl rfl gI.has gI.sp.size (Own.nil _ _ _ _) (SlR.mono (le1.trans (le2.trans (sp3.le.trans (sp4.le.trans (le3.trans (sp6.le.trans (sp7.le.trans le4))))))) Rp0_D) rfl rfl hsd2_2_1 (fun ad2_2_2 cd2_2_3 wd2_2_4 Od2_2_5 fO bld2_2_7 => ?_))
            have eS := fO.weak (m' := noM) (fun _ hx => (blk_none hx).elim)
            have Md2_2_9 := Md2_9_4.call0 eS
            have fI := gI.call0 eS
            refine ⟨.inr ⟨Has.le (Le.refl _) fI.has, trivial⟩, ?_⟩
            refine dX rfl (cZ [.string ByteArray.empty, .slice none 0 0, .string ByteArray.empty, I 0] [.string p1.Name, .slice bN p1.Shape.length bO, .string p1.Form, I p1.Block] [(0, .agg #[.string p1.Name, .slice bN p1.Shape.length bO, .string p1.Form, I p1.Block])] u22 sz45 zr45 rfl rfl rfl (by kernel_rfl) rfl (by kernel_rfl) (fun bd2_4_1 wd2_4_2 fC => ?_))
            have fD : Lits h8 [[.string p1.Name, .slice bN p1.Shape.length bO, .string p1.Form, I p1.Block]] ([p1] : List GDecl) := (Lits.cons (GDecl.into (h := h8) (x := p1) (SlR.mono (le1.trans (le2.trans (sp3.le.trans (sp4.le.trans (le3.trans (sp6.le.trans (sp7.le.trans le4))))))) gD)) Lits.nil)
            obtain ⟨hd2_4_4, bP, fW, dM⟩ := fC.fz fI.has
            have Md2_4_9 := Md2_2_9.call0 dM
            have Od2_4_10 := Od2_2_5.call0 dM
            have iE := fI.call0 dM
            have Rd2_4_12 : SlR _ _ _ ([p1] : List GDecl) := Lits.sl (n := 1) (Lits.mono bP fD) rfl rfl (by decide) fW
            refine ⟨.inr ⟨Has.le bP iE.has, trivial⟩, ?_⟩
            refine dX rfl (dI (α := GDecl) (B := w0.heap.size) (l := ([] : List GDecl) ++ p0.D) (l2 := ([p1] : List GDecl)) u22 u22 ap45 rfl rfl rfl iE.has iE.sp.size Od2_4_10 Rd2_4_12 rfl rfl hsd2_5_1 (fun cN cO wd2_5_4 Od2_5_5 dU bld2_5_7 => ?_))
            have Md2_5_8 := Md2_4_9.call dU (fun e => ((Od2_4_10.ne_mut Md2_4_9 (by decide)) e))
            have eB := iE.call dU (fun x e => (.inl (Od2_4_10.lbs x e)))
            refine ⟨.inr ⟨Has.le bP eB.has, trivial⟩, ?_⟩
            refine bI rfl rfl (fun w_ ok_ => dK (vs := [.slice cN (((([] : List GDecl) ++ p0.D) ++ ([p1] : List GDecl)).length) cO, .slice bF p0.S.length bG]) [(0, .slice cN (((([] : List GDecl) ++ p0.D) ++ ([p1] : List GDecl)).length) cO), (1, .slice bF p0.S.length bG)] bd25 rfl rfl) <| dX rfl (fN (o := 0) (n := 2) [.slice cN (((([] : List GDecl) ++ p0.D) ++ ([p1] : List GDecl)).length) cO, .slice bF p0.S.length bG] [.slice cN (((([] : List GDecl) ++ p0.D) ++ ([p1] : List GDecl)).length) cO, .slice bF p0.S.length bG] (.agg #[.slice cN (((([] : List GDecl) ++ p0.D) ++ ([p1] : List GDecl)).length) cO, .slice bF p0.S.length bG]) sz25 rfl rfl rfl Md2_5_8 rfl rfl rfl rfl rfl (fun wd2_10_1 eU Md2_10_3 => ?_))
            have dN := eU.st eB.has Md2_5_8.none
            have Od2_10_5 := Od2_5_5.call dN (fun x hx e => (absurd (e ▸ hx) (Od2_5_5.ne_mut Md2_5_8 (by decide))))
            have eV := eB.call dN (fun x e => (.inl (e ▸ eA)))
            obtain ⟨hd2_10_7, cY, fP, eI, eJ⟩ := Md2_10_3.fz eV eA
            have Od2_10_12 := Od2_10_5.fr cY eJ (Od2_10_5.ne_mut Md2_10_3 (by decide))
            refine ⟨.inl rfl, ?_⟩
            refine eG ?_
            exact Jj4 (bP.trans cY) eI s2_j2 s5_j2 s6_j2 s8_j2 rfl Od2_10_12 (SlR.mono (le1.trans (le2.trans (sp3.le.trans (sp4.le.trans (le3.trans (sp6.le.trans (sp7.le.trans (le4.trans (bP.trans cY))))))))) Rp0_S) fP H
          refine bI rfl rfl (fun w_ ok_ => aF (b := b1) (o := 0) fX s2_j2) <| bI rfl rfl (fun w_ ok_ => aL (.slice cB p0.D.length cC) sc22 rfl ((aP (ok_.1 _ _ ((le2.trans (sp3.le.trans (sp4.le.trans (le3.trans (sp6.le.trans (sp7.le.trans le4)))))) _ _ g1))).trans rfl)) <| bI rfl rfl (fun w_ ok_ => bH [.string p1.Name, .slice bN p1.Shape.length bO, .string p1.Form, I p1.Block] ag45 sz45 s3_j2 rfl (aW (ok_.1 _ _ ((sp3.le.trans (sp4.le.trans (le3.trans (sp6.le.trans (sp7.le.trans le4))))) _ _ g2)) rfl)) <| bI rfl rfl (fun w_ ok_ => aF (b := b1) (o := 0) gZ s2_j2) <| bI rfl rfl (fun w_ ok_ => aL (.slice bF p0.S.length bG) sc23 rfl ((aP (ok_.1 _ _ ((le2.trans (sp3.le.trans (sp4.le.trans (le3.trans (sp6.le.trans (sp7.le.trans le4)))))) _ _ g1))).trans rfl)) <| dX rfl (od_alloc (.agg #[.slice none 0 0, .slice none 0 0]) zr25 rfl (fun gT gU cI => ?_))
          replace cI : Al _ (.cells (List.toArray [.slice none 0 0, .slice none 0 0]) 25 (0, 0)) gT gU := cI
          have Md2_9_4 := Mut.new st10 cI
          have eA := st10.alB cI
          have eN := cI.st st10.has
          have gI := st10.call0 eN
          refine ⟨.inr ⟨Has.le (Le.refl _) gI.has, trivial⟩, ?_⟩
          refine dX rfl (cZ [.string ByteArray.empty, .slice none 0 0, .string ByteArray.empty, I 0] [.string p1.Name, .slice bN p1.Shape.length bO, .string p1.Form, I p1.Block] [(0, .agg #[.string p1.Name, .slice bN p1.Shape.length bO, .string p1.Form, I p1.Block])] u22 sz45 zr45 rfl rfl rfl (by kernel_rfl) rfl (by kernel_rfl) (fun bd2_4_1 wd2_4_2 fC => ?_))
          have fD : Lits h8 [[.string p1.Name, .slice bN p1.Shape.length bO, .string p1.Form, I p1.Block]] ([p1] : List GDecl) := (Lits.cons (GDecl.into (h := h8) (x := p1) (SlR.mono (le1.trans (le2.trans (sp3.le.trans (sp4.le.trans (le3.trans (sp6.le.trans (sp7.le.trans le4))))))) gD)) Lits.nil)
          obtain ⟨hd2_4_4, bP, fW, dM⟩ := fC.fz gI.has
          have Md2_4_9 := Md2_9_4.call0 dM
          have eT := gI.call0 dM
          have Rd2_4_11 : SlR _ _ _ ([p1] : List GDecl) := Lits.sl (n := 1) (Lits.mono bP fD) rfl rfl (by decide) fW
          refine ⟨.inr ⟨Has.le bP eT.has, trivial⟩, ?_⟩
          refine dX rfl (dI (α := GDecl) (B := w0.heap.size) (l := ([] : List GDecl)) (l2 := p0.D) u22 u22 ap45 rfl rfl rfl eT.has eT.sp.size (Own.nil _ _ _ _) (SlR.mono (le1.trans (le2.trans (sp3.le.trans (sp4.le.trans (le3.trans (sp6.le.trans (sp7.le.trans (le4.trans bP)))))))) Rp0_D) rfl rfl hsd2_2_1 (fun ad2_2_2 cd2_2_3 wd2_2_4 Od2_2_5 fO bld2_2_7 => ?_))
          have eS := fO.weak (m' := noM) (fun _ hx => (blk_none hx).elim)
          have Md2_2_9 := Md2_4_9.call0 eS
          have fI := eT.call0 eS
          refine ⟨.inr ⟨Has.le bP fI.has, trivial⟩, ?_⟩
          refine dX rfl (dI (α := GDecl) (B := w0.heap.size) (l := ([] : List GDecl) ++ p0.D) (l2 := ([p1] : List GDecl)) u22 u22 ap45 rfl rfl rfl fI.has fI.sp.size Od2_2_5 Rd2_4_11 rfl rfl hsd2_5_1 (fun cN cO wd2_5_4 Od2_5_5 dU bld2_5_7 => ?_))
          have Md2_5_8 := Md2_2_9.call dU (fun e => ((Od2_2_5.ne_mut Md2_2_9 (by decide)) e))
          have eB := fI.call dU (fun x e => (.inl (Od2_2_5.lbs x e)))
          refine ⟨.inr ⟨Has.le bP eB.has, trivial⟩, ?_⟩
          refine bI rfl rfl (fun w_ ok_ => dK (vs := [.slice cN (((([] : List GDecl) ++ p0.D) ++ ([p1] : List GDecl)).length) cO, .slice bF p0.S.length bG]) [(0, .slice cN (((([] : List GDecl) ++ p0.D) ++ ([p1] : List GDecl)).length) cO), (1, .slice bF p0.S.length bG)] bd25 rfl rfl) <| dX rfl (fN (o := 0) (n := 2) [.slice cN (((([] : List GDecl) ++ p0.D) ++ ([p1] : List GDecl)).length) cO, .slice bF p0.S.length bG] [.slice cN (((([] : List GDecl) ++ p0.D) ++ ([p1] : List GDecl)).length) cO, .slice bF p0.S.length bG] (.agg #[.slice cN (((([] : List GDecl) ++ p0.D) ++ ([p1] : List GDecl)).length) cO, .slice bF p0.S.length bG]) sz25 rfl rfl rfl Md2_5_8 rfl rfl rfl rfl rfl (fun wd2_10_1 eU Md2_10_3 => ?_))
          have dN := eU.st eB.has Md2_5_8.none
          have Od2_10_5 := Od2_5_5.call dN (fun x hx e => (absurd (e ▸ hx) (Od2_5_5.ne_mut Md2_5_8 (by decide))))
          have eV := eB.call dN (fun x e => (.inl (e ▸ eA)))
          obtain ⟨hd2_10_7, cY, fP, eI, eJ⟩ := Md2_10_3.fz eV eA
          have Od2_10_12 := Od2_10_5.fr cY eJ (Od2_10_5.ne_mut Md2_10_3 (by decide))
          refine ⟨.inl rfl, ?_⟩
          refine eG ?_
          exact Jj4 (bP.trans cY) eI s2_j2 s5_j2 s6_j2 s8_j2 rfl Od2_10_12 (SlR.mono (le1.trans (le2.trans (sp3.le.trans (sp4.le.trans (le3.trans (sp6.le.trans (sp7.le.trans (le4.trans (bP.trans cY))))))))) Rp0_S) fP H
        refine tr e5_19 (bJ (dF hc5)) rfl <| aB e5_20 <| aA e5_21 <| vv rfl (aE (.bool r1) s5_j2) <| vv rfl (aC (.bool r1) rfl) <| aD ?_
        cases H
        exact aI e5_22 (cJ Try.results5 rfl ⟨h8, rfl, st9⟩)
      refine aR (wf2 (bJ (dF hc4)) rfl) rfl <| aR (wf2 (bJ (dF hc4)) rfl) rfl <| vv rfl (dV (.bool true) (bJ (dF hc4)) rfl rfl) <| aD <| cV e5_19 (p := true) rfl rfl <| aB e5_20 <| aA e5_21 <| vv rfl (aE (.bool r1) s5_j2) <| vv rfl (aC (.bool r1) rfl) <| aD ?_
      cases H
      exact aI e5_22 (cJ Try.results5 rfl ⟨h8, rfl, st9⟩)
     obtain ⟨hsd1_2_1, H⟩ := cD H
     obtain ⟨hsd1_5_1, H⟩ := cD H
     obtain ⟨gQ, hrd1_6_7, H⟩ := aK H
     refine eP [[(0, false), (1, false), (3, false), (2, true), (4, true), (5, true), (6, true), (7, false), (8, false), (9, false), (10, false), (11, false)], [(0, false), (1, false), (3, false), (4, true), (2, true), (5, true), (6, true), (7, false), (8, false), (9, false), (10, false), (11, false)]] [2, 4, 5, 6] [0, 1, 2, 3, 4, 5, 6, 7, 8, 9, 10, 11] [0, 1, 2, 3, 4, 5, 6, 7, 8, 10, 9, 11] (fun w_ => Has h7 w_ ∧ True) e5_15 k5_15 m5_15 (fun w8 al4 => ?_)
     have sp8 := al4.st st7.has
     have st8 := st7.call0 sp8
     refine ⟨⟨Has.le (Le.refl _) st8.has, trivial⟩, ?_, ?_, trivial⟩
     · refine bI rfl rfl (fun w_ ok_ => aF (b := b1) (o := 0) fX rfl) <| bI rfl rfl (fun w_ ok_ => aL (.slice cB p0.D.length cC) sc22 rfl ((aP (ok_.1 _ _ ((le2.trans (sp3.le.trans (sp4.le.trans (le3.trans (sp6.le.trans sp7.le))))) _ _ g1))).trans rfl)) <| bI rfl rfl (fun w_ ok_ => bH [.string p1.Name, .slice bN p1.Shape.length bO, .string p1.Form, I p1.Block] ag45 sz45 rfl rfl (aW (ok_.1 _ _ ((sp3.le.trans (sp4.le.trans (le3.trans (sp6.le.trans sp7.le)))) _ _ g2)) rfl)) <| dX rfl (dI (α := GDecl) (B := w0.heap.size) (l := ([] : List GDecl)) (l2 := p0.D) u22 u22 ap45 rfl rfl rfl st8.has st8.sp.size (Own.nil _ _ _ _) (SlR.mono (le1.trans (le2.trans (sp3.le.trans (sp4.le.trans (le3.trans (sp6.le.trans sp7.le)))))) Rp0_D) rfl rfl hsd1_2_1 (fun ad1_2_2 cd1_2_3 wd1_2_4 Od1_2_5 spd1_2_6 bld1_2_7 => ?_))
       have spd1_2_8 := spd1_2_6.weak (m' := noM) (fun _ hx => (blk_none hx).elim)
       have std1_2_9 := st8.call0 spd1_2_8
       refine ⟨.inr ⟨Has.le (Le.refl _) std1_2_9.has, trivial⟩, ?_⟩
       refine dX rfl (cZ [.string ByteArray.empty, .slice none 0 0, .string ByteArray.empty, I 0] [.string p1.Name, .slice bN p1.Shape.length bO, .string p1.Form, I p1.Block] [(0, .agg #[.string p1.Name, .slice bN p1.Shape.length bO, .string p1.Form, I p1.Block])] u22 sz45 zr45 rfl rfl rfl (by kernel_rfl) rfl (by kernel_rfl) (fun gL wd1_4_2 gG => ?_))
       have gH : Lits h7 [[.string p1.Name, .slice bN p1.Shape.length bO, .string p1.Form, I p1.Block]] ([p1] : List GDecl) := (Lits.cons (GDecl.into (h := h7) (x := p1) (SlR.mono (le1.trans (le2.trans (sp3.le.trans (sp4.le.trans (le3.trans (sp6.le.trans sp7.le)))))) gD)) Lits.nil)
       obtain ⟨hd1_4_4, cL, gd1_4_6, dO⟩ := gG.fz std1_2_9.has
       have Od1_4_9 := Od1_2_5.call0 dO
       have iC := std1_2_9.call0 dO
       have Rd1_4_11 : SlR _ _ _ ([p1] : List GDecl) := Lits.sl (n := 1) (Lits.mono cL gH) rfl rfl (by decide) gd1_4_6
       refine ⟨.inr ⟨Has.le cL iC.has, trivial⟩, ?_⟩
       refine dX rfl (dI (α := GDecl) (B := w0.heap.size) (l := ([] : List GDecl) ++ p0.D) (l2 := ([p1] : List GDecl)) u22 u22 ap45 rfl rfl rfl iC.has iC.sp.size Od1_4_9 Rd1_4_11 rfl rfl hsd1_5_1 (fun ad1_5_2 cd1_5_3 wd1_5_4 Od1_5_5 fV bld1_5_7 => ?_))
       have std1_5_8 := iC.call fV (fun x e => (.inl (Od1_4_9.lbs x e)))
       refine ⟨.inr ⟨Has.le cL std1_5_8.has, trivial⟩, ?_⟩
       obtain ⟨hd1_6_1, led1_6_2, Rd1_6_3, hhd1_6_4, kpd1_6_5⟩ := Own.lend Od1_5_5 std1_5_8.has
       refine dX rfl (hP [.slice ad1_5_2 (((([] : List GDecl) ++ p0.D) ++ ([p1] : List GDecl)).length) cd1_5_3] en15 rfl rfl (F15 k hhd1_6_4 Rd1_6_3 hrd1_6_7) ?_)
       rintro _ wd1_6_8 ⟨hd1_6_9, rfl, spd1_6_10⟩
       have spd1_6_11 := St.lend spd1_6_10 led1_6_2
       have Od1_6_12 := Od1_5_5.call0 spd1_6_11
       have std1_6_13 := std1_5_8.call0 spd1_6_11
       refine ⟨.inr ⟨Has.le cL std1_6_13.has, trivial⟩, ?_⟩
       refine bI rfl rfl (fun w_ ok_ => aE (.tuple #[I gQ.1, I gQ.2]) rfl) <| bI rfl rfl (fun w_ ok_ => bL (I gQ.1) rfl rfl) <| bI rfl rfl (fun w_ ok_ => bL (I gQ.2) rfl rfl) <| bI rfl rfl (fun w_ ok_ => aC (I gQ.1) rfl) <| bI rfl rfl (fun w_ ok_ => aC (I gQ.2) rfl) <| eG ?_
       exact Jj2 cL std1_6_13 rfl rfl rfl rfl rfl rfl rfl H
     refine bI rfl rfl (fun w_ ok_ => aF (b := b1) (o := 0) fX rfl) <| bI rfl rfl (fun w_ ok_ => aL (.slice cB p0.D.length cC) sc22 rfl ((aP (ok_.1 _ _ ((le2.trans (sp3.le.trans (sp4.le.trans (le3.trans (sp6.le.trans sp7.le))))) _ _ g1))).trans rfl)) <| bI rfl rfl (fun w_ ok_ => bH [.string p1.Name, .slice bN p1.Shape.length bO, .string p1.Form, I p1.Block] ag45 sz45 rfl rfl (aW (ok_.1 _ _ ((sp3.le.trans (sp4.le.trans (le3.trans (sp6.le.trans sp7.le)))) _ _ g2)) rfl)) <| dX rfl (cZ [.string ByteArray.empty, .slice none 0 0, .string ByteArray.empty, I 0] [.string p1.Name, .slice bN p1.Shape.length bO, .string p1.Form, I p1.Block] [(0, .agg #[.string p1.Name, .slice bN p1.Shape.length bO, .string p1.Form, I p1.Block])] u22 sz45 zr45 rfl rfl rfl (by kernel_rfl) rfl (by kernel_rfl) (fun gL wd1_4_2 gG => ?_))
     have gH : Lits h7 [[.string p1.Name, .slice bN p1.Shape.length bO, .string p1.Form, I p1.Block]] ([p1] : List GDecl) := (Lits.cons (GDecl.into (h := h7) (x := p1) (SlR.mono (le1.trans (le2.trans (sp3.le.trans (sp4.le.trans (le3.trans (sp6.le.trans sp7.le)))))) gD)) Lits.nil)
     obtain ⟨hd1_4_4, cL, gd1_4_6, dO⟩ := gG.fz st8.has
     have std1_4_9 := st8.call0 dO
     have Rd1_4_10 : SlR _ _ _ ([p1] : List GDecl) := Lits.sl (n := 1) (Lits.mono cL gH) rfl rfl (by decide) gd1_4_6
     refine ⟨.inr ⟨Has.le cL std1_4_9.has, trivial⟩, ?_⟩
     refine dX rfl (dI (α := GDecl) (B := w0.heap.size) (l := ([] : List GDecl)) (l2 := p0.D) u22 u22 ap45 rfl rfl rfl std1_4_9.has std1_4_9.sp.size (Own.nil _ _ _ _) (SlR.mono (le1.trans (le2.trans (sp3.le.trans (sp4.le.trans (le3.trans (sp6.le.trans (sp7.le.trans cL))))))) Rp0_D) rfl rfl hsd1_2_1 (fun ad1_2_2 cd1_2_3 wd1_2_4 Od1_2_5 spd1_2_6 bld1_2_7 => ?_))
     have spd1_2_8 := spd1_2_6.weak (m' := noM) (fun _ hx => (blk_none hx).elim)
     have std1_2_9 := std1_4_9.call0 spd1_2_8
     refine ⟨.inr ⟨Has.le cL std1_2_9.has, trivial⟩, ?_⟩
     refine dX rfl (dI (α := GDecl) (B := w0.heap.size) (l := ([] : List GDecl) ++ p0.D) (l2 := ([p1] : List GDecl)) u22 u22 ap45 rfl rfl rfl std1_2_9.has std1_2_9.sp.size Od1_2_5 Rd1_4_10 rfl rfl hsd1_5_1 (fun ad1_5_2 cd1_5_3 wd1_5_4 Od1_5_5 fV bld1_5_7 => ?_))
     have std1_5_8 := std1_2_9.call fV (fun x e => (.inl (Od1_2_5.lbs x e)))
     refine ⟨.inr ⟨Has.le cL std1_5_8.has, trivial⟩, ?_⟩
     obtain ⟨hd1_6_1, led1_6_2, Rd1_6_3, hhd1_6_4, kpd1_6_5⟩ := Own.lend Od1_5_5 std1_5_8.has
     refine dX rfl (hP [.slice ad1_5_2 (((([] : List GDecl) ++ p0.D) ++ ([p1] : List GDecl)).length) cd1_5_3] en15 rfl rfl (F15 k hhd1_6_4 Rd1_6_3 hrd1_6_7) ?_)
     rintro _ wd1_6_8 ⟨hd1_6_9, rfl, spd1_6_10⟩
     have spd1_6_11 := St.lend spd1_6_10 led1_6_2
     have Od1_6_12 := Od1_5_5.call0 spd1_6_11
     have std1_6_13 := std1_5_8.call0 spd1_6_11
     refine ⟨.inr ⟨Has.le cL std1_6_13.has, trivial⟩, ?_⟩
     refine bI rfl rfl (fun w_ ok_ => aE (.tuple #[I gQ.1, I gQ.2]) rfl) <| bI rfl rfl (fun w_ ok_ => bL (I gQ.1) rfl rfl) <| bI rfl rfl (fun w_ ok_ => bL (I gQ.2) rfl rfl) <| bI rfl rfl (fun w_ ok_ => aC (I gQ.1) rfl) <| bI rfl rfl (fun w_ ok_ => aC (I gQ.2) rfl) <| eG ?_
     exact Jj2 cL std1_6_13 rfl rfl rfl rfl rfl rfl rfl H
   refine aR (wf2 (bJ (cG hc2)) rfl) rfl <| aR (wf2 (bJ (cG hc2)) rfl) rfl <| aR (wf2 (bJ (cG hc2)) rfl) rfl <| aR (wf2 (bJ (cG hc2)) rfl) rfl <| vv rfl (dV (.bool true) (bJ (cG hc2)) rfl rfl) <| aD <| cV e5_7 (p := true) rfl rfl <| aB e5_8 <| aA e5_9 <| vv rfl (aE (.bool r1) rfl) ?_
   refine vv rfl (aC (.bool r1) rfl) <| aD ?_
   cases H
   exact aI e5_10 (cJ Try.results5 rfl ⟨h6, rfl, st6⟩)
 refine aR (wf2 (bJ (cG hc1)) rfl) rfl <| aR (wf2 (bJ (cG hc1)) rfl) rfl <| aR (wf2 (bJ (cG hc1)) rfl) rfl <| aR (wf2 (bJ (cG hc1)) rfl) rfl <| aR (wf2 (bJ (cG hc1)) rfl) rfl <| vv rfl (dV (.bool true) (bJ (cG hc1)) rfl rfl) <| vv rfl (aE (.bool true) rfl) <| aR (wf (p := true) rfl rfl) rfl <| aR (wf (p := true) rfl rfl) rfl <| aR (wf (p := true) rfl rfl) rfl ?_
 refine aR (wf (p := true) rfl rfl) rfl <| vv rfl (x_pickT (.bool true) (p := true) rfl rfl rfl) <| aD <| cV e5_7 (p := true) rfl rfl <| aB e5_8 <| aA e5_9 <| vv rfl (aE (.bool r1) rfl) <| vv rfl (aC (.bool r1) rfl) <| aD ?_
 cases H
 exact aI e5_10 (cJ Try.results5 rfl ⟨h4, rfl, st4⟩)
class Wf (α : Type) where
  wf : α → Prop
instance : Wf Int := ⟨fun n => -9223372036854775808 ≤ n ∧ n ≤ 9223372036854775807⟩
instance : Wf Bool := ⟨fun _ => True⟩
instance : Wf ByteArray := ⟨fun s => s.size ≤ 140737488351232⟩
instance {α : Type} [Wf α] : Wf (List α) := ⟨fun l => l.length ≤ 140737488351232 ∧ ∀ x ∈ l, Wf.wf x⟩
def Ev {α : Type} (m : Nat → Option α) (r : α) : Prop := ∃ K, ∀ k, K ≤ k → m k = some r
theorem Ev.ret {α : Type} (r : α) : Ev (fun _ => some r) r := ⟨0, fun _ _ => rfl⟩
theorem Ev.of {α : Type} {m : Option α} {r : α} (h : m = some r) : Ev (fun _ => m) r := ⟨0, fun _ _ => h⟩
theorem Ev.bind {α β : Type} {m : Nat → Option α} {f : Nat → α → Option β} {r : α} {s : β} (h : Ev m r) (h2 : Ev (fun k => f k r) s) : Ev (fun k => (m k).bind (f k)) s := by
  obtain ⟨K, hK⟩ := h
  obtain ⟨K2, hK2⟩ := h2
  exact ⟨max K K2, fun k hk => by show (m k).bind (f k) = some s; rw [hK k (by omega)]; exact hK2 k (by omega)⟩
theorem Ev.step {α : Type} {m : Nat → Option α} {r : α} (h : Ev (fun k => m (k + 1)) r) : Ev m r := by
  obtain ⟨K, hK⟩ := h
  exact ⟨K + 1, fun k hk => by
    obtain ⟨j, rfl⟩ : ∃ j, k = j + 1 := ⟨k - 1, by omega⟩
    exact hK j (by omega)⟩
theorem Ev.pos {α : Type} {c : Prop} [Decidable c] {a b : Nat → Option α} {r : α} (hc : c) (h : Ev a r) : Ev (fun k => if c then a k else b k) r := by
  simpa only [if_pos hc] using h
theorem Ev.neg {α : Type} {c : Prop} [Decidable c] {a b : Nat → Option α} {r : α} (hc : ¬ c) (h : Ev b r) : Ev (fun k => if c then a k else b k) r := by
  simpa only [if_neg hc] using h
theorem Ev.ite {α : Type} {c : Prop} [Decidable c] {a b : Nat → Option α} {r s : α} (ha : c → Ev a r) (hb : ¬ c → Ev b s) : Ev (fun k => if c then a k else b k) (if c then r else s) := by
  by_cases hc : c
  · simpa only [if_pos hc] using ha hc
  · simpa only [if_neg hc] using hb hc
theorem Ev.jn {J R : Type} {j : Nat → J} {b : Nat → J → Option R} {r : R} (h : Ev (fun k => b k (j k)) r) : Ev (fun k => jn (j k) (b k)) r := h
theorem Ev.run {α : Type} {m : Nat → Option α} {r : α} (h : Ev m r) : ∃ k, m k = some r := by
  obtain ⟨K, hK⟩ := h; exact ⟨K, hK K (Nat.le_refl _)⟩
theorem Ev.congr {α : Type} {m : Nat → Option α} {r s : α} (h : Ev m r) (e : r = s) : Ev m s := e ▸ h
def Evs (p : Nat → Prop) : Prop := ∃ K, ∀ k, K ≤ k → p k
theorem Evs.use {α : Type} {m : Nat → Option α} {r : α} {p : Nat → Prop} (h : Ev m r) (h2 : Evs (fun k => m k = some r → p k)) : Evs p := by
  obtain ⟨K, hK⟩ := h
  obtain ⟨L, hL⟩ := h2
  exact ⟨max K L, fun k hk => hL k (by omega) (hK k (by omega))⟩
theorem Evs.now {p : Nat → Prop} (h : ∀ k, p k) : Evs p := ⟨0, fun k _ => h k⟩
theorem Evs.ev {α : Type} {m : Nat → Option α} {r : α} (h : Evs (fun k => m k = some r)) : Ev m r := h
theorem Evs.step {α : Type} {m : Nat → Option α} {r : α} (h : Evs (fun k => m (k + 1) = some r)) : Ev m r := Ev.step h
def Tot {α : Type} (m : Nat → Option α) (P : α → Prop) : Prop := ∃ r, Ev m r ∧ P r
section tot
variable {α β : Type} {P : α → Prop} {m : Nat → Option α}
theorem Tot.ret {r : α} (h : P r) : Tot (fun _ => some r) P := ⟨r, Ev.ret r, h⟩
theorem Tot.ev {r : α} (h : Ev m r) (hp : P r) : Tot m P := ⟨r, h, hp⟩
theorem Tot.bind {m : Nat → Option β} {f : Nat → β → Option α} {Q : β → Prop} (h : Tot m Q) (hf : ∀ r, Q r → Tot (fun k => f k r) P) : Tot (fun k => (m k).bind (f k)) P := by
  obtain ⟨r, h1, h2⟩ := h
  obtain ⟨s, h3, h4⟩ := hf r h2
  exact ⟨s, h1.bind h3, h4⟩
theorem Tot.ite {c : Prop} [Decidable c] {a b : Nat → Option α} (ha : c → Tot a P) (hb : ¬ c → Tot b P) : Tot (fun k => if c then a k else b k) P := by
  by_cases hc : c
  · simpa only [if_pos hc] using ha hc
  · simpa only [if_neg hc] using hb hc
theorem Tot.pos {c : Prop} [Decidable c] {a b : Nat → Option α} (hc : c) (ha : Tot a P) : Tot (fun k => if c then a k else b k) P := by
  simpa only [if_pos hc] using ha
theorem Tot.neg {c : Prop} [Decidable c] {a b : Nat → Option α} (hc : ¬ c) (ha : Tot b P) : Tot (fun k => if c then a k else b k) P := by
  simpa only [if_neg hc] using ha
theorem Tot.step (h : Tot (fun k => m (k + 1)) P) : Tot m P := by
  obtain ⟨r, h1, h2⟩ := h
  exact ⟨r, h1.step, h2⟩
theorem Tot.jn {J : Type} {j : Nat → J} {b : Nat → J → Option α} (h : Tot (fun k => b k (j k)) P) : Tot (fun k => jn (j k) (b k)) P := h
theorem Tot.mono {Q : α → Prop} (h : Tot m Q) (hq : ∀ r, Q r → P r) : Tot m P := by
  obtain ⟨r, h1, h2⟩ := h
  exact ⟨r, h1, hq r h2⟩
theorem Tot.run (h : Tot m P) : ∃ k r, m k = some r ∧ P r := by
  obtain ⟨r, ⟨K, hK⟩, h2⟩ := h
  exact ⟨K, r, hK K (Nat.le_refl _), h2⟩
theorem Tot.is {r : α} (h : Tot m (· = r)) : Ev m r := by
  obtain ⟨s, h1, rfl⟩ := h; exact h1
theorem Ev.is {r : α} (h : Ev m r) : Tot m (· = r) := ⟨r, h, rfl⟩
theorem Tot.run1 {r : α} (h : Tot m (· = r)) : ∃ k, m k = some r := h.is.run
theorem Tot.at_ {l : List β} {i : Int} {f : Nat → β → Option α} (h0 : 0 ≤ i) (h1 : i < l.length) (hf : ∀ x, l[i.toNat]? = some x → Tot (fun k => f k x) P) : Tot (fun k => (idx l i).bind (f k)) P := by
  have hx : l[i.toNat]? = some (l[i.toNat]'(by omega)) := List.getElem?_eq_getElem _
  refine Tot.bind (m := fun _ => idx l i) (Q := fun x => l[i.toNat]? = some x) ⟨_, Ev.of (by unfold idx; rw [if_pos h0, hx]), hx⟩ hf
theorem Tot.val {v : β} {f : Nat → β → Option α} (hf : Tot (fun k => f k v) P) : Tot (fun k => (some v).bind (f k)) P := hf
end tot
theorem idx_at {α : Type} {l : List α} {i : Int} {x : α} (h0 : 0 ≤ i) (h : l[i.toNat]? = some x) : idx l i = some x := by unfold idx; rw [if_pos h0, h]
instance : Wf GDecl := ⟨fun x => Wf.wf x.Name ∧ Wf.wf x.Shape ∧ Wf.wf x.Form ∧ Wf.wf x.Block⟩
inductive GNodeWf : GNode → Prop
  | mk (x : GNode) (hOp : Wf.wf x.Op) (hN : Wf.wf x.N) (hName : Wf.wf x.Name) (hIndex : Wf.wf x.Index) (hn : x.L.length ≤ 140737488351232) (hr : ∀ y ∈ x.L, GNodeWf y) : GNodeWf x
instance : Wf GNode := ⟨GNodeWf⟩
theorem GNodeWf.out {x : GNode} (h : GNodeWf x) : Wf.wf x.Op ∧ Wf.wf x.N ∧ Wf.wf x.Name ∧ Wf.wf x.Index ∧ x.L.length ≤ 140737488351232 ∧ ∀ y ∈ x.L, GNodeWf y := by cases h; exact ⟨‹_›, ‹_›, ‹_›, ‹_›, ‹_›, ‹_›⟩
instance : Wf GStmt := ⟨fun x => Wf.wf x.Name ∧ Wf.wf x.Index ∧ Wf.wf x.E⟩
instance : Wf GProg := ⟨fun x => Wf.wf x.D ∧ Wf.wf x.S⟩
theorem GNode.ind {P : GNode → Prop} (h : ∀ n, (∀ x ∈ n.L, P x) → P n) : ∀ n, P n :=
  GNode.rec (motive_1 := P) (motive_2 := fun l => ∀ x ∈ l, P x) (fun Op N Name Index L ih => h ⟨Op, N, Name, Index, L⟩ ih) (fun x hx => by cases hx)
    (fun x l h1 h2 y hy => by
      rcases List.mem_cons.1 hy with rfl | hy
      · exact h1
      · exact h2 y hy)
def kindF (c : Int) : Int := (m62 c).getD 0
theorem kind_some (c : Int) : ∃ v, m62 c = some v := by
  unfold m62 jn
  simp only [m63, m86, Option.bind_some]
  repeat' split
  all_goals exact ⟨_, rfl⟩
theorem kind_eq (c : Int) : m62 c = some (kindF c) := by
  obtain ⟨v, hv⟩ := kind_some c
  rw [kindF, hv]; rfl
theorem run_tot (s : ByteArray) (hs : s.size ≤ 140737488351232) : ∀ (d : Nat) (i : Int), 0 ≤ i → i ≤ s.size → (s.size : Int) - i = d → Tot (fun k => l64_0 k s i) (fun r => i ≤ r ∧ r ≤ s.size) := by
  intro d
  induction d with
  | zero =>
    intro i h0 h1 hd
    refine Tot.step ?_
    simp only [l64_0]
    refine Tot.jn (Tot.neg (by omega) (Tot.ret ⟨Int.le_refl _, h1⟩))
  | succ d ih =>
    intro i h0 h1 hd
    refine Tot.step ?_
    simp only [l64_0, kind_eq, Option.bind_some]
    have hn : wr (i + 1) = i + 1 := wr_id (by omega) (by omega)
    have hrec := (ih (i + 1) (by omega) (by omega) (by omega)).mono (P := fun r => i ≤ r ∧ r ≤ s.size) (fun r hr => ⟨by omega, hr.2⟩)
    refine Tot.jn (Tot.pos (by omega) (Tot.pos ⟨h0, by omega⟩ (Tot.ite (fun _ => ?_) (fun _ => Tot.pos ⟨h0, by omega⟩ (Tot.ite (fun _ => ?_) (fun _ => Tot.ret ⟨Int.le_refl _, h1⟩))))))
    · rw [hn]; exact hrec
    · rw [hn]; exact hrec
theorem word_tot (s : ByteArray) : Tot (fun k => m48 k s) (fun _ => True) := by
  simp only [m48, kind_eq, Option.bind_some, m64]
  refine Tot.jn (Tot.ite (fun _ => Tot.ret trivial) (fun h => Tot.ite (fun h16 => Tot.pos ⟨by omega, ?_⟩ (Tot.ite (fun _ => Tot.bind (run_tot s (by omega) s.size 0 (by omega) (by omega) (by omega)) (fun r _ => Tot.ret trivial)) (fun _ => Tot.ret trivial))) (fun _ => Tot.ret trivial)))
  rcases Nat.eq_zero_or_pos s.size with h1 | h1
  · exact absurd (ByteArray.ext (Array.eq_empty_of_size_eq_zero h1)) h
  · omega
noncomputable def wordF (s : ByteArray) : Bool := Classical.choose (word_tot s)
theorem word_ev (s : ByteArray) : Ev (fun k => m48 k s) (wordF s) := (Classical.choose_spec (word_tot s)).1
noncomputable def namedF (s : ByteArray) : Bool := wordF s && !decide (s = (⟨#[115, 117, 109]⟩ : ByteArray)) && !decide (s = (⟨#[116, 101, 110, 115, 111, 114]⟩ : ByteArray))
theorem named_ev (s : ByteArray) : Ev (fun k => m46 k s) (namedF s) := by
  unfold namedF
  simp only [m46]
  refine Ev.jn (Ev.bind (word_ev s) ?_)
  cases wordF s with
  | false => exact Ev.neg (by simp) (Ev.ret _)
  | true =>
    refine Ev.pos rfl ?_
    by_cases h : s = (⟨#[115, 117, 109]⟩ : ByteArray)
    · refine Ev.pos h ((Ev.ret _).congr ?_); simp [h]
    · refine Ev.neg h ((Ev.ret _).congr ?_); simp [h]
def anyI {α : Type} (p : α → Bool) : Nat → List α → Int
  | _, [] => -1
  | j, x :: l => if p x = true then (j : Int) else anyI p (j + 1) l
theorem anyI_lt {α : Type} (p : α → Bool) : ∀ (l : List α) (j : Nat), (anyI p j l < 0 ↔ ∀ x ∈ l, p x = false)
  | [], j => by simp [anyI]
  | x :: l, j => by
    unfold anyI
    cases h : p x with
    | false => simp [h, anyI_lt p l (j + 1)]
    | true => simp [h]; try omega
theorem anyI_dec {α : Type} (p : α → Bool) (l : List α) (j : Nat) : decide (0 ≤ anyI p j l) = l.any p := by
  have := anyI_lt p l j
  cases h : l.any p with
  | true =>
    have : ¬ anyI p j l < 0 := fun e => by
      rw [this] at e
      obtain ⟨x, hx, hp⟩ := List.any_eq_true.1 h
      rw [e x hx] at hp; cases hp
    simp; omega
  | false =>
    have h2 : anyI p j l < 0 := this.2 (fun x hx => by simpa using List.any_eq_false.1 h x hx)
    simp; omega
theorem anyI_some {α : Type} (p : α → Bool) : ∀ (l : List α) (j : Nat), 0 ≤ anyI p j l → ∃ i x, anyI p j l = ((j + i : Nat) : Int) ∧ l[i]? = some x ∧ p x = true ∧ ∀ i' x', i' < i → l[i']? = some x' → p x' = false
  | [], j, h => by simp [anyI] at h
  | x :: l, j, h => by
    unfold anyI at h ⊢
    cases hx : p x with
    | true => exact ⟨0, x, by simp, by simp, hx, fun i' _ hi => by omega⟩
    | false =>
      simp only [hx] at h
      obtain ⟨i, y, h1, h2, h3, h4⟩ := anyI_some p l (j + 1) h
      refine ⟨i + 1, y, ?_, by simpa using h2, h3, fun i' x' hi hx' => ?_⟩
      · simp only [Bool.false_eq_true, if_false]; rw [h1]; congr 1; omega
      · cases i' with
        | zero => simp at hx'; rw [← hx']; exact hx
        | succ i' => exact h4 i' x' (by omega) (by simpa using hx')
theorem indexed1_ev : ∀ (l : List ByteArray) (j : Nat), Ev (fun k => l92_0 k j l) (anyI (fun s => !namedF s) j l)
  | [], j => by refine Ev.step ?_; simp only [l92_0]; exact Ev.ret _
  | x :: l, j => by
    refine Ev.step ?_
    simp only [l92_0, m80, anyI]
    exact Ev.bind (Ev.bind (named_ev x) (Ev.ret _)) (Ev.ite (fun _ => Ev.ret _) (fun _ => indexed1_ev l (j + 1)))
noncomputable def gY (l : List ByteArray) : Bool := decide (l.length ≤ 4) && l.all namedF
theorem indexed_ev (l : List ByteArray) : Ev (fun k => m49 k l) (gY l) := by
  simp only [m49, m79, m92, gY]
  refine Ev.jn ?_
  by_cases h : l.length ≤ 4
  · refine Ev.pos (by omega) (Ev.bind (Ev.bind (indexed1_ev l 0) (Ev.ret _)) ((Ev.ret _).congr ?_))
    rw [anyI_dec]; simp [h, List.not_any_eq_all_not]
  · refine Ev.neg (by omega) ((Ev.ret _).congr ?_)
    simp [h]
def numF (n : Int) : Bool := decide (0 ≤ n) && decide (n < 1000000000000000000)
theorem number1_ev : ∀ (l : List Int) (j : Nat), Ev (fun k => l91_0 k j l) (anyI (fun s => !numF s) j l)
  | [], j => by refine Ev.step ?_; simp only [l91_0]; exact Ev.ret _
  | x :: l, j => by
    refine Ev.step ?_
    simp only [l91_0, m78, anyI]
    refine Ev.bind (r := !numF x) (Ev.jn ?_) (Ev.ite (fun _ => Ev.ret _) (fun _ => number1_ev l (j + 1)))
    by_cases h : x < 0
    · refine Ev.pos h ((Ev.ret _).congr ?_); simp [numF, h]; try omega
    · refine Ev.neg h ((Ev.ret _).congr ?_)
      simp only [numF]
      rw [decide_eq_true (show 0 ≤ x by omega)]; simp
      by_cases h2 : x < 1000000000000000000 <;> simp [h2] <;> omega
theorem number_ev (l : List Int) : Ev (fun k => m47 k l) (l.all numF) := by
  simp only [m47, m77, m91]
  refine Ev.bind (Ev.bind (number1_ev l 0) (Ev.ret _)) ((Ev.ret _).congr ?_)
  rw [anyI_dec]; simp [List.not_any_eq_all_not]
def kidsF (op : Int) : Int := (m61 op).getD 0
theorem kids_some (op : Int) : ∃ v, m61 op = some v ∧ v ≤ 2 := by
  unfold m61
  repeat' split
  all_goals exact ⟨_, rfl, by decide⟩
theorem kids_eq (op : Int) : m61 op = some (kidsF op) := by
  obtain ⟨v, hv, _⟩ := kids_some op
  rw [kidsF, hv]; rfl
theorem kidsF_le (op : Int) : kidsF op ≤ 2 := by
  obtain ⟨v, hv, h⟩ := kids_some op
  rw [kidsF, hv]; exact h
mutual
def gJ : GNode → Nat
  | ⟨_, _, _, _, l⟩ => 1 + nodesL l
def nodesL : List GNode → Nat
  | [] => 0
  | x :: l => gJ x + nodesL l
end
theorem nodesF_eq (n : GNode) : gJ n = 1 + nodesL n.L := by cases n; simp [gJ]
noncomputable def headF (n : GNode) : Bool :=
  decide (kidsF n.Op = (n.L.length : Int)) &&
    (if n.Op = 1 then numF n.N && decide (n.Name = ByteArray.empty) && decide (n.Index.length = 0)
     else if n.Op = 2 then decide (n.N = 0) && namedF n.Name && gY n.Index
     else if n.Op = 7 then decide (n.N = 0) && namedF n.Name && decide (n.Index.length = 0)
     else decide (n.N = 0) && decide (n.Name = ByteArray.empty) && decide (n.Index.length = 0))
noncomputable def okN : Nat → GNode → Bool
  | 0, _ => false
  | d + 1, n => headF n && n.L.all (okN d)
theorem nodes_lt : ∀ (d : Nat) (n : GNode), okN d n = true → gJ n < 2 ^ d
  | 0, n, h => by simp [okN] at h
  | d + 1, n, h => by
    simp only [okN, Bool.and_eq_true, headF, decide_eq_true_eq] at h
    have hk := kidsF_le n.Op
    have hl : n.L.length ≤ 2 := by omega
    rw [nodesF_eq]
    have each : ∀ x ∈ n.L, gJ x < 2 ^ d := fun x hx => nodes_lt d x (List.all_eq_true.1 h.2 x hx)
    have hp : 2 ^ (d + 1) = 2 * 2 ^ d := by rw [Nat.pow_succ]; omega
    have hq : 0 < 2 ^ d := Nat.pow_pos (by decide)
    match hL : n.L with
    | [] => simp only [nodesL]; omega
    | [x] => rw [hL] at each; have := each x (by simp); simp only [nodesL]; omega
    | [x, y] => rw [hL] at each; have := each x (by simp); have := each y (by simp); simp only [nodesL]; omega
    | x :: y :: z :: l => rw [hL] at hl; simp at hl
theorem count_ev (d : Nat) (hd : d ≤ 40) : ∀ (n : GNode), Ev (fun k => m38 k n (d : Int)) (if okN d n = true then (gJ n : Int) else -1) := by
  induction d with
  | zero =>
    intro n
    obtain ⟨i, hi⟩ : ∃ i : Int, i = ((0 : Nat) : Int) := ⟨_, rfl⟩
    have h0 : ¬ 0 < i := by omega
    rw [← hi]
    refine Evs.step (Evs.now (fun k => ?_))
    simp only [m38, okN, jn, if_neg h0]
    repeat' split
    all_goals simp_all
  | succ d ih =>
    have ih := ih (by omega)
    have hp : 2 ^ d ≤ 2 ^ 40 := Nat.pow_le_pow_right (by decide) (by omega)
    have loop : ∀ (l : List GNode) (i : Nat), i + l.length * 2 ^ d ≤ 2 ^ 60 → Ev (fun k => l38_0 k ((d + 1 : Nat) : Int) i l) (if l.all (okN d) = true then ((i + nodesL l : Nat) : Int) else -1) := by
      intro l
      induction l with
      | nil => intro i _; refine Ev.step ?_; simp only [l38_0]; exact (Ev.ret _).congr (by simp [nodesL])
      | cons x l ihl =>
        intro i hi
        refine Ev.step ?_
        simp only [l38_0]
        have hw : wr (((d + 1 : Nat) : Int) - 1) = (d : Int) := by rw [wr_id (by omega) (by omega)]; omega
        rw [hw]
        refine Ev.bind (ih x) ?_
        cases hx : okN d x with
        | false => exact Ev.pos (by simp) ((Ev.ret _).congr (by simp [hx]))
        | true =>
          have hlt := nodes_lt d x hx
          simp only [List.length_cons, Nat.succ_mul] at hi
          have e : wr ((i : Int) + (gJ x : Int)) = ((i + gJ x : Nat) : Int) := by rw [wr_id (by omega) (by omega)]; omega
          simp only [if_true]
          refine Ev.neg (by omega) ?_
          rw [e]
          exact (ihl (i + gJ x) (by omega)).congr (by simp [hx, nodesL, Nat.add_assoc])
    intro n
    have hk := kidsF_le n.Op
    have h0 : 0 < ((d + 1 : Nat) : Int) := by omega
    by_cases hkk : kidsF n.Op = (n.L.length : Int)
    · have hb : n.L.length * 2 ^ d ≤ 2 * 2 ^ d := Nat.mul_le_mul_right _ (by omega)
      refine Evs.step (Evs.use (named_ev n.Name) (Evs.use (indexed_ev n.Index) (Evs.use (loop n.L 1 (by omega)) (Evs.now (fun k e3 e2 e1 => ?_)))))
      have e3' : l38_0 k ((d + 1 : Nat) : Int) 1 n.L = some (if n.L.all (okN d) = true then (gJ n : Int) else -1) := by
        rw [nodesF_eq]; exact e3
      simp only [m38, okN, jn, if_pos h0, kids_eq, Option.bind_some, decide_eq_true hkk, e1, e2, e3', headF, numF]
      clear e1 e2 e3 e3' loop ih hkk
      generalize namedF n.Name = bn; generalize gY n.Index = bi; generalize n.L.all (okN d) = ba; generalize gJ n = nd; generalize n.N = N; generalize n.Name = Nm; generalize n.Index = Ix; generalize n.Op = Op
      by_cases h1 : Op = 1
      · simp only [h1, if_true]
        by_cases a1 : 0 ≤ N <;> by_cases a2 : N < 1000000000000000000 <;> by_cases a3 : Nm = ByteArray.empty <;> by_cases a4 : Ix = [] <;> cases ba <;> simp [a1, a2, a3, a4]
      by_cases h2 : Op = 2
      · simp only [h1, h2, if_true, if_false]
        by_cases a1 : N = 0 <;> cases bn <;> cases bi <;> cases ba <;> simp [a1]
      by_cases h7 : Op = 7
      · simp only [h1, h2, h7, if_true, if_false]
        by_cases a1 : N = 0 <;> by_cases a4 : Ix = [] <;> cases bn <;> cases ba <;> simp [a1, a4]
      · simp only [h1, h2, h7, if_false]
        by_cases a1 : N = 0 <;> by_cases a3 : Nm = ByteArray.empty <;> by_cases a4 : Ix = [] <;> cases ba <;> simp [a1, a3, a4]
    · refine Evs.step (Evs.use (named_ev n.Name) (Evs.use (indexed_ev n.Index) (Evs.now (fun k e2 e1 => ?_))))
      simp only [m38, okN, jn, if_pos h0, kids_eq, Option.bind_some, decide_eq_false hkk, headF]
      simp
noncomputable def mayF (n : GNode) : Bool := okN 16 n && decide (gJ n ≤ 120)
theorem may_ev (n : GNode) : Ev (fun k => m21 k n) (mayF n) := by
  simp only [m21]
  refine Ev.bind (count_ev 16 (by decide) n) (Ev.jn ?_)
  cases h : okN 16 n with
  | false => exact Ev.neg (by simp) ((Ev.ret _).congr (by simp [mayF, h]))
  | true =>
    have : 0 < gJ n := by rw [nodesF_eq]; omega
    simp only [if_true]
    refine Ev.pos (by omega) ((Ev.ret _).congr ?_)
    simp only [mayF, h, Bool.true_and, decide_eq_decide]; omega
noncomputable def declF (d : GDecl) : Bool := namedF d.Name && decide (d.Shape.length ≤ 4) && d.Shape.all numF && numF d.Block && wordF d.Form
noncomputable def stmtF (s : GStmt) : Bool := namedF s.Name && gY s.Index && mayF s.E
theorem check1_ev : ∀ (l : List GStmt) (b : Bool), Ev (fun k => l26_1 k b l) (if (b && l.all stmtF) = true then 0 else 1)
  | [], b => by
    refine Evs.step (Evs.now (fun k => ?_))
    simp only [l26_1]
    cases b <;> simp
  | s :: l, b => by
    refine Evs.step (Evs.use (named_ev s.Name) (Evs.use (indexed_ev s.Index) (Evs.use (may_ev s.E) (Evs.use (check1_ev l true) (Evs.use (check1_ev l false) (Evs.now (fun k e5 e4 e3 e2 e1 => ?_)))))))
    have hs : stmtF s = (namedF s.Name && gY s.Index && mayF s.E) := rfl
    generalize namedF s.Name = b1 at e1 hs; generalize gY s.Index = b2 at e2 hs; generalize mayF s.E = b3 at e3 hs
    cases b <;> cases b1 <;> cases b2 <;> cases b3 <;> simp only [l26_1, jn, e1, e2, e3, e4, e5, hs, Option.bind_some, List.all_cons, Bool.false_and, Bool.true_and, Bool.and_true, Bool.and_false, if_true, if_false, Bool.false_eq_true]
theorem check0_ev (p : GProg) : ∀ (l : List GDecl) (b : Bool), Ev (fun k => l26_0 k p b l) (if (b && l.all declF && p.S.all stmtF) = true then 0 else 1)
  | [], b => by
    refine Ev.step ?_
    simp only [l26_0]
    exact (check1_ev p.S b).congr (by simp)
  | s :: l, b => by
    refine Evs.step (Evs.use (named_ev s.Name) (Evs.use (number_ev s.Shape) (Evs.use (number_ev [s.Block]) (Evs.use (word_ev s.Form) (Evs.use (check0_ev p l true) (Evs.use (check0_ev p l false) (Evs.now (fun k e6 e5 e4 e3 e2 e1 => ?_))))))))
    have hs : declF s = (namedF s.Name && decide (s.Shape.length ≤ 4) && s.Shape.all numF && numF s.Block && wordF s.Form) := rfl
    simp only [List.all_cons, List.all_nil, Bool.and_true] at e3
    generalize namedF s.Name = b1 at e1 hs; generalize s.Shape.all numF = b2 at e2 hs; generalize numF s.Block = b3 at e3 hs; generalize wordF s.Form = b4 at e4 hs
    by_cases h : s.Shape.length ≤ 4
    · have h2 : (s.Shape.length : Int) ≤ 4 := by omega
      simp only [h, decide_true, Bool.and_true] at hs
      cases b <;> cases b1 <;> cases b2 <;> cases b3 <;> cases b4 <;> simp only [l26_0, jn, e1, e2, e3, e4, e5, e6, hs, h2, Option.bind_some, List.all_cons, Bool.false_and, Bool.true_and, Bool.and_true, Bool.and_false, if_true, if_false, Bool.false_eq_true]
    · have h2 : ¬ (s.Shape.length : Int) ≤ 4 := by omega
      simp only [h, decide_false, Bool.and_false, Bool.false_and] at hs
      cases b <;> cases b1 <;> simp only [l26_0, jn, e1, e5, e6, hs, h2, Option.bind_some, List.all_cons, Bool.false_and, Bool.true_and, Bool.and_true, Bool.and_false, if_true, if_false, Bool.false_eq_true]
noncomputable def checkF (p : GProg) : Bool := decide (p.D.length ≤ 32) && decide (p.S.length ≤ 32) && p.D.all declF && p.S.all stmtF
theorem check_ev (p : GProg) : Ev (fun k => m26 k p) (if checkF p = true then 0 else 1) := by
  simp only [m26]
  have e2 : decide ((p.S.length : Int) ≤ 32) = decide (p.S.length ≤ 32) := by rw [decide_eq_decide]; omega
  rw [e2]
  refine Ev.jn ?_
  by_cases h : p.D.length ≤ 32
  · refine Ev.pos (by omega) ((check0_ev p p.D _).congr ?_)
    simp [checkF, h]
  · refine Ev.neg (by omega) ((check0_ev p p.D _).congr ?_)
    simp [checkF, h]
theorem mput_all {κ ν : Type} [DecidableEq κ] {Q : ν → Prop} {k : κ} {v : ν} (hv : Q v) : ∀ {l : List (κ × ν)}, (∀ p ∈ l, Q p.2) → ∀ p ∈ cF l k v, Q p.2
  | [], _, p, hp => by simp [cF] at hp; rw [hp]; exact hv
  | q :: l, h, p, hp => by
    unfold cF at hp
    split at hp
    · rcases List.mem_cons.1 hp with rfl | hp
      · exact hv
      · exact h p (List.mem_cons_of_mem _ hp)
    · rcases List.mem_cons.1 hp with rfl | hp
      · exact h _ (List.mem_cons_self ..)
      · exact mput_all hv (fun p hp => h p (List.mem_cons_of_mem _ hp)) p hp
theorem mget_all {κ ν : Type} [DecidableEq κ] {Q : ν → Prop} {k : κ} : ∀ {l : List (κ × ν)}, (∀ p ∈ l, Q p.2) → ∀ v, eO l k = some v → Q v
  | [], _, v, h => by simp [eO] at h
  | q :: l, hq, v, h => by
    unfold eO at h
    split at h
    · cases h; exact hq _ (List.mem_cons_self ..)
    · exact mget_all (fun p hp => hq p (List.mem_cons_of_mem _ hp)) v h
theorem named2_tot (a b r : Int) (h4 : r ≤ 4) : ∀ (d : Nat) (i : Int) (l : List GSpec), 0 ≤ i → i ≤ r → r - i = d → (l.length : Int) = i → Tot (fun k => l83_0 k a b r l i) (fun l => l.length ≤ 4) := by
  intro d
  induction d with
  | zero =>
    intro i l h0 h1 hd hl
    refine Tot.step ?_
    simp only [l83_0]
    exact Tot.neg (by omega) (Tot.ret (by omega))
  | succ d ih =>
    intro i l h0 h1 hd hl
    refine Tot.step ?_
    simp only [l83_0]
    have hw : wr (i + 1) = i + 1 := wr_id (by omega) (by omega)
    rw [hw]
    refine Tot.pos (by omega) (Tot.pos (by simp only [List.length_singleton, apl]; omega) (Tot.at_ (by omega) (by simp; try omega) (fun x _ => ih (i + 1) _ (by omega) (by omega) (by omega) (by simp; try omega))))
theorem named1_ev (a b c d : Int) : Ev (fun k => m82 k [a, b, c, d]) [⟨a, b, 0⟩, ⟨c, d, 0⟩] :=
  ⟨4, fun k hk => by
    obtain ⟨j, rfl⟩ : ∃ j, k = j + 4 := ⟨k - 4, by omega⟩
    rfl⟩
theorem Named_tot (name : ByteArray) (rank block : Int) : Tot (fun k => m56 k name rank block) (fun r => r.1.length ≤ 4) := by
  simp only [m56]
  refine Tot.ite (fun _ => Tot.ret (by simp)) (fun h0 => Tot.ite (fun _ => Tot.ret (by simp)) (fun h4 => ?_))
  refine Tot.bind (named1_ev _ _ _ _).is (fun r1 e1 => Tot.bind (named1_ev _ _ _ _).is (fun r2 e2 => Tot.bind (named1_ev _ _ _ _).is (fun r3 e3 => Tot.bind (named1_ev _ _ _ _).is (fun r4 e4 => Tot.bind (named1_ev _ _ _ _).is (fun r5 e5 => ?_)))))
  have hall : ∀ x : ByteArray, ((eO (cF (cF (cF (cF (cF ([] : (List (ByteArray × (List GSpec)))) (⟨#[99, 115, 114]⟩ : ByteArray) r1) (⟨#[99, 115, 99]⟩ : ByteArray) r2) (⟨#[100, 99, 115, 114]⟩ : ByteArray) r3) (⟨#[100, 99, 115, 99]⟩ : ByteArray) r4) (⟨#[98, 115, 114]⟩ : ByteArray) (r5 ++ ([(⟨4, 0, block⟩ : GSpec), (⟨4, 1, block⟩ : GSpec)] : List GSpec))) x).getD ([] : (List GSpec))).length ≤ 4 := by
    intro x
    cases hm : eO (cF (cF (cF (cF (cF ([] : (List (ByteArray × (List GSpec)))) (⟨#[99, 115, 114]⟩ : ByteArray) r1) (⟨#[99, 115, 99]⟩ : ByteArray) r2) (⟨#[100, 99, 115, 114]⟩ : ByteArray) r3) (⟨#[100, 99, 115, 99]⟩ : ByteArray) r4) (⟨#[98, 115, 114]⟩ : ByteArray) (r5 ++ ([(⟨4, 0, block⟩ : GSpec), (⟨4, 1, block⟩ : GSpec)] : List GSpec))) x with
    | none => simp
    | some v =>
      refine mget_all (Q := fun v : List GSpec => v.length ≤ 4) (mput_all (Q := fun v : List GSpec => v.length ≤ 4) ?_ (mput_all (Q := fun v : List GSpec => v.length ≤ 4) ?_ (mput_all (Q := fun v : List GSpec => v.length ≤ 4) ?_ (mput_all (Q := fun v : List GSpec => v.length ≤ 4) ?_ (mput_all (Q := fun v : List GSpec => v.length ≤ 4) ?_ (fun p hp => absurd hp List.not_mem_nil)))))) v hm <;> subst_vars <;> simp
  generalize hM : (cF (cF (cF (cF (cF ([] : (List (ByteArray × (List GSpec)))) (⟨#[99, 115, 114]⟩ : ByteArray) r1) (⟨#[99, 115, 99]⟩ : ByteArray) r2) (⟨#[100, 99, 115, 114]⟩ : ByteArray) r3) (⟨#[100, 99, 115, 99]⟩ : ByteArray) r4) (⟨#[98, 115, 114]⟩ : ByteArray) (r5 ++ ([(⟨4, 0, block⟩ : GSpec), (⟨4, 1, block⟩ : GSpec)] : List GSpec))) = M at hall ⊢
  have two : ∀ a b : Int, Tot (fun k => (m83 k a b rank).bind fun r8 => some (r8, (0 : Int))) (fun r => r.1.length ≤ 4) := fun a b =>
    Tot.bind (named2_tot a b rank (by omega) rank.toNat 0 [] (by omega) (by omega) (by omega) rfl) (fun r hr => Tot.ret hr)
  have fin : Tot (fun _ => some ((eO M name).getD ([] : (List GSpec)), (0 : Int))) (fun r => r.1.length ≤ 4) := Tot.ret (hall name)
  have bad : ∀ e : Int, Tot (fun _ => some (([] : (List GSpec)), e)) (fun r => r.1.length ≤ 4) := fun e => Tot.ret (by simp)
  have rest : Tot (fun _ => if (eO M name).isSome = true then (if rank = 2 then (if name = (⟨#[98, 115, 114]⟩ : ByteArray) then (if block < 1 then (some (([] : (List GSpec)), (1 : Int))) else some ((eO M name).getD ([] : (List GSpec)), (0 : Int))) else some ((eO M name).getD ([] : (List GSpec)), (0 : Int))) else (some (([] : (List GSpec)), 5))) else (some (([] : (List GSpec)), 5))) (fun r => r.1.length ≤ 4) :=
    Tot.ite (fun _ => Tot.ite (fun _ => Tot.ite (fun _ => Tot.ite (fun _ => bad _) (fun _ => fin)) (fun _ => fin)) (fun _ => bad _)) (fun _ => bad _)
  have hl : r5.length + ([(⟨4, 0, block⟩ : GSpec), (⟨4, 1, block⟩ : GSpec)] : List GSpec).length ≤ apl := by subst e5; simp [apl]
  exact Tot.pos hl (Tot.ite (fun _ => two _ _) (fun _ => Tot.ite (fun _ => two _ _) (fun _ => Tot.jn (Tot.ite (fun _ => Tot.ite (fun _ => two _ _) (fun _ => rest)) (fun _ => rest)))))
theorem cells1_ev : ∀ (l : List Int) (j : Nat), Ev (fun k => l91_1_0 k j l) (anyI (fun n => decide (n < 0)) j l)
  | [], j => by refine Ev.step ?_; simp only [l91_1_0]; exact Ev.ret _
  | x :: l, j => by
    refine Ev.step ?_
    simp only [l91_1_0, m97, anyI]
    exact Ev.bind (Ev.ret _) (Ev.ite (fun _ => Ev.ret _) (fun _ => cells1_ev l (j + 1)))
theorem index_ev (v : Int) : ∀ (l : List Int) (j : Nat), Ev (fun k => l101_0 k v j l) (anyI (fun n => decide (v = n)) j l)
  | [], j => by refine Ev.step ?_; simp only [l101_0]; exact Ev.ret _
  | x :: l, j => by
    refine Ev.step ?_
    simp only [l101_0, anyI, decide_eq_true_eq]
    exact Ev.ite (fun _ => Ev.ret _) (fun _ => index_ev v l (j + 1))
theorem cells0_tot : ∀ (l : List Int) (i : Int), Tot (fun k => l93_0 k i l) (fun _ => True)
  | [], i => by refine Tot.step ?_; simp only [l93_0]; exact Tot.ret trivial
  | x :: l, i => by
    refine Tot.step ?_
    simp only [l93_0, m99, Option.bind_some]
    exact Tot.ite (fun _ => Tot.ret trivial) (fun _ => Tot.ite (fun _ => Tot.ret trivial) (fun _ => cells0_tot l _))
theorem cells_tot (l : List Int) : Tot (fun k => m93 k l) (fun r => r.2 = 0 → l.length ≤ 4) := by
  simp only [m93, m77_1, m91_1, m98, m101]
  refine Tot.ite (fun _ => Tot.ret (fun h => by simp at h)) (fun h => ?_)
  have hl : l.length ≤ 4 := by omega
  exact Tot.bind (Q := fun _ => True) (Tot.ev (Ev.bind (cells1_ev l 0) (Ev.ret _)) trivial) (fun _ _ => Tot.ite (fun _ => Tot.ret (fun _ => hl)) (fun _ => Tot.bind (Q := fun _ => True) (Tot.ev (Ev.bind (index_ev 0 l 0) (Ev.ret _)) trivial) (fun _ _ => Tot.ite (fun _ => Tot.ret (fun _ => hl)) (fun _ => (cells0_tot l 1).mono (fun _ _ _ => hl)))))
theorem read1_tot (p : List Int) (hp : p.length ≤ 4) (b6 : Bool) (i6 : Int) (b7 : Bool) (i7 : Int) (b8 : Bool) (i8 : Int) (b9 : Bool) (i9 : Int) : ∀ (d : Nat) (i : Int), 0 ≤ i → i ≤ p.length → (p.length : Int) - i = d → Tot (fun k => l94_1 k p b6 i6 b7 i7 b8 i8 b9 i9 i) (fun _ => True) := by
  intro d
  induction d with
  | zero =>
    intro i h0 h1 hd
    refine Tot.step ?_
    simp only [l94_1]
    exact Tot.neg (by omega) (Tot.ret trivial)
  | succ d ih =>
    intro i h0 h1 hd
    refine Tot.step ?_
    simp only [l94_1]
    have hw : wr (i + 1) = i + 1 := wr_id (by omega) (by omega)
    rw [hw]
    have next := ih (i + 1) (by omega) (by omega) (by omega)
    exact Tot.pos (by omega) (Tot.pos (by omega) (Tot.ite (fun _ => next) (fun _ => Tot.ret trivial)))
set_option maxHeartbeats 4000000 in
theorem read0_tot (p : List Int) (hp : p.length ≤ 4) : ∀ (xs : List GSpec) (b2 : Bool) (i1 : Int) (b3 : Bool) (i2 : Int) (b4 : Bool) (i3 : Int) (b5 : Bool) (i4 i5 : Int), Tot (fun k => l94_0 k p b2 i1 b3 i2 b4 i3 b5 i4 i5 xs) (fun r => r.2 = true → ∀ x ∈ xs, 0 ≤ x.Mode ∧ x.Mode < p.length) := by
  intro xs
  induction xs with
  | nil =>
    intro b2 i1 b3 i2 b4 i3 b5 i4 i5
    refine Tot.step ?_
    simp only [l94_0]
    exact (read1_tot p hp b2 i1 b3 i2 b4 i3 b5 i4 p.length 0 (by omega) (by omega) (by omega)).mono (fun _ _ _ x hx => by cases hx)
  | cons x xs ih0 =>
    intro b2 i1 b3 i2 b4 i3 b5 i4 i5
    have ih : 0 ≤ x.Mode → x.Mode < p.length → ∀ (b2 : Bool) (i1 : Int) (b3 : Bool) (i2 : Int) (b4 : Bool) (i3 : Int) (b5 : Bool) (i4 i5 : Int), Tot (fun k => l94_0 k p b2 i1 b3 i2 b4 i3 b5 i4 i5 xs) (fun r => r.2 = true → ∀ y ∈ x :: xs, 0 ≤ y.Mode ∧ y.Mode < p.length) := fun h0 h1 b2 i1 b3 i2 b4 i3 b5 i4 i5 =>
      (ih0 b2 i1 b3 i2 b4 i3 b5 i4 i5).mono (fun r hr h y hy => by
        rcases List.mem_cons.1 hy with rfl | hy
        · exact ⟨h0, h1⟩
        · exact hr h y hy)
    clear ih0
    refine Tot.step ?_
    simp only [l94_0]
    refine Tot.ite (fun _ => Tot.ret (by simp)) (fun h0 => Tot.ite (fun _ => Tot.ret (by simp)) (fun h1 => Tot.jn ?_))
    have h2 : (0 : Int) ≤ x.Mode ∧ x.Mode < 4 := by omega
    have h3 : 0 ≤ x.Mode := by omega
    have h4 : x.Mode < p.length := by omega
    replace ih := ih h3 h4
    simp only [if_pos h2]
    clear h0 h1 h2
    repeat' (first
      | with_reducible exact ih _ _ _ _ _ _ _ _ _
      | with_reducible exact Tot.ret (by simp)
      | with_reducible refine Tot.jn ?_
      | (with_reducible refine Tot.at_ h3 h4 (fun q _ => Tot.pos ?_ ?_)); (show _ ≠ _; omega)
      | with_reducible refine Tot.ite (fun _ => ?_) (fun _ => ?_))
theorem sizes0_tot (p : List Int) (r : GModes × Bool) : ∀ (xs : List GSpec) (j : Nat) (l : List Int), (∀ x ∈ xs, 0 ≤ x.Mode ∧ x.Mode < p.length) → p.length ≤ 4 → l.length = j + xs.length → Tot (fun k => l84_0 k p r j l xs) (fun _ => True)
  | [], j, l, _, _, _ => by refine Tot.step ?_; simp only [l84_0]; exact Tot.ret trivial
  | x :: xs, j, l, hx, hp, hl => by
    obtain ⟨h3, h4⟩ := hx x (List.mem_cons_self ..)
    simp only [List.length_cons] at hl
    have next : ∀ l' : List Int, l'.length = l.length → Tot (fun k => (idx l' (j : Int)).bind fun x7 => if 2147483648 < x7 then (some (([] : (List Int)), (2 : Int))) else l84_0 k p r (j + 1) l' xs) (fun _ => True) := fun l' h' =>
      Tot.at_ (by omega) (by omega) (fun q _ => Tot.ite (fun _ => Tot.ret trivial) (fun _ => sizes0_tot p r xs (j + 1) l' (fun y hy => hx y (List.mem_cons_of_mem _ hy)) hp (by omega)))
    have put : ∀ v : Int, Tot (fun k => (idx l (j : Int)).bind fun _ => (idx (l.set ((j : Int) : Int).toNat v) (j : Int)).bind fun x7 => if 2147483648 < x7 then (some (([] : (List Int)), (2 : Int))) else l84_0 k p r (j + 1) (l.set ((j : Int) : Int).toNat v) xs) (fun _ => True) := fun v =>
      Tot.at_ (by omega) (by omega) (fun _ _ => next _ (by simp))
    have h2 : (0 : Int) ≤ x.Mode ∧ x.Mode < 4 := by omega
    have one : ∀ b : Int, Tot (fun k => jn (fun (y1 : (List Int)) => (idx y1 (j : Int)).bind fun x7 => if 2147483648 < x7 then (some (([] : (List Int)), (2 : Int))) else (l84_0 k p r (j + 1) y1 xs)) fun j4 => if x.Kind = 4 then ((idx l (j : Int)).bind fun x2 => j4 (l.set ((j : Int) : Int).toNat b)) else (if 0 < b then ((idx p x.Mode).bind fun x3 => if b ≠ 0 then ((idx l (j : Int)).bind fun x4 => j4 (l.set ((j : Int) : Int).toNat (wr (x3.tdiv b)))) else none) else ((idx p x.Mode).bind fun x5 => (idx l (j : Int)).bind fun x6 => j4 (l.set ((j : Int) : Int).toNat x5)))) (fun _ => True) := fun b =>
      Tot.jn (Tot.ite (fun _ => put _) (fun _ => Tot.ite (fun hb => Tot.at_ h3 h4 (fun q _ => Tot.pos (by omega) (put _))) (fun _ => Tot.at_ h3 h4 (fun q _ => put _))))
    refine Tot.step ?_
    simp only [l84_0, if_pos h2]
    exact one _
theorem form_tot (p : List Int) (f : List GSpec) (hf : f.length ≤ 4) : Tot (fun k => m57 k p f) (fun _ => True) := by
  simp only [m57, m84, m94]
  refine Tot.bind (Q := fun _ => True) (Tot.bind (cells_tot p) (fun r hr => Tot.ite (fun h => ?_) (fun _ => Tot.ret trivial))) (fun _ _ => Tot.ret trivial)
  refine Tot.bind (read0_tot p (hr h) f false 0 false 0 false 0 false 0 0) (fun m hm => Tot.ite (fun h2 => Tot.pos (by omega) ?_) (fun _ => Tot.ret trivial))
  exact sizes0_tot p m f 0 _ (hm h2) (hr h) (by simp)
theorem Form_tot (d : GDecl) : Tot (fun k => m33 k d) (fun _ => True) := by
  simp only [m33]
  refine Tot.bind (Named_tot d.Form d.Shape.length d.Block) (fun r hr => Tot.jn (Tot.ite (fun _ => Tot.bind (form_tot d.Shape r.1 hr) (fun e _ => Tot.ite (fun _ => Tot.ret trivial) (fun _ => Tot.ret trivial))) (fun _ => Tot.ite (fun _ => Tot.ret trivial) (fun _ => Tot.ret trivial))))
noncomputable def formF (d : GDecl) : List GSpec × Int := Classical.choose (Form_tot d)
theorem form_ev (d : GDecl) : Ev (fun k => m33 k d) (formF d) := (Classical.choose_spec (Form_tot d)).1
def hU (name : ByteArray) (ds : List GDecl) : GDecl × Bool :=
  match ds.find? (fun d => decide (d.Name = name)) with
  | some d => (d, true)
  | none => (⟨ByteArray.empty, [], ByteArray.empty, 0⟩, false)
theorem tensor0_ev (name : ByteArray) : ∀ (l : List GDecl) (j : Nat), Ev (fun k => l31_0 k name j l) (anyI (fun d => decide (d.Name = name)) j l)
  | [], j => by refine Ev.step ?_; simp only [l31_0]; exact Ev.ret _
  | x :: l, j => by
    refine Ev.step ?_
    simp only [l31_0, m32, anyI]
    exact Ev.bind (Ev.ret _) (Ev.ite (fun _ => Ev.ret _) (fun _ => tensor0_ev name l (j + 1)))
theorem find_anyI {α : Type} (p : α → Bool) : ∀ (l : List α) (i : Nat) (x : α), l[i]? = some x → p x = true → (∀ i' x', i' < i → l[i']? = some x' → p x' = false) → l.find? p = some x
  | [], i, x, h, _, _ => by simp at h
  | y :: l, 0, x, h, hp, _ => by simp at h; subst h; simp [hp]
  | y :: l, i + 1, x, h, hp, hn => by
    have := hn 0 y (by omega) (by simp)
    simp only [List.find?_cons, this]
    exact find_anyI p l i x (by simpa using h) hp (fun i' x' hi hx => hn (i' + 1) x' (by omega) (by simpa using hx))
theorem tensor_ev (name : ByteArray) (ds : List GDecl) : Ev (fun k => m13 k name ds) (hU name ds) := by
  simp only [m13, m31, hU]
  refine Ev.bind (tensor0_ev name ds 0) ?_
  by_cases h : anyI (fun d => decide (d.Name = name)) 0 ds < 0
  · refine Ev.pos h ((Ev.ret _).congr ?_)
    rw [List.find?_eq_none.2 (fun x hx => by simpa using (anyI_lt _ _ _).1 h x hx)]
  · refine Ev.neg h ?_
    obtain ⟨i, x, h1, h2, h3, h4⟩ := anyI_some _ _ _ (Int.not_lt.1 h)
    rw [h1, find_anyI _ _ i x h2 h3 h4]
    refine Ev.bind (Ev.of (idx_at (by omega) (x := x) ?_)) (Ev.ret _)
    rw [Nat.zero_add, Int.toNat_natCast]; exact h2
theorem tensorF_append {name : ByteArray} {ds es : List GDecl} (h : (hU name ds).2 = true) : hU name (ds ++ es) = hU name ds := by
  unfold hU at h ⊢
  split at h
  · rename_i d hd
    rw [List.find?_append, hd]; rfl
  · cases h
noncomputable def declE (pre : List GDecl) (x : GDecl) : Int := if declF x = true then (if (hU x.Name pre).2 = true then 7 else (formF x).2) else 1
noncomputable def fJ : List GDecl → List GDecl → Int × Int
  | pre, [] => ((pre.length : Int), 0)
  | pre, x :: xs => if declE pre x = 0 then fJ (pre ++ [x]) xs else ((pre.length : Int), declE pre x)
theorem check1d (d : GDecl) : checkF ⟨[d], []⟩ = declF d := by simp [checkF]
theorem check1s (s : GStmt) : checkF ⟨[], [s]⟩ = stmtF s := by simp [checkF]
theorem decls0_ev : ∀ (xs pre : List GDecl), Ev (fun k => l15_0 k (pre ++ xs) pre.length xs) (fJ pre xs)
  | [], pre => by refine Ev.step ?_; simp only [l15_0, fJ]; exact (Ev.ret _).congr (by simp)
  | x :: xs, pre => by
    refine Ev.step ?_
    simp only [l15_0, fJ]
    have g1 : (0 : Int) ≤ (pre.length : Int) ∧ (pre.length : Int) ≤ ((pre.length + 1 : Nat) : Int) ∧ ((pre.length + 1 : Nat) : Int) ≤ ((pre ++ x :: xs).length : Int) := by rw [List.length_append, List.length_cons]; omega
    have g2 : (0 : Int) ≤ 0 ∧ 0 ≤ (pre.length : Int) ∧ (pre.length : Int) ≤ ((pre ++ x :: xs).length : Int) := by rw [List.length_append, List.length_cons]; omega
    have e1 : ((pre ++ x :: xs).take (((pre.length + 1 : Nat) : Int) : Int).toNat).drop ((pre.length : Int) : Int).toNat = [x] := by
      rw [Int.toNat_natCast, Int.toNat_natCast, List.take_append, List.take_of_length_le (by omega), show pre.length + 1 - pre.length = 1 by omega, List.drop_left']
      · simp
      · simp
    have e2 : ((pre ++ x :: xs).take ((pre.length : Int) : Int).toNat).drop (0 : Int).toNat = pre := by simp
    have ih := decls0_ev xs (pre ++ [x])
    rw [List.append_assoc, List.singleton_append, List.length_append, List.length_singleton] at ih
    refine Ev.pos g1 ?_
    rw [e1]
    have hc := check_ev ⟨[x], []⟩
    rw [check1d] at hc
    have fin : ∀ e : Int, Ev (fun k => if e = 0 then l15_0 k (pre ++ x :: xs) (pre.length + 1) xs else some ((pre.length : Int), e)) (if e = 0 then fJ (pre ++ [x]) xs else ((pre.length : Int), e)) := fun e =>
      Ev.ite (fun _ => ih) (fun _ => Ev.ret _)
    refine Ev.bind hc (Ev.jn ?_)
    cases hd : declF x with
    | false =>
      refine Ev.neg (by simp) (Ev.jn (Ev.neg (by simp) ((fin 1).congr ?_)))
      simp [declE, hd]
    | true =>
      refine Ev.pos (by simp) (Ev.jn (Ev.pos g2 ?_))
      rw [e2]
      refine Ev.bind (tensor_ev x.Name pre) ?_
      cases ht : (hU x.Name pre).2 with
      | true =>
        refine Ev.pos rfl (Ev.jn (Ev.neg (by simp) ((fin 7).congr ?_)))
        simp [declE, hd, ht]
      | false =>
        refine Ev.neg (by simp) (Ev.jn (Ev.pos (by simp) (Ev.bind (form_ev x) ((fin _).congr ?_))))
        simp [declE, hd, ht]
theorem decls_ev (ds : List GDecl) : Ev (fun k => m15 k ds) (fJ [] ds) := decls0_ev ds []
theorem declsF_ok : ∀ (xs pre : List GDecl), (fJ pre xs).2 = 0 → fJ pre xs = (((pre ++ xs).length : Int), 0)
  | [], pre, _ => by simp [fJ]
  | x :: xs, pre, h => by
    simp only [fJ] at h ⊢
    by_cases h2 : declE pre x = 0
    · simp only [if_pos h2] at h ⊢
      rw [declsF_ok xs _ h]; simp
    · simp only [if_neg h2] at h
      exact absurd h h2
theorem declsF_all : ∀ (xs pre : List GDecl), (fJ pre xs).2 = 0 → ∀ d ∈ xs, declF d = true
  | [], pre, _, d, hd => by cases hd
  | x :: xs, pre, h, d, hd => by
    simp only [fJ] at h
    by_cases h2 : declE pre x = 0
    · simp only [if_pos h2] at h
      rcases List.mem_cons.1 hd with rfl | hd
      · unfold declE at h2; split at h2
        · assumption
        · cases h2
      · exact declsF_all xs _ h d hd
    · simp only [if_neg h2] at h
      exact absurd h h2
theorem index1_ev (v : ByteArray) : ∀ (l : List ByteArray) (j : Nat), Ev (fun k => l50_0 k v j l) (anyI (fun n => decide (v = n)) j l)
  | [], j => by refine Ev.step ?_; simp only [l50_0]; exact Ev.ret _
  | x :: l, j => by
    refine Ev.step ?_
    simp only [l50_0, anyI, decide_eq_true_eq]
    exact Ev.ite (fun _ => Ev.ret _) (fun _ => index1_ev v l (j + 1))
def hasF (l : List ByteArray) (v : ByteArray) : Bool := l.any (fun n => decide (v = n))
theorem contains_ev (l : List ByteArray) (v : ByteArray) : Ev (fun k => m28 k l v) (hasF l v) := by
  simp only [m28, m50]
  exact Ev.bind (index1_ev v l 0) ((Ev.ret _).congr (anyI_dec _ _ _))
def eR (ds : List GDecl) (name : ByteArray) (index : List ByteArray) : List Int × Int :=
  if (hU name ds).2 = true then (if (hU name ds).1.Shape.length = index.length then ((hU name ds).1.Shape, 0) else ([], 8)) else ([], 7)
theorem place_ev (ds : List GDecl) (name : ByteArray) (index : List ByteArray) : Ev (fun k => m27 k ds name index) (eR ds name index) := by
  simp only [m27, eR]
  refine Ev.bind (tensor_ev name ds) (Ev.ite (fun _ => ?_) (fun _ => Ev.ret _))
  by_cases h : (hU name ds).1.Shape.length = index.length
  · exact Ev.pos (by omega) ((Ev.ret _).congr (by simp [h]))
  · exact Ev.neg (by omega) ((Ev.ret _).congr (by simp [h]))
def readL : List (ByteArray × Int) → List GDim → Int × List GDim
  | [], l => (0, l)
  | z :: zs, l => match l.find? (fun x => decide (x.Name = z.1)) with
    | none => readL zs (l ++ [⟨z.1, z.2⟩])
    | some d => if d.Size = z.2 then readL zs l else (4, l)
theorem dim0_ev (index : List ByteArray) (i : Nat) (s : ByteArray) (hs : index[i]? = some s) : ∀ (l : List GDim) (j : Nat), Ev (fun k => l51_0 k index (i : Int) j l) (anyI (fun x => decide (x.Name = s)) j l)
  | [], j => by refine Ev.step ?_; simp only [l51_0]; exact Ev.ret _
  | x :: l, j => by
    refine Ev.step ?_
    have hi : idx index (i : Int) = some s := idx_at (by omega) (by rw [Int.toNat_natCast]; exact hs)
    simp only [l51_0, m52, anyI, hi, Option.bind_some]
    exact Ev.ite (fun _ => Ev.ret _) (fun _ => dim0_ev index i s hs l (j + 1))
theorem read0_ev (index : List ByteArray) (pl : List Int × Int) (ds : List GDecl) : ∀ (sh : List Int) (j : Nat) (l : List GDim), index.length = j + sh.length → l.length + sh.length ≤ 1000000 →
    Ev (fun k => l29_0 k index pl j ds l sh) ((if (readL ((index.drop j).zip sh) l).1 = 0 then pl.2 else 4), ds, (readL ((index.drop j).zip sh) l).2)
  | [], j, l, hi, hl => by refine Ev.step ?_; simp only [l29_0, List.zip_nil_right, readL]; exact (Ev.ret _).congr (by simp)
  | x :: sh, j, l, hi, hl => by
    simp only [List.length_cons] at hi hl
    have hj : j < index.length := by omega
    have hs : index[j]? = some index[j] := List.getElem?_eq_getElem hj
    have hd : index.drop j = index[j] :: index.drop (j + 1) := List.drop_eq_getElem_cons hj
    have hx : idx index (j : Int) = some index[j] := idx_at (by omega) (by rw [Int.toNat_natCast]; exact hs)
    refine Ev.step ?_
    simp only [l29_0, m51, hd, List.zip_cons_cons, readL, hx, Option.bind_some]
    refine Ev.bind (dim0_ev index j _ hs l 0) (Ev.jn ?_)
    by_cases h : anyI (fun x => decide (x.Name = index[j])) 0 l < 0
    · rw [List.find?_eq_none.2 (fun x hx => by simpa using (anyI_lt _ _ _).1 h x hx)]
      exact Ev.pos h (Ev.pos (by simp [apl]; omega) (read0_ev index pl ds sh (j + 1) (l ++ [⟨index[j], x⟩]) (by omega) (by simp; omega)))
    · obtain ⟨i, y, h1, h2, h3, h4⟩ := anyI_some _ _ _ (Int.not_lt.1 h)
      rw [find_anyI _ _ i y h2 h3 h4]
      refine Ev.neg h ?_
      rw [h1]
      refine Ev.bind (Ev.of (idx_at (by omega) (x := y) (by rw [Nat.zero_add, Int.toNat_natCast]; exact h2))) ?_
      by_cases hy : y.Size = x
      · refine Ev.pos hy ((read0_ev index pl ds sh (j + 1) l (by omega) (by omega)).congr (by simp [hy]))
      · exact Ev.neg hy ((Ev.ret _).congr (by simp [hy]))
def readF (ds : List GDecl) (l : List GDim) (name : ByteArray) (index : List ByteArray) : Int × List GDim :=
  if (eR ds name index).2 = 0 then readL (index.zip (eR ds name index).1) l else ((eR ds name index).2, l)
theorem readL_e : ∀ (zs : List (ByteArray × Int)) (l : List GDim), (readL zs l).1 = 0 ∨ (readL zs l).1 = 4
  | [], l => .inl rfl
  | z :: zs, l => by
    unfold readL
    split
    · exact readL_e zs _
    · split
      · exact readL_e zs _
      · exact .inr rfl
theorem place_len {ds : List GDecl} {name : ByteArray} {index : List ByteArray} (h : (eR ds name index).2 = 0) : index.length = (eR ds name index).1.length := by
  unfold eR at h ⊢
  split at h
  · split at h
    · simp_all
    · simp at h
  · simp at h
theorem place_ok {ds : List GDecl} {name : ByteArray} {index : List ByteArray} (h : (eR ds name index).2 = 0) : (hU name ds).2 = true ∧ (eR ds name index).1 = (hU name ds).1.Shape := by
  unfold eR at h ⊢
  split at h
  · split at h
    · simp_all
    · simp at h
  · simp at h
theorem place_bad {ds : List GDecl} {name : ByteArray} {index : List ByteArray} (h : (eR ds name index).2 ≠ 0) : (eR ds name index).1 = [] := by
  unfold eR at h ⊢
  split at h
  · split at h
    · simp at h
    · simp_all
  · simp_all
theorem read_ev (ds : List GDecl) (l : List GDim) (name : ByteArray) (index : List ByteArray) (hl : l.length + index.length ≤ 1000000) :
    Ev (fun k => m29 k ds l name index) ((readF ds l name index).1, ds, (readF ds l name index).2) := by
  simp only [m29, readF]
  refine Ev.bind (place_ev ds name index) ?_
  by_cases h : (eR ds name index).2 = 0
  · have hlen := place_len h
    refine (read0_ev index (eR ds name index) ds _ 0 l (by omega) (by omega)).congr ?_
    simp only [List.drop_zero, if_pos h, h]
    rcases readL_e (index.zip (eR ds name index).1) l with e | e <;> simp [e]
  · have hb := place_bad h
    rw [hb]
    refine Ev.step ?_
    simp only [l29_0]
    exact (Ev.ret _).congr (by simp [h])
theorem readL_len : ∀ (zs : List (ByteArray × Int)) (l : List GDim), (readL zs l).2.length ≤ l.length + zs.length
  | [], l => by simp [readL]
  | z :: zs, l => by
    unfold readL
    simp only [List.length_cons]
    split
    · have := readL_len zs (l ++ [⟨z.1, z.2⟩]); simp at this; omega
    · split
      · have := readL_len zs l; omega
      · simp
theorem readF_len (ds : List GDecl) (l : List GDim) (name : ByteArray) (index : List ByteArray) : (readF ds l name index).2.length ≤ l.length + index.length := by
  unfold readF
  split
  · have := readL_len (index.zip (eR ds name index).1) l; rw [List.length_zip] at this; omega
  · simp
mutual
def refsF : GNode → List GNode
  | ⟨op, n, nm, ix, l⟩ => if op = 2 then [⟨op, n, nm, ix, l⟩] else refsL l
def refsL : List GNode → List GNode
  | [] => []
  | x :: l => refsF x ++ refsL l
end
theorem refsF_eq (n : GNode) : refsF n = if n.Op = 2 then [n] else refsL n.L := by cases n; simp [refsF]
theorem refs_len : ∀ n : GNode, (refsF n).length ≤ gJ n := by
  apply GNode.ind
  intro n ih
  have hl : ∀ l : List GNode, (∀ x ∈ l, (refsF x).length ≤ gJ x) → (refsL l).length ≤ nodesL l := by
    intro l
    induction l with
    | nil => intro _; simp [refsL]
    | cons x l ihl =>
      intro h
      have h1 := h x (by simp)
      have h2 := ihl (fun y hy => h y (by simp [hy]))
      simp only [refsL, nodesL, List.length_append]; omega
  have := hl n.L ih
  rw [refsF_eq, nodesF_eq]
  split
  · simp
  · omega
theorem refs_ev : ∀ n : GNode, gJ n ≤ 1000000 → Ev (fun k => m12 k n) (refsF n) := by
  apply GNode.ind
  intro n ih hn
  rw [nodesF_eq] at hn
  have loop : ∀ (l : List GNode) (acc : List GNode), (∀ x ∈ l, x ∈ n.L) → acc.length + nodesL l ≤ 1000000 → Ev (fun k => l12_0 k acc l) (acc ++ refsL l) := by
    intro l
    induction l with
    | nil => intro acc _ _; refine Ev.step ?_; simp only [l12_0]; exact (Ev.ret _).congr (by simp [refsL])
    | cons x l ihl =>
      intro acc hx hl
      simp only [nodesL] at hl
      have h1 := refs_len x
      refine Ev.step ?_
      simp only [l12_0]
      refine Ev.bind (ih x (hx x (by simp)) (by omega)) (Ev.pos (by simp only [apl]; omega) ((ihl (acc ++ refsF x) (fun y hy => hx y (by simp [hy])) (by rw [List.length_append]; omega)).congr ?_))
      simp [refsL]
  refine Ev.step ?_
  simp only [m12]
  rw [refsF_eq]
  exact Ev.ite (fun _ => Ev.ret _) (fun _ => (loop n.L [] (fun _ h => h) (by simp; omega)).congr (by simp))
mutual
def sumsF : GNode → Bool
  | ⟨op, n, nm, ix, l⟩ => (if op = 7 then (refsL l).any (fun r => hasF r.Index nm) else true) && sumsL l
def sumsL : List GNode → Bool
  | [] => true
  | x :: l => sumsF x && sumsL l
end
theorem sumsF_eq (n : GNode) : sumsF n = ((if n.Op = 7 then (refsF n).any (fun r => hasF r.Index n.Name) else true) && sumsL n.L) := by
  rw [refsF_eq]
  cases n with
  | mk op N nm ix l => 
    simp only [sumsF]
    by_cases h : op = 7
    · simp [h]
    · simp [h]
theorem sums1_ev (nm : ByteArray) (a b : Int) (c : List ByteArray) (e : List GNode) : ∀ (l : List GNode) (j : Nat), Ev (fun k => l81_0 k a b nm c e j l) (anyI (fun r => hasF r.Index nm) j l)
  | [], j => by refine Ev.step ?_; simp only [l81_0]; exact Ev.ret _
  | x :: l, j => by
    refine Ev.step ?_
    simp only [l81_0, m53, anyI]
    exact Ev.bind (Ev.bind (contains_ev _ _) (Ev.ret _)) (Ev.ite (fun _ => Ev.ret _) (fun _ => sums1_ev nm a b c e l (j + 1)))
theorem sumsL_all : ∀ l : List GNode, sumsL l = l.all sumsF
  | [] => rfl
  | x :: l => by simp [sumsL, sumsL_all l]
theorem sums_ev : ∀ n : GNode, gJ n ≤ 1000000 → Ev (fun k => m30 k n) (sumsF n) := by
  apply GNode.ind
  intro n ih hn
  have hn' := hn
  rw [nodesF_eq] at hn'
  have each : ∀ l : List GNode, (∀ x ∈ l, x ∈ n.L) → (∀ x ∈ l, gJ x ≤ 1000000) → ∀ j : Nat, Ev (fun k => l81_1_0 k j l) (anyI (fun r => !sumsF r) j l) := by
    intro l
    induction l with
    | nil => intro _ _ j; refine Ev.step ?_; simp only [l81_1_0]; exact Ev.ret _
    | cons x l ihl =>
      intro hx hb j
      refine Ev.step ?_
      simp only [l81_1_0, anyI]
      refine Ev.bind (Ev.step ?_) (Ev.ite (fun _ => Ev.ret _) (fun _ => ihl (fun y hy => hx y (by simp [hy])) (fun y hy => hb y (by simp [hy])) (j + 1)))
      simp only [m55]
      exact Ev.bind (ih x (hx x (by simp)) (hb x (by simp))) (Ev.ret _)
  have small : ∀ l : List GNode, nodesL l ≤ 1000000 → ∀ x ∈ l, gJ x ≤ 1000000 := by
    intro l
    induction l with
    | nil => intro _ x hx; cases hx
    | cons y l ihl =>
      intro h x hx
      simp only [nodesL] at h
      rcases List.mem_cons.1 hx with rfl | hx
      · omega
      · exact ihl (by omega) x hx
  have rest : Ev (fun k => (m54_1 k n.L).bind fun r3 => some (!r3)) (sumsL n.L) := by
    refine Ev.bind (r := !sumsL n.L) (Ev.step ?_) ((Ev.ret _).congr (by simp))
    simp only [m54_1]
    refine Ev.bind (Ev.step ?_) ((Ev.ret (decide (0 ≤ anyI (fun r => !sumsF r) 0 n.L))).congr ?_)
    · simp only [m81_1]
      exact each n.L (fun _ h => h) (small n.L (by omega)) 0
    · rw [anyI_dec, sumsL_all, List.not_all_eq_any_not]
  refine Ev.step ?_
  simp only [m30]
  rw [sumsF_eq]
  refine Ev.jn ?_
  by_cases h7 : n.Op = 7
  · refine Ev.pos h7 (Ev.bind (refs_ev n hn) ?_)
    simp only [m54, m81]
    refine Ev.bind (Ev.bind (sums1_ev n.Name _ _ _ _ (refsF n) 0) ((Ev.ret _).congr (anyI_dec _ _ _))) ?_
    cases h : (refsF n).any (fun r => hasF r.Index n.Name) with
    | true => exact Ev.pos rfl (rest.congr (by simp [h7, h]))
    | false => exact Ev.neg (by simp) ((Ev.ret _).congr (by simp [h7, h]))
  · exact Ev.neg h7 (rest.congr (by simp [h7]))
theorem indexedF_len {l : List ByteArray} (h : gY l = true) : l.length ≤ 4 := by
  simp only [gY, Bool.and_eq_true, decide_eq_true_eq] at h; exact h.1
theorem refs_okN : ∀ (d : Nat) (n : GNode), okN d n = true → ∀ x ∈ refsF n, x.Op = 2 ∧ x.Index.length ≤ 4 ∧ namedF x.Name = true ∧ gY x.Index = true ∧ x.L = [] ∧ x.N = 0
  | 0, n, h, _, _ => by simp [okN] at h
  | d + 1, n, h, x, hx => by
    simp only [okN, Bool.and_eq_true] at h
    rw [refsF_eq] at hx
    split at hx
    · rename_i h2
      have hh := h.1
      simp only [headF, h2, Bool.and_eq_true, decide_eq_true_eq] at hh
      obtain rfl := List.mem_singleton.1 hx
      have h3 : kidsF 2 = 0 := rfl
      have h4 := hh.2
      rw [if_neg (by decide), if_pos trivial] at h4
      simp only [Bool.and_eq_true, decide_eq_true_eq] at h4
      refine ⟨h2, indexedF_len h4.2, h4.1.2, h4.2, ?_, h4.1.1⟩
      exact List.length_eq_zero_iff.1 (by have := hh.1; omega)
    · have aux : ∀ l : List GNode, (∀ y ∈ l, okN d y = true) → x ∈ refsL l → x.Op = 2 ∧ x.Index.length ≤ 4 ∧ namedF x.Name = true ∧ gY x.Index = true ∧ x.L = [] ∧ x.N = 0 := by
        intro l
        induction l with
        | nil => intro _ h; simp [refsL] at h
        | cons y l ih =>
          intro h1 h2
          simp only [refsL, List.mem_append] at h2
          rcases h2 with h2 | h2
          · exact refs_okN d y (h1 y (by simp)) x h2
          · exact ih (fun z hz => h1 z (by simp [hz])) h2
      exact aux n.L (List.all_eq_true.1 h.2) hx
theorem stmt_parts {s : GStmt} (h : stmtF s = true) : namedF s.Name = true ∧ gY s.Index = true ∧ okN 16 s.E = true ∧ gJ s.E ≤ 120 := by
  simp only [stmtF, mayF, Bool.and_eq_true, decide_eq_true_eq] at h
  exact ⟨h.1.1, h.1.2, h.2.1, h.2.2⟩
def dupF : List ByteArray → List ByteArray → Bool
  | _, [] => false
  | pre, x :: xs => hasF pre x || dupF (pre ++ [x]) xs
def restF (ds : List GDecl) : List GNode → Int → List GDim → Int × List GDim
  | [], e, l => (e, l)
  | x :: xs, e, l => if e = 0 then restF ds xs (readF ds l x.Name x.Index).1 (readF ds l x.Name x.Index).2 else restF ds xs e l
theorem sizes1_ev (s : GStmt) (ds : List GDecl) (hn : gJ s.E ≤ 120) : ∀ (refs : List GNode) (e : Int) (l : List GDim), (∀ x ∈ refs, x.Index.length ≤ 4) → l.length + 4 * refs.length ≤ 1000000 →
    Ev (fun k => l10_1 k s ds l e refs) (if (restF ds refs e l).1 = 0 then (if sumsF s.E = true then ((restF ds refs e l).2, 0) else ([], 5)) else ([], (restF ds refs e l).1))
  | [], e, l, _, _ => by
    refine Ev.step ?_
    simp only [l10_1, restF]
    exact Ev.ite (fun _ => Ev.bind (sums_ev s.E (by omega)) (Ev.ite (fun _ => Ev.ret _) (fun _ => Ev.ret _))) (fun _ => Ev.ret _)
  | x :: refs, e, l, hx, hl => by
    simp only [List.length_cons] at hl
    have h4 := hx x (by simp)
    have hl2 := readF_len ds l x.Name x.Index
    refine Ev.step ?_
    simp only [l10_1, restF]
    refine Ev.jn ?_
    by_cases h : e = 0
    · refine Ev.pos h (Ev.bind (read_ev ds l x.Name x.Index (by omega)) ((sizes1_ev s ds hn refs _ _ (fun y hy => hx y (by simp [hy])) (by dsimp only; omega)).congr ?_))
      simp only [if_pos h]
    · refine Ev.neg h ((sizes1_ev s ds hn refs e l (fun y hy => hx y (by simp [hy])) (by omega)).congr ?_)
      simp only [if_neg h]
noncomputable def sizes2F (s : GStmt) (ds : List GDecl) : List GDim × Int :=
  if (restF ds (refsF s.E) (readF ds [] s.Name s.Index).1 (readF ds [] s.Name s.Index).2).1 = 0 then
    (if sumsF s.E = true then ((restF ds (refsF s.E) (readF ds [] s.Name s.Index).1 (readF ds [] s.Name s.Index).2).2, 0) else ([], 5))
  else ([], (restF ds (refsF s.E) (readF ds [] s.Name s.Index).1 (readF ds [] s.Name s.Index).2).1)
theorem sizes0_ev (s : GStmt) (ds : List GDecl) (hs : stmtF s = true) : ∀ (xs pre : List ByteArray), s.Index = pre ++ xs →
    Ev (fun k => l10_0 k s ds pre.length xs) (if dupF pre xs = true then ([], 7) else sizes2F s ds)
  | [], pre, hp => by
    obtain ⟨_, h2, h3, h4⟩ := stmt_parts hs
    have h5 := indexedF_len h2
    have h6 := refs_len s.E
    have h7 := readF_len ds [] s.Name s.Index
    simp only [List.length_nil] at h7
    refine Ev.step ?_
    simp only [l10_0, dupF, sizes2F]
    refine Ev.bind (read_ev ds [] s.Name s.Index (by simp; omega)) (Ev.bind (refs_ev s.E (by omega)) ((sizes1_ev s ds h4 (refsF s.E) _ _ (fun x hx => (refs_okN 16 s.E h3 x hx).2.1) (by dsimp only; omega)).congr ?_))
    simp
  | x :: xs, pre, hp => by
    refine Ev.step ?_
    simp only [l10_0, dupF]
    have g : (0 : Int) ≤ 0 ∧ 0 ≤ (pre.length : Int) ∧ (pre.length : Int) ≤ (s.Index.length : Int) := by rw [hp, List.length_append, List.length_cons]; omega
    have e2 : (s.Index.take ((pre.length : Int) : Int).toNat).drop (0 : Int).toNat = pre := by rw [hp]; simp
    refine Ev.pos g ?_
    rw [e2]
    refine Ev.bind (contains_ev pre x) ?_
    by_cases h : hasF pre x = true
    · exact Ev.pos h ((Ev.ret _).congr (by simp [h]))
    · have ih := sizes0_ev s ds hs xs (pre ++ [x]) (by rw [hp]; simp)
      rw [List.length_append, List.length_singleton] at ih
      exact Ev.neg h (ih.congr (by simp [h]))
noncomputable def hG (s : GStmt) (ds : List GDecl) : List GDim × Int :=
  if (fJ [] ds).2 = 0 then (if stmtF s = true then (if (eR ds s.Name s.Index).2 = 0 then (if dupF [] s.Index = true then ([], 7) else sizes2F s ds) else ([], (eR ds s.Name s.Index).2)) else ([], 1)) else ([], 1)
theorem sizes_ev (s : GStmt) (ds : List GDecl) : Ev (fun k => m10 k s ds) (hG s ds) := by
  simp only [m10, hG]
  refine Ev.bind (decls_ev ds) (Ev.ite (fun _ => ?_) (fun _ => Ev.ret _))
  have hc := check_ev ⟨[], [s]⟩
  rw [check1s] at hc
  refine Ev.bind hc ?_
  cases h : stmtF s with
  | false => exact Ev.neg (by simp) ((Ev.ret _).congr (by simp))
  | true =>
    refine Ev.pos (by simp) (Ev.bind (place_ev ds s.Name s.Index) (Ev.congr (r := if (eR ds s.Name s.Index).2 = 0 then _ else _) (Ev.ite (fun _ => sizes0_ev s ds h s.Index [] rfl) (fun _ => Ev.ret _)) ?_))
    simp
noncomputable def progL (ds : List GDecl) : Int → List GStmt → Int × Int
  | n, [] => (n, 0)
  | n, s :: xs => if (hG s ds).2 = 0 then progL ds (n + 1) xs else (n, (hG s ds).2)
noncomputable def programF (p : GProg) : Int × Int := if checkF p = true then (if (fJ [] p.D).2 = 0 then progL p.D (fJ [] p.D).1 p.S else fJ [] p.D) else (0, 1)
theorem prog0_ev (p : GProg) : ∀ (xs : List GStmt) (n : Int), 0 ≤ n → n + xs.length ≤ 1000000 → Ev (fun k => l14_0 k p n xs) (progL p.D n xs)
  | [], n, _, _ => by refine Ev.step ?_; simp only [l14_0, progL]; exact Ev.ret _
  | s :: xs, n, h0, hn => by
    simp only [List.length_cons] at hn
    refine Ev.step ?_
    simp only [l14_0, progL]
    have hw : wr (n + 1) = n + 1 := wr_id (by omega) (by omega)
    rw [hw]
    exact Ev.bind (sizes_ev s p.D) (Ev.ite (fun _ => prog0_ev p xs (n + 1) (by omega) (by omega)) (fun _ => Ev.ret _))
theorem check_parts {p : GProg} (h : checkF p = true) : p.D.length ≤ 32 ∧ p.S.length ≤ 32 ∧ (∀ d ∈ p.D, declF d = true) ∧ ∀ s ∈ p.S, stmtF s = true := by
  simp only [checkF, Bool.and_eq_true, decide_eq_true_eq, List.all_eq_true] at h
  exact ⟨h.1.1.1, h.1.1.2, h.1.2, h.2⟩
theorem program_ev (p : GProg) : Ev (fun k => m14 k p) (programF p) := by
  simp only [m14, programF]
  refine Ev.bind (check_ev p) ?_
  cases h : checkF p with
  | false => exact Ev.neg (by simp) ((Ev.ret _).congr (by simp))
  | true =>
    obtain ⟨h1, h2, _, _⟩ := check_parts h
    refine Ev.pos (by simp) (Ev.bind (decls_ev p.D) ?_)
    by_cases hd : (fJ [] p.D).2 = 0
    · have := congrArg Prod.fst (declsF_ok p.D [] hd)
      simp only [List.nil_append] at this
      exact Ev.pos hd ((prog0_ev p p.S _ (by omega) (by omega)).congr (by simp [hd]))
    · exact Ev.neg hd ((Ev.ret _).congr (by simp [hd]))
theorem few0_tot (n : GNode) (d : Int) (h : Tot (fun k => l25_1 k d n.L) (fun _ => True)) : ∀ l : List ByteArray, Tot (fun k => l25_0 k n d l) (fun _ => True)
  | [] => by refine Tot.step ?_; simp only [l25_0]; exact h
  | x :: l => by refine Tot.step ?_; simp only [l25_0]; exact Tot.ite (fun _ => Tot.ret trivial) (fun _ => few0_tot n d h l)
theorem few_tot : ∀ (n : GNode) (d : Int), Tot (fun k => m25 k n d) (fun _ => True) := by
  apply GNode.ind
  intro n ih d
  have loop : ∀ l : List GNode, (∀ x ∈ l, x ∈ n.L) → Tot (fun k => l25_1 k d l) (fun _ => True) := by
    intro l
    induction l with
    | nil => intro _; refine Tot.step ?_; simp only [l25_1]; exact Tot.ret trivial
    | cons x l ihl =>
      intro hx
      refine Tot.step ?_
      simp only [l25_1]
      exact Tot.bind (ih x (hx x (by simp)) _) (fun _ _ => Tot.ite (fun _ => ihl (fun y hy => hx y (by simp [hy]))) (fun _ => Tot.ret trivial))
  refine Tot.step ?_
  simp only [m25]
  exact Tot.ite (fun _ => Tot.ret trivial) (fun _ => Tot.ite (fun _ => Tot.ret trivial) (fun _ => Tot.ite (fun _ => Tot.ret trivial) (fun _ => Tot.ite (fun _ => Tot.ret trivial) (fun _ => few0_tot n d (loop n.L (fun _ h => h)) n.Index))))
theorem fewP2_tot (p : GProg) (xs : List GStmt) (h : Tot (fun k => l9_1 k p xs) (fun _ => True)) : ∀ l : List ByteArray, Tot (fun k => l9_2 k p xs l) (fun _ => True)
  | [] => by refine Tot.step ?_; simp only [l9_2]; exact h
  | x :: l => by refine Tot.step ?_; simp only [l9_2]; exact Tot.ite (fun _ => Tot.ret trivial) (fun _ => fewP2_tot p xs h l)
theorem fewP1_tot (p : GProg) : ∀ xs : List GStmt, Tot (fun k => l9_1 k p xs) (fun _ => True)
  | [] => by refine Tot.step ?_; simp only [l9_1]; exact Tot.jn (Tot.ite (fun _ => Tot.ret trivial) (fun _ => Tot.ret trivial))
  | x :: xs => by
    refine Tot.step ?_
    simp only [l9_1]
    exact Tot.bind (few_tot _ _) (fun _ _ => Tot.ite (fun _ => Tot.ite (fun _ => Tot.ret trivial) (fun _ => Tot.ite (fun _ => Tot.ret trivial) (fun _ => fewP2_tot p xs (fewP1_tot p xs) _))) (fun _ => Tot.ret trivial))
theorem fewP0_tot (p : GProg) : ∀ xs : List GDecl, Tot (fun k => l9_0 k p xs) (fun _ => True)
  | [] => by refine Tot.step ?_; simp only [l9_0]; exact fewP1_tot p p.S
  | x :: xs => by
    refine Tot.step ?_
    simp only [l9_0]
    exact Tot.ite (fun _ => Tot.ret trivial) (fun _ => Tot.ite (fun _ => Tot.ret trivial) (fun _ => fewP0_tot p xs))
theorem fewProg_tot (p : GProg) : Tot (fun k => m9 k p) (fun _ => True) := fewP0_tot p p.D
theorem place_append {ds es : List GDecl} {n : ByteArray} {i : List ByteArray} (h : (eR ds n i).2 = 0) : eR (ds ++ es) n i = eR ds n i := by
  have h1 := (place_ok h).1
  unfold eR
  rw [tensorF_append h1]
theorem readF_place {ds : List GDecl} {l : List GDim} {n : ByteArray} {i : List ByteArray} (h : (readF ds l n i).1 = 0) : (eR ds n i).2 = 0 := by
  unfold readF at h
  split at h
  · assumption
  · exact h
theorem readF_append {ds es : List GDecl} {l : List GDim} {n : ByteArray} {i : List ByteArray} (h : (readF ds l n i).1 = 0) : readF (ds ++ es) l n i = readF ds l n i := by
  have h1 := readF_place h
  unfold readF
  rw [place_append h1]
theorem restF_zero : ∀ (ds : List GDecl) (refs : List GNode) (e : Int) (l : List GDim), (restF ds refs e l).1 = 0 → e = 0
  | ds, [], e, l, h => h
  | ds, x :: refs, e, l, h => by
    unfold restF at h
    split at h
    · assumption
    · exact restF_zero ds refs e l h
theorem restF_append (es : List GDecl) : ∀ (ds : List GDecl) (refs : List GNode) (e : Int) (l : List GDim), (restF ds refs e l).1 = 0 → restF (ds ++ es) refs e l = restF ds refs e l
  | ds, [], e, l, h => rfl
  | ds, x :: refs, e, l, h => by
    have he := restF_zero ds (x :: refs) e l h
    unfold restF at h ⊢
    simp only [if_pos he] at h ⊢
    have hr := restF_zero _ _ _ _ h
    rw [readF_append hr]
    exact restF_append es ds refs _ _ h
theorem sizesF_parts {s : GStmt} {ds : List GDecl} (h : (hG s ds).2 = 0) : (fJ [] ds).2 = 0 ∧ stmtF s = true ∧ (eR ds s.Name s.Index).2 = 0 ∧ dupF [] s.Index = false ∧ hG s ds = sizes2F s ds ∧
    (restF ds (refsF s.E) (readF ds [] s.Name s.Index).1 (readF ds [] s.Name s.Index).2).1 = 0 ∧ (readF ds [] s.Name s.Index).1 = 0 ∧ sumsF s.E = true ∧
    hG s ds = ((restF ds (refsF s.E) (readF ds [] s.Name s.Index).1 (readF ds [] s.Name s.Index).2).2, 0) := by
  unfold hG at h ⊢
  by_cases h1 : (fJ [] ds).2 = 0
  · rw [if_pos h1] at h ⊢
    by_cases h2 : stmtF s = true
    · rw [if_pos h2] at h ⊢
      by_cases h3 : (eR ds s.Name s.Index).2 = 0
      · rw [if_pos h3] at h ⊢
        by_cases h4 : dupF [] s.Index = true
        · rw [if_pos h4] at h; simp at h
        · rw [if_neg h4] at h ⊢
          unfold sizes2F at h ⊢
          by_cases h5 : (restF ds (refsF s.E) (readF ds [] s.Name s.Index).1 (readF ds [] s.Name s.Index).2).1 = 0
          · rw [if_pos h5] at h ⊢
            by_cases h6 : sumsF s.E = true
            · rw [if_pos h6] at h ⊢
              exact ⟨h1, h2, h3, by simpa using h4, rfl, h5, restF_zero _ _ _ _ h5, h6, rfl⟩
            · rw [if_neg h6] at h; simp at h
          · rw [if_neg h5] at h; exact absurd h h5
      · rw [if_neg h3] at h; exact absurd h h3
    · rw [if_neg h2] at h; simp at h
  · rw [if_neg h1] at h; simp at h
theorem sizesF_mk {s : GStmt} {ds : List GDecl} (h1 : (fJ [] ds).2 = 0) (h2 : stmtF s = true) (h3 : (eR ds s.Name s.Index).2 = 0) (h4 : dupF [] s.Index = false) : hG s ds = sizes2F s ds := by
  unfold hG
  rw [if_pos h1, if_pos h2, if_pos h3, if_neg (by rw [h4]; simp)]
theorem sizesF_append {s : GStmt} {ds es : List GDecl} (h : (hG s ds).2 = 0) (hd : (fJ [] (ds ++ es)).2 = 0) : hG s (ds ++ es) = hG s ds := by
  obtain ⟨h1, h2, h3, h4, h5, h6, h7, h8, h9⟩ := sizesF_parts h
  rw [h5, sizesF_mk hd h2 (by rw [place_append h3]; exact h3) h4]
  unfold sizes2F
  rw [readF_append h7, restF_append es _ _ _ _ h6]
theorem progL_ok (ds : List GDecl) : ∀ (xs : List GStmt) (n : Int), (progL ds n xs).2 = 0 → progL ds n xs = (n + xs.length, 0) ∧ ∀ s ∈ xs, (hG s ds).2 = 0
  | [], n, _ => by simp [progL]
  | s :: xs, n, h => by
    unfold progL at h ⊢
    by_cases h1 : (hG s ds).2 = 0
    · rw [if_pos h1] at h ⊢
      obtain ⟨h2, h3⟩ := progL_ok ds xs (n + 1) h
      refine ⟨by rw [h2]; simp; omega, fun t ht => ?_⟩
      rcases List.mem_cons.1 ht with rfl | ht
      · exact h1
      · exact h3 t ht
    · rw [if_neg h1] at h; exact absurd h h1
theorem progL_mk (ds : List GDecl) : ∀ (xs : List GStmt) (n : Int), (∀ s ∈ xs, (hG s ds).2 = 0) → progL ds n xs = (n + xs.length, 0)
  | [], n, _ => by simp [progL]
  | s :: xs, n, h => by
    unfold progL
    rw [if_pos (h s (by simp)), progL_mk ds xs (n + 1) (fun t ht => h t (by simp [ht]))]
    simp; omega
theorem programF_ok {p : GProg} (h : (programF p).2 = 0) : checkF p = true ∧ (fJ [] p.D).2 = 0 ∧ programF p = (((p.D.length + p.S.length : Nat) : Int), 0) ∧ ∀ s ∈ p.S, (hG s p.D).2 = 0 := by
  unfold programF at h ⊢
  by_cases h1 : checkF p = true
  · rw [if_pos h1] at h ⊢
    by_cases h2 : (fJ [] p.D).2 = 0
    · rw [if_pos h2] at h ⊢
      have h3 := declsF_ok p.D [] h2
      obtain ⟨h4, h5⟩ := progL_ok p.D p.S _ h
      refine ⟨h1, h2, ?_, h5⟩
      rw [h4, h3]; simp
    · rw [if_neg h2] at h; exact absurd h h2
  · rw [if_neg h1] at h; simp at h
theorem programF_mk {p : GProg} (h1 : checkF p = true) (h2 : (fJ [] p.D).2 = 0) (h3 : ∀ s ∈ p.S, (hG s p.D).2 = 0) : programF p = (((p.D.length + p.S.length : Nat) : Int), 0) := by
  unfold programF
  rw [if_pos h1, if_pos h2, progL_mk p.D p.S _ h3, declsF_ok p.D [] h2]; simp
theorem check_mk {p : GProg} (h1 : p.D.length ≤ 32) (h2 : p.S.length ≤ 32) (h3 : ∀ d ∈ p.D, declF d = true) (h4 : ∀ s ∈ p.S, stmtF s = true) : checkF p = true := by
  simp only [checkF, Bool.and_eq_true, decide_eq_true_eq, List.all_eq_true]
  exact ⟨⟨⟨h1, h2⟩, h3⟩, h4⟩
theorem live_at (j : Nat) : m8 (j + 200) = some true := by kernel_rfl
theorem live_ev : Ev (fun k => m8 k) true := ⟨200, fun k hk => by
  obtain ⟨j, rfl⟩ : ∃ j, k = j + 200 := ⟨k - 200, by omega⟩
  exact live_at j⟩
theorem sameDims_ev (a : List GDim) : ∀ (l pre : List GDim), a = pre ++ l → Ev (fun k => l16_0 k a pre.length l) true
  | [], pre, _ => by refine Ev.step ?_; simp only [l16_0]; exact Ev.ret _
  | x :: l, pre, h => by
    refine Ev.step ?_
    have hx : idx a (pre.length : Int) = some x := idx_at (by omega) (by rw [Int.toNat_natCast, h]; simp)
    simp only [l16_0, hx, Option.bind_some]
    have ih := sameDims_ev a l (pre ++ [x]) (by rw [h]; simp)
    rw [List.length_append, List.length_singleton] at ih
    exact Ev.pos (by simp) ih
theorem sameDims_self (a : List GDim) : Ev (fun k => m16 k a a) true := by
  simp only [m16]
  exact Ev.pos (by simp) (sameDims_ev a a [] rfl)
theorem more0_ev (p : GProg) (es : List GDecl) (hd : (fJ [] (p.D ++ es)).2 = 0) : ∀ xs : List GStmt, (∀ s ∈ xs, (hG s p.D).2 = 0) → Ev (fun k => l5_0 k p true (p.D ++ es) xs) true
  | [], _ => by refine Ev.step ?_; simp only [l5_0]; exact Ev.ret _
  | s :: xs, h => by
    have h1 := h s (by simp)
    have e := sizesF_append h1 hd
    refine Ev.step ?_
    simp only [l5_0]
    refine Ev.bind (sizes_ev s p.D) (Ev.bind ((sizes_ev s (p.D ++ es)).congr e) (Ev.pos rfl (Ev.bind (sameDims_self _) (Ev.pos rfl (more0_ev p es hd xs (fun t ht => h t (by simp [ht])))))))
theorem ShapeMore_ev (p : GProg) (d : GDecl) : Tot (fun k => m5 k p d) (· = true) := by
  simp only [m5]
  refine Tot.bind live_ev.is (fun r1 h1 => ?_)
  subst h1
  refine Tot.bind (fewProg_tot p) (fun r2 _ => Tot.ite (fun _ => ?_) (fun _ => Tot.ret rfl))
  refine Tot.bind (fewProg_tot _) (fun r3 _ => Tot.ite (fun _ => ?_) (fun _ => Tot.ret rfl))
  refine Tot.ite (fun _ => Tot.ret rfl) (fun h32 => ?_)
  refine Tot.bind (program_ev p).is (fun r4 h4 => ?_)
  subst h4
  have g1 : ([] : List GDecl).length + p.D.length ≤ apl := by simp only [apl, List.length_nil]; omega
  have g2 : (([] : List GDecl) ++ p.D).length + ([d] : List GDecl).length ≤ apl := by simp only [apl, List.nil_append, List.length_singleton]; omega
  refine Tot.jn (Tot.pos g1 (Tot.pos g2 ?_))
  rw [List.nil_append]
  refine Tot.bind (decls_ev _).is (fun y hy => ?_)
  subst hy
  refine Tot.ite (fun h0 => Tot.ite (fun hd => ?_) (fun _ => Tot.ret rfl)) (fun _ => Tot.ret rfl)
  refine Tot.jn (Tot.pos g1 (Tot.pos g2 ?_))
  obtain ⟨hc, hD, hp, hs⟩ := programF_ok h0
  obtain ⟨c1, c2, c3, c4⟩ := check_parts hc
  have hq : programF ⟨p.D ++ [d], p.S⟩ = ((((p.D ++ [d]).length + p.S.length : Nat) : Int), 0) := by
    refine programF_mk (check_mk ?_ c2 (fun x hx => declsF_all _ [] hd x hx) c4) hd (fun s hs' => ?_)
    · simp; omega
    · rw [sizesF_append (hs s hs') hd]; exact hs s hs'
  refine Tot.bind ((program_ev _).congr hq).is (fun r5 h5 => ?_)
  subst h5
  have hdl := declsF_ok _ _ hd
  refine Tot.pos rfl (Tot.pos ?_ (Tot.pos ?_ (more0_ev p [d] hd p.S hs).is))
  · rw [hp, wr_id (by dsimp only; omega) (by dsimp only; omega)]; simp; omega
  · rw [hdl]; simp
theorem ShapeMore_plain (p : GProg) (d : GDecl) (_ : Wf.wf p) (_ : Wf.wf d) : ∃ k, m5 k p d = some true := (ShapeMore_ev p d).run1
def stoOf (w : World) : Sto := fun b => w.heap[b]?
theorem stoOf_has (w : World) : Has (stoOf w) w := fun _ _ h => h
def Rd (α : Type) [GoTy α] [Wf α] (P : Program) (t : TypeId) (fuel : Nat) : Prop :=
  ∀ {H : Type} (enc : TypeId × Value → H) (w : World) (cs : List Value) (y : DataW H × List MemPlace),
    DataW.trod enc P w 0 (fun _ => true) true fuel t cs = some y → (∀ n ∈ y.1.weights P t, n ≤ reachBytes) → ∃ x : α, GoTy.rep (stoOf w) cs x ∧ Wf.wf x
theorem Rd.int {P : Program} {t n : Nat} (ht : P.underlying t = some (.int .i64)) : Rd Int P t n := by
  intro H enc w cs y h hs
  obtain ⟨m, rfl, rfl, hw⟩ := DataW.trod_int ht h
  refine ⟨m, rfl, ?_⟩
  simp only [Lit.wf, Bool.and_eq_true, decide_eq_true_eq] at hw
  exact hw
theorem Rd.bool {P : Program} {t n : Nat} (ht : P.underlying t = some .bool) : Rd Bool P t n := by
  intro H enc w cs y h hs
  obtain ⟨m, rfl, rfl⟩ := DataW.trod_bool ht h
  exact ⟨m, rfl, trivial⟩
theorem Rd.str {P : Program} {t n : Nat} (ht : P.underlying t = some .string) : Rd ByteArray P t n := by
  intro H enc w cs y h hs
  obtain ⟨s, rfl, rfl, hw⟩ := DataW.trod_string ht h
  refine ⟨s, rfl, ?_⟩
  have := hs s.data.toList.length (by simp [DataW.weights])
  rw [Array.length_toList] at this
  exact this
theorem mem_weightsAll {H : Type} {P : Program} {e : TypeId} : ∀ {l : List (DataW H)} {d : DataW H}, d ∈ l → ∀ n ∈ d.weights P e, n ∈ DataW.weightsAll P e l
  | x :: l, d, hd, n, hn => by
    simp only [DataW.weightsAll, List.mem_append]
    rcases List.mem_cons.1 hd with rfl | hd
    · exact .inl hn
    · exact .inr (mem_weightsAll hd n hn)
theorem Rd.slice {α : Type} [GoTy α] [Wf α] {P : Program} {t e n : Nat} (ht : P.underlying t = some (.slice e)) (hc : P.cellsOf e = GoTy.sz α) (hz : 0 < GoTy.sz α) (hb : 0 < P.bytesOf e) (ih : ∀ m, m < n → Rd α P e m) : Rd (List α) P t n := by
  intro H enc w cs y h hs
  rcases DataW.trod_slice ht h with ⟨rfl, rfl⟩ | ⟨a, len, cap, elems, rest, m, rfl, rfl, rfl, _, hl, hm, hlen, hel, hsp, hns⟩
  · exact ⟨[], ⟨none, 0, rfl, SlR.none _⟩, by simp [Wf.wf]⟩
  have hw := hs ((elems.length + rest.length) * P.bytesOf e) (by simp [DataW.weights, ht])
  have hlen2 : len ≤ 140737488351232 := by
    have h1 : elems.length + rest.length ≤ (elems.length + rest.length) * P.bytesOf e := Nat.le_mul_of_pos_right _ hb
    have h2 : reachBytes = 140737488351232 := rfl
    omega
  have each : ∀ i : Fin len, ∃ x : α, Wf.wf x ∧ ∃ vs, w.cells? 0 (a.add (i.1 * P.cellsOf e)) (P.cellsOf e) = some vs ∧ GoTy.rep (stoOf w) vs x := by
    intro ⟨i, hi⟩
    have h1 := hel i hi
    rw [List.getElem?_eq_getElem (by omega)] at h1
    obtain ⟨vs, h2, h3⟩ := Option.bind_eq_some_iff.1 h1
    obtain ⟨x, h4, h5⟩ := ih m (Nat.lt_succ_self m) enc w vs _ h3 (fun q hq => hs q (by
      simp only [DataW.weights, ht, List.mem_cons, List.mem_append]
      exact .inr (.inl (mem_weightsAll (List.mem_map.2 ⟨_, List.getElem_mem _, rfl⟩) q hq))))
    exact ⟨x, h5, vs, h2, h4⟩
  obtain ⟨f, hf⟩ := Classical.skolem.1 each
  have hll : (List.ofFn f).length = len := List.length_ofFn
  refine ⟨List.ofFn f, ⟨some a, cap, by rw [hll], ⟨by rw [hll]; exact hl, by rw [hll]; have : mxl = 140737488355328 := rfl; omega, (fun e => by cases e), fun A hA => ?_⟩⟩, ⟨by rw [hll]; exact hlen2, fun x hx => ?_⟩⟩
  · simp only [Option.some.injEq] at hA
    subst hA
    by_cases h0 : len = 0
    · exact .inl (List.length_eq_zero_iff.1 (by rw [hll]; exact h0))
    have pos : ∀ (i : Nat), i < len → ∀ q, q < GoTy.sz α → w.cell? ((a.add (i * GoTy.sz α)).add q) ≠ none := by
      intro i hi q hq
      obtain ⟨_, vs, h1, h2⟩ := hf ⟨i, hi⟩
      have h3 := World.cells?_some h1
      rw [← hc, h3.2.2 q (by rw [hc]; exact hq), List.getElem?_eq_getElem (by rw [h3.2.1, hc]; exact hq)]
      exact fun e => by cases e
    have p0 := pos 0 (by omega) 0 hz
    have e0 : (a.add (0 * GoTy.sz α)).add 0 = a := by simp [Addr.add]
    rw [e0] at p0
    obtain ⟨b, o, s⟩ := a
    simp only [World.cell?] at p0
    have hs0 : s = none := by
      cases s with
      | none => rfl
      | some _ => split at p0 <;> simp at p0
    subst hs0
    cases hh : w.heap[b]? with
    | none => rw [hh] at p0; simp at p0
    | some ob =>
      cases ob with
      | cells c T fr =>
        refine .inr ⟨rfl, c, T, fr, hh, fun j hj => ?_⟩
        rw [hll] at hj
        obtain ⟨_, vs, h1, h2⟩ := hf ⟨j, hj⟩
        refine ⟨vs, by simpa using h2, fun i hi => ?_⟩
        have h3 := (World.cells?_some h1).2.2 i (by rw [hc]; exact hi)
        rw [← h3, hc]
        have e1 : ((⟨b, o, none⟩ : Addr).add (j * GoTy.sz α)).add i = ⟨b, o + (j * GoTy.sz α + i), none⟩ := by
          unfold Addr.add; repeat' split
          all_goals simp_all [Nat.add_assoc]
        rw [e1, aP hh]
      | _ => rw [hh] at p0; simp at p0
  · obtain ⟨i, hi⟩ := List.mem_ofFn.1 hx
    subst hi; exact (hf i).1
theorem rd_parts {H : Type} {enc : TypeId × Value → H} {w : World} {P : Program} {t n : Nat} {fs : Array Field} {cs : List Value} {y : DataW H × List MemPlace} (ht : P.underlying t = some (.struct fs))
    (h : DataW.trod enc P w 0 (fun _ => true) true n t cs = some y) (hs : ∀ q ∈ y.1.weights P t, q ≤ reachBytes) :
    cs.length = P.cellsOf t ∧ ∃ m, m < n ∧ ∀ (i : Nat) (f : Field), fs[i]? = some f → ∀ (α : Type) [GoTy α] [Wf α], Rd α P f.type m → ∃ x : α, GoTy.rep (stoOf w) ((cs.drop f.offset).take (P.cellsOf f.type)) x ∧ Wf.wf x := by
  obtain ⟨xs, m, rfl, rfl, hl, hlen, hf⟩ := DataW.trod_struct ht h
  refine ⟨hl, m, Nat.lt_succ_self m, fun i f hi α _ _ hr => ?_⟩
  have hi2 := (Array.getElem?_eq_some_iff.1 hi).1
  have h1 := hf i f hi
  rw [List.getElem?_eq_getElem (by omega)] at h1
  refine hr enc w _ _ h1 (fun q hq => hs q ?_)
  simp only [DataW.weights, ht]
  refine DataW.weights_mem_each (j := i) (t := f.type) (d := xs[i].1) ?_ ?_ q hq
  · rw [List.getElem?_map, Array.getElem?_toList, hi]; rfl
  · rw [List.getElem?_map, List.getElem?_eq_getElem (by omega)]; rfl
theorem rd45 : ∀ n, Rd GDecl Try.prog 45 n := by
  intro n
  intro H enc w cs y h hs
  obtain ⟨hl, m, hm, hf⟩ := rd_parts Try.underlying45 h hs
  have hl : cs.length = 4 := hl
  obtain ⟨x0, r0, w0⟩ := hf 0 _ rfl ByteArray (Rd.str Try.underlying9)
  obtain ⟨x1, r1, w1⟩ := hf 1 _ rfl (List Int) (Rd.slice Try.underlying43 (by kernel_rfl) (by decide) (of_decide_eq_true (by kernel_rfl)) (fun m hm => (Rd.int Try.underlying3)))
  obtain ⟨x2, r2, w2⟩ := hf 2 _ rfl ByteArray (Rd.str Try.underlying9)
  obtain ⟨x3, r3, w3⟩ := hf 3 _ rfl Int (Rd.int Try.underlying3)
  obtain ⟨c0, c1, c2, c3, rfl⟩ : ∃ c0 c1 c2 c3, cs = [c0, c1, c2, c3] := by
    match cs, hl with
    | [q0, q1, q2, q3], _ => exact ⟨_, _, _, _, rfl⟩
  have e0 := r0
  have e0_0 : [c0] = _ := e0
  clear e0
  obtain ⟨g0_0, e0_1⟩ := List.cons.inj e0_0
  subst g0_0
  obtain ⟨a1, k1, e1, s1⟩ := r1
  have e1_0 : [c1] = _ := e1
  clear e1
  obtain ⟨g1_0, e1_1⟩ := List.cons.inj e1_0
  subst g1_0
  have e2 := r2
  have e2_0 : [c2] = _ := e2
  clear e2
  obtain ⟨g2_0, e2_1⟩ := List.cons.inj e2_0
  subst g2_0
  have e3 := r3
  have e3_0 : [c3] = _ := e3
  clear e3
  obtain ⟨g3_0, e3_1⟩ := List.cons.inj e3_0
  subst g3_0
  exact ⟨⟨x0, x1, x2, x3⟩, GDecl.into (x := ⟨x0, x1, x2, x3⟩) s1, ⟨w0, w1, w2, w3⟩⟩
theorem rd31 : ∀ n, Rd GNode Try.prog 31 n := by
  intro n
  induction n using Nat.strongRecOn with
  | ind n ih =>
  intro H enc w cs y h hs
  obtain ⟨hl, m, hm, hf⟩ := rd_parts Try.underlying31 h hs
  have hl : cs.length = 5 := hl
  obtain ⟨x0, r0, w0⟩ := hf 0 _ rfl Int (Rd.int Try.underlying3)
  obtain ⟨x1, r1, w1⟩ := hf 1 _ rfl Int (Rd.int Try.underlying2)
  obtain ⟨x2, r2, w2⟩ := hf 2 _ rfl ByteArray (Rd.str Try.underlying9)
  obtain ⟨x3, r3, w3⟩ := hf 3 _ rfl (List ByteArray) (Rd.slice Try.underlying28 (by kernel_rfl) (by decide) (of_decide_eq_true (by kernel_rfl)) (fun m hm => (Rd.str Try.underlying9)))
  obtain ⟨x4, r4, w4⟩ := hf 4 _ rfl (List GNode) (Rd.slice Try.underlying29 (by kernel_rfl) (by decide) (of_decide_eq_true (by kernel_rfl)) (fun m' hm' => ih m' (by omega)))
  obtain ⟨c0, c1, c2, c3, c4, rfl⟩ : ∃ c0 c1 c2 c3 c4, cs = [c0, c1, c2, c3, c4] := by
    match cs, hl with
    | [q0, q1, q2, q3, q4], _ => exact ⟨_, _, _, _, _, rfl⟩
  have e0 := r0
  have e0_0 : [c0] = _ := e0
  clear e0
  obtain ⟨g0_0, e0_1⟩ := List.cons.inj e0_0
  subst g0_0
  have e1 := r1
  have e1_0 : [c1] = _ := e1
  clear e1
  obtain ⟨g1_0, e1_1⟩ := List.cons.inj e1_0
  subst g1_0
  have e2 := r2
  have e2_0 : [c2] = _ := e2
  clear e2
  obtain ⟨g2_0, e2_1⟩ := List.cons.inj e2_0
  subst g2_0
  obtain ⟨a3, k3, e3, s3⟩ := r3
  have e3_0 : [c3] = _ := e3
  clear e3
  obtain ⟨g3_0, e3_1⟩ := List.cons.inj e3_0
  subst g3_0
  obtain ⟨a4, k4, e4, s4⟩ := r4
  have e4_0 : [c4] = _ := e4
  clear e4
  obtain ⟨g4_0, e4_1⟩ := List.cons.inj e4_0
  subst g4_0
  exact ⟨⟨x0, x1, x2, x3, x4⟩, GNode.into (x := ⟨x0, x1, x2, x3, x4⟩) s3 s4, .mk _ w0 w1 w2 w3 w4.1 w4.2⟩
theorem rd33 : ∀ n, Rd GStmt Try.prog 33 n := by
  intro n
  intro H enc w cs y h hs
  obtain ⟨hl, m, hm, hf⟩ := rd_parts Try.underlying33 h hs
  have hl : cs.length = 7 := hl
  obtain ⟨x0, r0, w0⟩ := hf 0 _ rfl ByteArray (Rd.str Try.underlying9)
  obtain ⟨x1, r1, w1⟩ := hf 1 _ rfl (List ByteArray) (Rd.slice Try.underlying28 (by kernel_rfl) (by decide) (of_decide_eq_true (by kernel_rfl)) (fun m hm => (Rd.str Try.underlying9)))
  obtain ⟨x2, r2, w2⟩ := hf 2 _ rfl GNode (rd31 _)
  obtain ⟨c0, c1, c2, c3, c4, c5, c6, rfl⟩ : ∃ c0 c1 c2 c3 c4 c5 c6, cs = [c0, c1, c2, c3, c4, c5, c6] := by
    match cs, hl with
    | [q0, q1, q2, q3, q4, q5, q6], _ => exact ⟨_, _, _, _, _, _, _, rfl⟩
  have e0 := r0
  have e0_0 : [c0] = _ := e0
  clear e0
  obtain ⟨g0_0, e0_1⟩ := List.cons.inj e0_0
  subst g0_0
  obtain ⟨a1, k1, e1, s1⟩ := r1
  have e1_0 : [c1] = _ := e1
  clear e1
  obtain ⟨g1_0, e1_1⟩ := List.cons.inj e1_0
  subst g1_0
  obtain ⟨a2_3, k2_3, a2_4, k2_4, e2, s2_3, s2_4⟩ := GNode.out r2
  have e2_0 : [c2, c3, c4, c5, c6] = _ := e2
  clear e2
  obtain ⟨g2_0, e2_1⟩ := List.cons.inj e2_0
  obtain ⟨g2_1, e2_2⟩ := List.cons.inj e2_1
  obtain ⟨g2_2, e2_3⟩ := List.cons.inj e2_2
  obtain ⟨g2_3, e2_4⟩ := List.cons.inj e2_3
  obtain ⟨g2_4, e2_5⟩ := List.cons.inj e2_4
  subst g2_0
  subst g2_1
  subst g2_2
  subst g2_3
  subst g2_4
  exact ⟨⟨x0, x1, x2⟩, GStmt.into (x := ⟨x0, x1, x2⟩) s1 s2_3 s2_4, ⟨w0, w1, w2⟩⟩
theorem rd25 : ∀ n, Rd GProg Try.prog 25 n := by
  intro n
  intro H enc w cs y h hs
  obtain ⟨hl, m, hm, hf⟩ := rd_parts Try.underlying25 h hs
  have hl : cs.length = 2 := hl
  obtain ⟨x0, r0, w0⟩ := hf 0 _ rfl (List GDecl) (Rd.slice Try.underlying22 (by kernel_rfl) (by decide) (of_decide_eq_true (by kernel_rfl)) (fun m hm => (rd45 _)))
  obtain ⟨x1, r1, w1⟩ := hf 1 _ rfl (List GStmt) (Rd.slice Try.underlying23 (by kernel_rfl) (by decide) (of_decide_eq_true (by kernel_rfl)) (fun m hm => (rd33 _)))
  obtain ⟨c0, c1, rfl⟩ : ∃ c0 c1, cs = [c0, c1] := by
    match cs, hl with
    | [q0, q1], _ => exact ⟨_, _, rfl⟩
  obtain ⟨a0, k0, e0, s0⟩ := r0
  have e0_0 : [c0] = _ := e0
  clear e0
  obtain ⟨g0_0, e0_1⟩ := List.cons.inj e0_0
  subst g0_0
  obtain ⟨a1, k1, e1, s1⟩ := r1
  have e1_0 : [c1] = _ := e1
  clear e1
  obtain ⟨g1_0, e1_1⟩ := List.cons.inj e1_0
  subst g1_0
  exact ⟨⟨x0, x1⟩, GProg.into (x := ⟨x0, x1⟩) s0 s1, ⟨w0, w1⟩⟩
end Go.Proofs.Ytjdfoipnmbnkeaa
namespace Go.Proofs.Ytjdfoipnmbnkeaa.shapeMore
open Go Go.ChangeShapes Go.WideShapes Go.ChangeAt Go.RowKit Go.Proofs.Ytjdfoipnmbnkeaa
open Go.ChangeMaps (open_string shut_string)
theorem own : ownKnob Try.prog.godebug = none := by kernel_rfl
theorem laidOut : laidOutB Try.prog = true := by kernel_rfl
theorem lifted (os : Os) (started : os.Started) (H : Type) (enc : TypeId × Value → H) :
    ReturnsInHanded {} Try.checked os 5 .any (Rows.shapeMoreSpec.pre6 enc Try.prog Try.f5 Rows.shapeMoreRow.domain false) (Rows.shapeMoreSpec.post enc Try.prog Try.f5 false true false false) := by
  refine returnsInHanded_of_change_sized (C := Try.checked) own started (by kernel_rfl) Try.func5
    (ChangeSpec.witness6 (enc := enc) (C := Try.checked) false ⟨#[], #[.agg #[.slice none 0 0, .slice none 0 0], .agg #[.string ByteArray.empty, .slice none 0 0, .string ByteArray.empty, .int .i64 0]], []⟩ 8 (by kernel_rfl) (by kernel_rfl) (by kernel_rfl) (by kernel_rfl)) ?_
  intro W base args ds gs before hval0 hW hcnd hsz0 _
  have hsz : (DataW.weightsEach Try.prog (Try.f5.params.toList ++ Rows.shapeMoreSpec.plain.varTypes Try.prog) (ds ++ gs)).all (· ≤ reachBytes) = true := hsz0
  have hval : ∀ (j : Nat) t v, Try.f5.params[j]? = some t → args[j]? = some v → Value.okWide Try.prog W .any base t v := hval0
  have hW' := hW
  obtain ⟨p, q, hA0, hV, rfl, hfz, hnd⟩ := hW
  have hA : DataW.TrodAll enc Try.prog W 0 (fun _ => true) true Try.f5.params.toList args.toList ds p := hA0
  rw [Try.params5] at hA hval hsz
  obtain ⟨v0, vs0, d0, ds0, p0, q0, hargs, rfl, rfl, h0, r0⟩ := trodAll_cons hA
  obtain ⟨v1, vs1, d1, ds1, p1, q1, rfl, rfl, rfl, h1, r1⟩ := trodAll_cons r0
  obtain ⟨rfl, rfl, rfl⟩ := trodAll_nil r1
  obtain rfl : args = #[v0, v1] := by cases args; simp_all
  obtain ⟨rfl, rfl⟩ := trodVars_none hV
  obtain ⟨cs0, rfl, _⟩ := okWide_struct Try.underlying25 (hval 0 25 v0 rfl rfl)
  have k0 := h0
  have lt0 : ∀ x ∈ p0, x.block < W.heap.size := by obtain ⟨m, hm⟩ := k0; exact DataW.trod_lt m _ _ _ hm
  obtain ⟨fuel0, hf0⟩ := h0
  obtain ⟨p0', rx0, w0⟩ := rd25 _ enc W _ _ hf0 (fun n hn => by have := List.all_eq_true.1 hsz n (DataW.weights_mem_each (j := 0) (t := 25) rfl rfl n hn); simpa using this)
  obtain ⟨a0_0, c0_0, a0_1, c0_1, hcs0, R0_0, R0_1⟩ := GProg.out rx0
  obtain rfl : cs0 = List.toArray [.slice a0_0 p0'.D.length c0_0, .slice a0_1 p0'.S.length c0_1] := by apply Array.toList_inj.1; exact hcs0
  obtain ⟨cs1, rfl, _⟩ := okWide_struct Try.underlying45 (hval 1 45 v1 rfl rfl)
  have k1 := h1
  have lt1 : ∀ x ∈ p1, x.block < W.heap.size := by obtain ⟨m, hm⟩ := k1; exact DataW.trod_lt m _ _ _ hm
  obtain ⟨fuel1, hf1⟩ := h1
  obtain ⟨p1', rx1, w1⟩ := rd45 _ enc W _ _ hf1 (fun n hn => by have := List.all_eq_true.1 hsz n (DataW.weights_mem_each (j := 1) (t := 45) rfl rfl n hn); simpa using this)
  obtain ⟨a1_1, c1_1, hcs1, R1_1⟩ := GDecl.out rx1
  obtain rfl : cs1 = List.toArray [.string p1'.Name, .slice a1_1 p1'.Shape.length c1_1, .string p1'.Form, I p1'.Block] := by apply Array.toList_inj.1; exact hcs1
  clear hA0 hval0 hsz0 hsz
  obtain ⟨k, hk⟩ := ShapeMore_plain p0' p1' w0 w1
  refine (F5 k (stoOf_has W) R0_0 R0_1 R1_1 hk).mono fun e W' he => ?_
  cases e with
  | returned v =>
    obtain ⟨h', rfl, st⟩ := he
    have bel := st.sp.below
    exact ⟨_, rfl, _, _, _, [], _, [], hW', trodAll_mk1 (shut_bool Try.underlying4 _), (trodAll_cons_mk (Below.trod laidOut (by kernel_rfl) (of_decide_eq_true (by kernel_rfl)) k0 bel lt0) (trodAll_cons_mk (Below.trod laidOut (by kernel_rfl) (of_decide_eq_true (by kernel_rfl)) k1 bel lt1) trodAll_mk0)), rfl, bel.frame _, fun h => by cases h⟩
  | panicked _ => exact he.elim
  | outgrown => exact he.elim
theorem over : Rows.shapeMoreRow.holds Try.pinned (OpenSpec.ofChange Rows.shapeMoreSpec) :=
  OpenClaim.holds_of_wide 5 Try.f5 rfl rfl rfl rfl rfl rfl rfl ⟨rfl, rfl, rfl, rfl, rfl⟩ rfl rfl rfl rfl rfl (by kernel_rfl) Try.func5 (by kernel_rfl)
    (of_decide_eq_true (by kernel_rfl)) (by unfold Func.isWrapper; first | (rw [if_pos (by decide +kernel)]; kernel_rfl) | (rw [if_neg (by decide +kernel)]; exact ⟨rfl, rfl⟩))
    (fun os started H enc _ => lifted os started H enc)
end Go.Proofs.Ytjdfoipnmbnkeaa.shapeMore
namespace Go.Proofs.Ytjdfoipnmbnkeaa
theorem shapeMore_holds : Rows.ShapeMoreSaid := shapeMore.over
end Go.Proofs.Ytjdfoipnmbnkeaa
