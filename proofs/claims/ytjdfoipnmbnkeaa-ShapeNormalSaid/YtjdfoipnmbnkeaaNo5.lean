/- ShapeNormal holds: for every input the law returns true, and the input reads as it did. Part 6 of 6. No conditions. -/
import Derived.Test.YtjdfoipnmbnkeaaNo4
import Derived.KernelRfl
import Derived.ChangeArms
import Derived.ChangeSame
import Derived.SizedLaws
import Derived.Test.YtjdfoipnmbnkeaaRows
import Derived.WalkKit
import Derived.ProofKit
import Derived.OpenShut
import Derived.ShutString
import Derived.ChangeOld
import Derived.Below
import Derived.Carry
set_option maxRecDepth 100000
set_option maxHeartbeats 8000000
namespace Go.Proofs.Ytjdfoipnmbnkeaa
open Go
abbrev ZS25 (k : Nat) : Prop := S25 k ∧ SLl25_0 k ∧ SLl25_1 k
theorem S25_z : S25 0 := by
  unfold S25; intros; rename_i H; exact absurd H (by simp [m25])
theorem S25_s (k : Nat) (ih : ZS25 k) : S25 (k + 1) := by
 intro p0 aG bF aH bG p1 w0 h0 hh cB fB r H
 rw [m25] at H
 refine aP (fn := Try.f25) Try.func25 rfl (Nat.le_of_ble_eq_true rfl) ?_
 show Run X25 [.code c25_0] (fun t => List.getD [.agg #[I p0.Op,I p0.N,.string p0.Name,.slice aG p0.Index.length aH,.slice bF p0.L.length bG],I p1] t undef) w0 (.fn (Q25 w0 h0 r))
 have st0 := St.init hh noM
 refine aB e25_0<|aA e25_1<|dW (.agg #[I p0.Op,I p0.N,.string p0.Name,.slice aG p0.Index.length aH,.slice bF p0.L.length bG]) rfl rfl rfl (fun b1 w1 al1 => ?_)
 replace al1 : Al _ (.cells (List.toArray [I p0.Op,I p0.N,.string p0.Name,.slice aG p0.Index.length aH,.slice bF p0.L.length bG]) 31 (0,0)) b1 w1 := al1
 obtain ⟨h1,le1,g1,sp1⟩ := al1.fz st0.has
 have st1 := st0.call0 sp1
 refine vv rfl (aC (.bool false) rfl)<|aD<|aB e25_2<|aB e25_3<|aA e25_4<|vv rfl (aE (I p1) rfl)<|vv rfl (aQ .eql .i64 p1 0 (.bool (decide (p1 = 0))) 3 3 rfl rfl rfl)<|vv rfl (aE (.bool (decide (p1 = 0))) rfl) ?_
 rcases aM H with ⟨hc1,H⟩ | ⟨hc1,H⟩
 · refine aO (wf2 (dT hc1) rfl) rfl<|aO (wf2 (dT hc1) rfl) rfl<|aO (wf2 (dT hc1) rfl) rfl<|aO (wf2 (dT hc1) rfl) rfl<|vv rfl (dD (.bool true) (dT hc1) rfl rfl)<|vv rfl (aE (.bool true) rfl)<|aO (wf (p := true) rfl rfl) rfl<|aO (wf (p := true) rfl rfl) rfl<|aO (wf (p := true) rfl rfl) rfl<|aO (wf (p := true) rfl rfl) rfl ?_
   refine vv rfl (x_pickT (.bool true) (p := true) rfl rfl rfl)<|vv rfl (aE (.bool true) rfl)<|aO (wf (p := true) rfl rfl) rfl<|aO (wf (p := true) rfl rfl) rfl<|aO (wf (p := true) rfl rfl) rfl<|aO (wf (p := true) rfl rfl) rfl<|vv rfl (x_pickT (.bool true) (p := true) rfl rfl rfl)<|aD<|cZ e25_5 (p := true) rfl rfl<|aB e25_6 ?_
   refine aA e25_7<|vv rfl (aC (.bool false) rfl)<|aD ?_
   cases H
   exact aJ e25_8 (cD Try.results25 rfl ⟨h1,rfl,st1⟩)
 refine bC (wt2 (dF hc1) rfl) rfl (aF (b := b1) (o := 0) fl31_4 rfl)<|bC (wt2 (dF hc1) rfl) rfl (aN (.slice bF p0.L.length bG) sc29 rfl ((aR (st1.has _ _ g1)).trans rfl))<|bC (wt2 (dF hc1) rfl) rfl (bK u29 rfl)<|bC (wt2 (dF hc1) rfl) rfl (aQ .gtr .i64 (p0.L.length : Int) 5 (.bool (decide (5 < (p0.L.length : Int)))) 3 3 rfl rfl rfl)<|vv rfl (dE (.bool (decide (5 < (p0.L.length : Int)))) (dF hc1) rfl rfl)<|vv rfl (aE (.bool (decide (5 < (p0.L.length : Int)))) rfl) ?_
 rcases aM H with ⟨hc2,H⟩ | ⟨hc2,H⟩
 · refine aO (wf2 (dT hc2) rfl) rfl<|aO (wf2 (dT hc2) rfl) rfl<|aO (wf2 (dT hc2) rfl) rfl<|aO (wf2 (dT hc2) rfl) rfl<|vv rfl (dD (.bool true) (dT hc2) rfl rfl)<|vv rfl (aE (.bool true) rfl)<|aO (wf (p := true) rfl rfl) rfl<|aO (wf (p := true) rfl rfl) rfl<|aO (wf (p := true) rfl rfl) rfl<|aO (wf (p := true) rfl rfl) rfl ?_
   refine vv rfl (x_pickT (.bool true) (p := true) rfl rfl rfl)<|aD<|cZ e25_5 (p := true) rfl rfl<|aB e25_6<|aA e25_7<|vv rfl (aC (.bool false) rfl)<|aD ?_
   cases H
   exact aJ e25_8 (cD Try.results25 rfl ⟨h1,rfl,st1⟩)
 refine bC (wt2 (dF hc2) rfl) rfl (aF (b := b1) (o := 0) fl31_3 rfl)<|bC (wt2 (dF hc2) rfl) rfl (aN (.slice aG p0.Index.length aH) sc28 rfl ((aR (st1.has _ _ g1)).trans rfl))<|bC (wt2 (dF hc2) rfl) rfl (bK u28 rfl)<|bC (wt2 (dF hc2) rfl) rfl (aQ .gtr .i64 (p0.Index.length : Int) 10 (.bool (decide (10 < (p0.Index.length : Int)))) 3 3 rfl rfl rfl)<|vv rfl (dE (.bool (decide (10 < (p0.Index.length : Int)))) (dF hc2) rfl rfl)<|vv rfl (aE (.bool (decide (10 < (p0.Index.length : Int)))) rfl) ?_
 rcases aM H with ⟨hc3,H⟩ | ⟨hc3,H⟩
 · refine aO (wf2 (dT hc3) rfl) rfl<|aO (wf2 (dT hc3) rfl) rfl<|aO (wf2 (dT hc3) rfl) rfl<|aO (wf2 (dT hc3) rfl) rfl<|vv rfl (dD (.bool true) (dT hc3) rfl rfl)<|aD<|cZ e25_5 (p := true) rfl rfl<|aB e25_6<|aA e25_7<|vv rfl (aC (.bool false) rfl) ?_
   refine aD ?_
   cases H
   exact aJ e25_8 (cD Try.results25 rfl ⟨h1,rfl,st1⟩)
 refine bC (wt2 (dF hc3) rfl) rfl (aF (b := b1) (o := 0) fl31_2 rfl)<|bC (wt2 (dF hc3) rfl) rfl (aN (.string p0.Name) sc9 rfl ((aR (st1.has _ _ g1)).trans rfl))<|bC (wt2 (dF hc3) rfl) rfl (eA u9 rfl)<|bC (wt2 (dF hc3) rfl) rfl (aQ .gtr .i64 (p0.Name.size : Int) 100 (.bool (decide (100 < (p0.Name.size : Int)))) 3 3 rfl rfl rfl)<|vv rfl (dE (.bool (decide (100 < (p0.Name.size : Int)))) (dF hc3) rfl rfl)<|aD ?_
 rcases aM H with ⟨hc4,H⟩ | ⟨hc4,H⟩
 · refine tr e25_5 (dT hc4) rfl<|aB e25_6<|aA e25_7<|vv rfl (aC (.bool false) rfl)<|aD ?_
   cases H
   exact aJ e25_8 (cD Try.results25 rfl ⟨h1,rfl,st1⟩)
 refine fa e25_5 (dF hc4) rfl<|aL e25_9<|aB e25_10<|aB e25_11<|aA e25_12<|vv rfl (aF (b := b1) (o := 0) fl31_3 rfl)<|vv rfl (aN (.slice aG p0.Index.length aH) sc28 rfl ((aR (st1.has _ _ g1)).trans rfl))<|vv rfl (bK u28 rfl)<|vv rfl (aE (I 0) rfl)<|aD ?_
 refine aT e25_13<|bZ e25_14 ?_
 exact ih.2.1 (j2 := 0) st1 rfl rfl rfl rfl rfl (SlR.mono le1 cB) (SlR.mono le1 fB) g1 rfl H
theorem SLl25_0_z : SLl25_0 0 := by
  unfold SLl25_0; intros; rename_i H; exact absurd H (by simp [l25_0])
theorem SLl25_0_s (k : Nat) (ih : ZS25 k) : SLl25_0 (k + 1) := by
 intro p0 aG bF aH bG b1 j2 p1 w0 w h0 h σ xs1 r st s1 s2 s30 s31 s32 R1 R2 g2 hd1 H
 cases xs1 with
 | nil =>
  rw [l25_0] at H
  have hk1 := cU hd1
  refine aB e25_15<|aA e25_16<|vv rfl (aQ .lss .i64 (j2 : Int) (p0.Index.length : Int) (.bool (decide ((j2 : Int) < (p0.Index.length : Int)))) 3 3 s32 s31 rfl)<|aD<|aB e25_17<|fa e25_18 hk1 rfl<|bO e25_20 rfl<|aB e25_33<|aB e25_34<|aA e25_35 ?_
  refine vv rfl (aF (b := b1) (o := 0) fl31_4 s2)<|vv rfl (aN (.slice bF p0.L.length bG) sc29 rfl ((aR (st.has _ _ g2)).trans rfl))<|vv rfl (bK u29 rfl)<|vv rfl (aE (I 0) rfl)<|aD<|aT e25_36<|bZ e25_37 ?_
  exact ih.2.2 (j3 := 0) st s1 rfl rfl rfl R2 rfl H
 | cons x1 xs2 =>
  rw [l25_0] at H
  obtain ⟨hk2,hj1,hx1,hd2⟩ := cJ hd1
  refine aB e25_15<|aA e25_16<|vv rfl (aQ .lss .i64 (j2 : Int) (p0.Index.length : Int) (.bool (decide ((j2 : Int) < (p0.Index.length : Int)))) 3 3 s32 s31 rfl)<|aD<|aB e25_17<|tr e25_18 hk2 rfl<|aL e25_19<|aB e25_21<|aT e25_22<|aB e25_23 ?_
  refine aA e25_24 ?_
  obtain ⟨b4,o2,vs2,ea2,rp2,cl2⟩ := SlR.at R1 hx1
  obtain rfl := rp2
  refine vv rfl (aY u28 sz9 s30 s32 ea2 (Int.natCast_nonneg _) (Int.ofNat_lt.2 hj1))<|vv rfl (aN (.string x1) sc9 rfl (((cl2 _ (Has.le (Le.refl _) st.has)) 0 (by decide)).trans rfl))<|vv rfl (aC (.string x1) rfl)<|aD<|aB e25_25<|aA e25_26<|vv rfl (aE (.string x1) rfl)<|vv rfl (eA u9 rfl)<|vv rfl (aQ .gtr .i64 (x1.size : Int) 100 (.bool (decide (100 < (x1.size : Int)))) 3 3 rfl rfl rfl)<|aD ?_
  rcases aM H with ⟨hc6,H⟩ | ⟨hc6,H⟩
  · refine tr e25_27 (dT hc6) rfl<|aB e25_28<|aA e25_29<|vv rfl (aC (.bool false) rfl)<|aD ?_
    cases H
    exact aJ e25_30 (cD Try.results25 rfl ⟨h,rfl,st⟩)
  refine fa e25_27 (dF hc6) rfl<|aL e25_31<|aZ<|aA e25_32<|vv rfl (aQ .add .i64 (j2 : Int) 1 (I ((j2 + 1 : Nat) : Int)) 3 3 s32 rfl (dL hj1 R1.mx))<|vv rfl (aE (I ((j2 + 1 : Nat) : Int)) rfl)<|aD<|bI ?_
  exact ih.2.1 (j2 := (j2 + 1)) st s1 s2 s30 s31 rfl R1 R2 g2 hd2 H
theorem SLl25_1_z : SLl25_1 0 := by
  unfold SLl25_1; intros; rename_i H; exact absurd H (by simp [l25_1])
theorem SLl25_1_s (k : Nat) (ih : ZS25 k) : SLl25_1 (k + 1) := by
 intro p0 bF bG j3 p1 w0 w h0 h σ xs3 r st s1 s41 s42 s43 R3 hd3 H
 cases xs3 with
 | nil =>
  rw [l25_1] at H
  have hk3 := cU hd3
  refine aB e25_38<|aA e25_39<|vv rfl (aQ .lss .i64 (j3 : Int) (p0.L.length : Int) (.bool (decide ((j3 : Int) < (p0.L.length : Int)))) 3 3 s43 s42 rfl)<|aD<|aB e25_40<|fa e25_41 hk3 rfl<|bO e25_43 rfl<|aB e25_56<|aA e25_57<|vv rfl (aC (.bool true) rfl) ?_
  refine aD ?_
  cases H
  exact aJ e25_58 (cD Try.results25 rfl ⟨h,rfl,st⟩)
 | cons x2 xs4 =>
  rw [l25_1] at H
  obtain ⟨hk4,hj2,hx2,hd4⟩ := cJ hd3
  refine aB e25_38<|aA e25_39<|vv rfl (aQ .lss .i64 (j3 : Int) (p0.L.length : Int) (.bool (decide ((j3 : Int) < (p0.L.length : Int)))) 3 3 s43 s42 rfl)<|aD<|aB e25_40<|tr e25_41 hk4 rfl<|aL e25_42<|aB e25_44<|aT e25_45<|aB e25_46 ?_
  refine aA e25_47 ?_
  obtain ⟨b2,o1,vs1,ea1,rp1,cl1⟩ := SlR.at R3 hx2
  obtain ⟨a1,c1,a2,c2,rfl,R4,R5⟩ := GNode.out rp1
  refine vv rfl (aY u29 cP s41 s43 ea1 (Int.natCast_nonneg _) (Int.ofNat_lt.2 hj2))<|vv rfl (bH [I x2.Op,I x2.N,.string x2.Name,.slice a1 x2.Index.length c1,.slice a2 x2.L.length c2] dX cP rfl rfl (cl1 _ (Has.le (Le.refl _) st.has)))<|cG (.agg #[I 0,I 0,.string ByteArray.empty,.slice none 0 0,.slice none 0 0]) zr31 rfl rfl (fun b3 w2 al2 => ?_)
  replace al2 : Al _ (.cells (List.toArray [I 0,I 0,.string ByteArray.empty,.slice none 0 0,.slice none 0 0]) 31 (0,0)) b3 w2 := al2
  have M1 := Mut.new st al2
  have lb1 := st.alB al2
  have sp2 := al2.st st.has
  have st2 := st.call0 sp2
  refine aV (o := 0) (n := 5) [I x2.Op,I x2.N,.string x2.Name,.slice a1 x2.Index.length c1,.slice a2 x2.L.length c2] [I x2.Op,I x2.N,.string x2.Name,.slice a1 x2.Index.length c1,.slice a2 x2.L.length c2] (.agg #[I x2.Op,I x2.N,.string x2.Name,.slice a1 x2.Index.length c1,.slice a2 x2.L.length c2]) cP rfl rfl rfl rfl M1 rfl rfl rfl rfl rfl (fun w3 wr1 M2 => ?_)
  have sp3 := wr1.st st2.has M1.none
  have st3 := st2.call sp3 (fun x e => (.inl (e ▸ lb1)))
  obtain ⟨h2,le2,g3,st4,kp1⟩ := M2.fz st3 lb1
  refine aD<|aB e25_48<|aA e25_49<|vv rfl (bH [I x2.Op,I x2.N,.string x2.Name,.slice a1 x2.Index.length c1,.slice a2 x2.L.length c2] dX cP rfl rfl (bA (st4.has _ _ g3) rfl))<|vv rfl (aE (I p1) s1)<|vv rfl (aQ .sub .i64 p1 1 (I (wr (p1 - 1))) 3 3 rfl rfl rfl) ?_
  obtain ⟨r1,hr1,H⟩ := aK H
  refine aU [.agg #[I x2.Op,I x2.N,.string x2.Name,.slice a1 x2.Index.length c1,.slice a2 x2.L.length c2],I (wr (p1 - 1))] en25 rfl rfl rfl (ih.1 (p0 := x2) st4.has (SlR.mono le2 R4) (SlR.mono le2 R5) hr1) ?_
  rintro _ w4 ⟨h3,rfl,sp4⟩
  have st5 := st4.call0 sp4
  refine vv rfl (dV r1 4 rfl)<|aD ?_
  rcases aM H with ⟨hc5,H⟩ | ⟨hc5,H⟩
  · refine fa e25_50 (bN hc5) rfl<|aL e25_54<|aZ<|aA e25_55<|vv rfl (aQ .add .i64 (j3 : Int) 1 (I ((j3 + 1 : Nat) : Int)) 3 3 s43 rfl (dL hj2 (SlR.mono (le2.trans sp4.le) R3).mx))<|vv rfl (aE (I ((j3 + 1 : Nat) : Int)) rfl)<|aD<|bI ?_
    exact ih.2.2 (j3 := (j3 + 1)) st5 s1 s41 s42 rfl (SlR.mono (le2.trans sp4.le) R3) hd4 H
  refine tr e25_50 (bQ (bY hc5)) rfl<|aB e25_51<|aA e25_52<|vv rfl (aC (.bool false) rfl)<|aD ?_
  cases H
  exact aJ e25_53 (cD Try.results25 rfl ⟨h3,rfl,st5⟩)
theorem ZS25_all : ∀ k,ZS25 k
  | 0 => ⟨S25_z,SLl25_0_z,SLl25_1_z⟩
  | k + 1 => ⟨S25_s k (ZS25_all k),SLl25_0_s k (ZS25_all k),SLl25_1_s k (ZS25_all k)⟩
theorem F25 (k : Nat) : S25 k := (ZS25_all k).1
abbrev ZSLl9_0 (k : Nat) : Prop := SLl9_0 k ∧ SLl9_1 k ∧ SLl9_2 k
theorem SLl9_0_z : SLl9_0 0 := by
  unfold SLl9_0; intros; rename_i H; exact absurd H (by simp [l9_0])
theorem SLl9_0_s (k : Nat) (ih : ZSLl9_0 k) : SLl9_0 (k + 1) := by
 intro p0 cW cR cX cS b1 j1 w0 w h0 h σ xs1 r st s1 s10 s11 s12 R1 R2 g2 hd1 H
 cases xs1 with
 | nil =>
  rw [l9_0] at H
  have hk1 := cU hd1
  refine aB e9_7<|aA e9_8<|vv rfl (aQ .lss .i64 (j1 : Int) (p0.D.length : Int) (.bool (decide ((j1 : Int) < (p0.D.length : Int)))) 3 3 s12 s11 rfl)<|aD<|aB e9_9<|fa e9_10 hk1 rfl<|bO e9_12 rfl<|aB e9_25<|aB e9_26<|aA e9_27 ?_
  refine vv rfl (aF (b := b1) (o := 0) fl25_1 s1)<|vv rfl (aN (.slice cR p0.S.length cS) sc23 rfl ((aR (st.has _ _ g2)).trans rfl))<|vv rfl (bK u23 rfl)<|vv rfl (aE (I 0) rfl)<|aD<|aT e9_28<|bZ e9_29 ?_
  exact ih.2.1 (j2 := 0) st s1 rfl rfl rfl R1 R2 g2 rfl H
 | cons x1 xs2 =>
  rw [l9_0] at H
  obtain ⟨hk2,hj1,hx1,hd2⟩ := cJ hd1
  refine aB e9_7<|aA e9_8<|vv rfl (aQ .lss .i64 (j1 : Int) (p0.D.length : Int) (.bool (decide ((j1 : Int) < (p0.D.length : Int)))) 3 3 s12 s11 rfl)<|aD<|aB e9_9<|tr e9_10 hk2 rfl<|aL e9_11<|aB e9_13<|aT e9_14<|aB e9_15 ?_
  refine aA e9_16 ?_
  obtain ⟨b5,o3,vs3,ea3,rp3,cl3⟩ := SlR.at R1 hx1
  obtain ⟨a4,c4,rfl,R11⟩ := GDecl.out rp3
  refine vv rfl (aY u22 sz45 s10 s12 ea3 (Int.natCast_nonneg _) (Int.ofNat_lt.2 hj1))<|vv rfl (bH [.string x1.Name,.slice a4 x1.Shape.length c4,.string x1.Form,I x1.Block] ag45 sz45 rfl rfl (cl3 _ (Has.le (Le.refl _) st.has)))<|cG (.agg #[.string ByteArray.empty,.slice none 0 0,.string ByteArray.empty,I 0]) zr45 rfl rfl (fun b6 w6 al3 => ?_)
  replace al3 : Al _ (.cells (List.toArray [.string ByteArray.empty,.slice none 0 0,.string ByteArray.empty,I 0]) 45 (0,0)) b6 w6 := al3
  have M3 := Mut.new st al3
  have lb2 := st.alB al3
  have sp5 := al3.st st.has
  have st7 := st.call0 sp5
  refine aV (o := 0) (n := 4) [.string x1.Name,.slice a4 x1.Shape.length c4,.string x1.Form,I x1.Block] [.string x1.Name,.slice a4 x1.Shape.length c4,.string x1.Form,I x1.Block] (.agg #[.string x1.Name,.slice a4 x1.Shape.length c4,.string x1.Form,I x1.Block]) sz45 rfl rfl rfl rfl M3 rfl rfl rfl rfl rfl (fun w7 wr2 M4 => ?_)
  have sp6 := wr2.st st7.has M3.none
  have st8 := st7.call sp6 (fun x e => (.inl (e ▸ lb2)))
  obtain ⟨h5,le4,g6,st9,kp2⟩ := M4.fz st8 lb2
  refine aD<|aB e9_17<|aA e9_18<|vv rfl (aF (b := b6) (o := 0) fl45_1 rfl)<|vv rfl (aN (.slice a4 x1.Shape.length c4) sc43 rfl ((aR (st9.has _ _ g6)).trans rfl))<|vv rfl (bK u43 rfl)<|vv rfl (aQ .gtr .i64 (x1.Shape.length : Int) 20 (.bool (decide (20 < (x1.Shape.length : Int)))) 3 3 rfl rfl rfl)<|vv rfl (aE (.bool (decide (20 < (x1.Shape.length : Int)))) rfl) ?_
  rcases aM H with ⟨hc6,H⟩ | ⟨hc6,H⟩
  · refine aO (wf2 (dT hc6) rfl) rfl<|aO (wf2 (dT hc6) rfl) rfl<|aO (wf2 (dT hc6) rfl) rfl<|aO (wf2 (dT hc6) rfl) rfl<|aO (wf2 (dT hc6) rfl) rfl<|aO (wf2 (dT hc6) rfl) rfl<|aO (wf2 (dT hc6) rfl) rfl<|aO (wf2 (dT hc6) rfl) rfl<|vv rfl (dD (.bool true) (dT hc6) rfl rfl)<|aD ?_
    refine cZ e9_19 (p := true) rfl rfl<|aB e9_20<|aA e9_21<|vv rfl (aC (.bool false) rfl)<|aD ?_
    cases H
    exact aJ e9_22 (cD Try.results9 rfl ⟨h5,rfl,st9⟩)
  refine bC (wt2 (dF hc6) rfl) rfl (aF (b := b6) (o := 0) fl45_0 rfl)<|bC (wt2 (dF hc6) rfl) rfl (aN (.string x1.Name) sc9 rfl ((aR (st9.has _ _ g6)).trans rfl))<|bC (wt2 (dF hc6) rfl) rfl (eA u9 rfl)<|bC (wt2 (dF hc6) rfl) rfl (aF (b := b6) (o := 0) fl45_2 rfl)<|bC (wt2 (dF hc6) rfl) rfl (aN (.string x1.Form) sc9 rfl ((aR (st9.has _ _ g6)).trans rfl))<|bC (wt2 (dF hc6) rfl) rfl (eA u9 rfl)<|bC (wt2 (dF hc6) rfl) rfl (aQ .add .i64 (x1.Name.size : Int) (x1.Form.size : Int) (I (wr ((x1.Name.size : Int) + (x1.Form.size : Int)))) 3 3 rfl rfl rfl)<|bC (wt2 (dF hc6) rfl) rfl (aQ .gtr .i64 (wr ((x1.Name.size : Int) + (x1.Form.size : Int))) 200 (.bool (decide (200 < (wr ((x1.Name.size : Int) + (x1.Form.size : Int)))))) 3 3 rfl rfl rfl)<|vv rfl (dE (.bool (decide (200 < (wr ((x1.Name.size : Int) + (x1.Form.size : Int)))))) (dF hc6) rfl rfl)<|aD ?_
  rcases aM H with ⟨hc7,H⟩ | ⟨hc7,H⟩
  · refine tr e9_19 (dT hc7) rfl<|aB e9_20<|aA e9_21<|vv rfl (aC (.bool false) rfl)<|aD ?_
    cases H
    exact aJ e9_22 (cD Try.results9 rfl ⟨h5,rfl,st9⟩)
  refine fa e9_19 (dF hc7) rfl<|aL e9_23<|aZ<|aA e9_24<|vv rfl (aQ .add .i64 (j1 : Int) 1 (I ((j1 + 1 : Nat) : Int)) 3 3 s12 rfl (dL hj1 (SlR.mono le4 R1).mx))<|vv rfl (aE (I ((j1 + 1 : Nat) : Int)) rfl)<|aD<|bI ?_
  exact ih.1 (j1 := (j1 + 1)) st9 s1 s10 s11 rfl (SlR.mono le4 R1) (SlR.mono le4 R2) (le4 _ _ g2) hd2 H
theorem SLl9_1_z : SLl9_1 0 := by
  unfold SLl9_1; intros; rename_i H; exact absurd H (by simp [l9_1])
theorem SLl9_1_s (k : Nat) (ih : ZSLl9_0 k) : SLl9_1 (k + 1) := by
 intro p0 cW cR cX cS b1 j2 w0 w h0 h σ xs3 r st s1 s32 s33 s34 R3 R4 g3 hd3 H
 cases xs3 with
 | nil =>
  rw [l9_1] at H
  have hk3 := cU hd3
  refine aB e9_30<|aA e9_31<|vv rfl (aQ .lss .i64 (j2 : Int) (p0.S.length : Int) (.bool (decide ((j2 : Int) < (p0.S.length : Int)))) 3 3 s34 s33 rfl)<|aD<|aB e9_32<|fa e9_33 hk3 rfl<|bO e9_35 rfl<|aB e9_71<|aA e9_72 ?_
  obtain ⟨j3,hj3,H⟩ := dH H
  have Jj3 : ∀ {y1 : Bool} {σ1 : Env} {w2 : World} {h2 : Sto},Le h h2 → St w0 noM h0 h2 w2 → σ1 2 = .bool y1 → j3 y1 = some r → Run X9 [.code c9_73] σ1 w2 (.fn (Q9 w0 h0 r)) := by
   intro y1 σ1 w2 h2 le2 st2 s2_j3 H
   rw [hj3] at H
   cases H
   exact aJ e9_73 (cD Try.results9 s2_j3 ⟨h2,rfl,st2⟩)
  refine vv rfl (aF (b := b1) (o := 0) fl25_0 s1)<|vv rfl (aN (.slice cW p0.D.length cX) sc22 rfl ((aR (st.has _ _ g3)).trans rfl))<|vv rfl (bK u22 rfl)<|vv rfl (aQ .leq .i64 (p0.D.length : Int) 40 (.bool (decide ((p0.D.length : Int) ≤ 40))) 3 3 rfl rfl rfl)<|vv rfl (aE (.bool (decide ((p0.D.length : Int) ≤ 40))) rfl) ?_
  rcases aM H with ⟨hc1,H⟩ | ⟨hc1,H⟩
  · refine bC (wt2 (dT hc1) rfl) rfl (aF (b := b1) (o := 0) fl25_1 s1)<|bC (wt2 (dT hc1) rfl) rfl (aN (.slice cR p0.S.length cS) sc23 rfl ((aR (st.has _ _ g3)).trans rfl))<|bC (wt2 (dT hc1) rfl) rfl (bK u23 rfl)<|bC (wt2 (dT hc1) rfl) rfl (aQ .leq .i64 (p0.S.length : Int) 40 (.bool (decide ((p0.S.length : Int) ≤ 40))) 3 3 rfl rfl rfl)<|vv rfl (dD (.bool (decide ((p0.S.length : Int) ≤ 40))) (dT hc1) rfl rfl)<|vv rfl (aC (.bool (decide ((p0.S.length : Int) ≤ 40))) rfl)<|aD ?_
    exact Jj3 (Le.refl _) st rfl H
  refine aO (wf2 (dF hc1) rfl) rfl<|aO (wf2 (dF hc1) rfl) rfl<|aO (wf2 (dF hc1) rfl) rfl<|aO (wf2 (dF hc1) rfl) rfl<|vv rfl (dE (.bool false) (dF hc1) rfl rfl)<|vv rfl (aC (.bool false) rfl)<|aD ?_
  exact Jj3 (Le.refl _) st rfl H
 | cons x2 xs4 =>
  rw [l9_1] at H
  obtain ⟨hk4,hj2,hx2,hd4⟩ := cJ hd3
  refine aB e9_30<|aA e9_31<|vv rfl (aQ .lss .i64 (j2 : Int) (p0.S.length : Int) (.bool (decide ((j2 : Int) < (p0.S.length : Int)))) 3 3 s34 s33 rfl)<|aD<|aB e9_32<|tr e9_33 hk4 rfl<|aL e9_34<|aB e9_36<|aT e9_37<|aB e9_38 ?_
  refine aA e9_39 ?_
  obtain ⟨b2,o1,vs1,ea1,rp1,cl1⟩ := SlR.at R4 hx2
  obtain ⟨a1,c1,a2,c2,a3,c3,rfl,R5,R6,R7⟩ := GStmt.out rp1
  refine vv rfl (aY u23 sz33 s32 s34 ea1 (Int.natCast_nonneg _) (Int.ofNat_lt.2 hj2))<|vv rfl (bH [.string x2.Name,.slice a1 x2.Index.length c1,I x2.E.Op,I x2.E.N,.string x2.E.Name,.slice a2 x2.E.Index.length c2,.slice a3 x2.E.L.length c3] ag33 sz33 rfl rfl (cl1 _ (Has.le (Le.refl _) st.has)))<|cG (.agg #[.string ByteArray.empty,.slice none 0 0,I 0,I 0,.string ByteArray.empty,.slice none 0 0,.slice none 0 0]) zr33 rfl rfl (fun b3 w3 al2 => ?_)
  replace al2 : Al _ (.cells (List.toArray [.string ByteArray.empty,.slice none 0 0,I 0,I 0,.string ByteArray.empty,.slice none 0 0,.slice none 0 0]) 33 (0,0)) b3 w3 := al2
  have M1 := Mut.new st al2
  have lb1 := st.alB al2
  have sp2 := al2.st st.has
  have st3 := st.call0 sp2
  refine aV (o := 0) (n := 7) [.string x2.Name,.slice a1 x2.Index.length c1,I x2.E.Op,I x2.E.N,.string x2.E.Name,.slice a2 x2.E.Index.length c2,.slice a3 x2.E.L.length c3] [.string x2.Name,.slice a1 x2.Index.length c1,I x2.E.Op,I x2.E.N,.string x2.E.Name,.slice a2 x2.E.Index.length c2,.slice a3 x2.E.L.length c3] (.agg #[.string x2.Name,.slice a1 x2.Index.length c1,I x2.E.Op,I x2.E.N,.string x2.E.Name,.slice a2 x2.E.Index.length c2,.slice a3 x2.E.L.length c3]) sz33 rfl rfl rfl rfl M1 rfl rfl rfl rfl rfl (fun w4 wr1 M2 => ?_)
  have sp3 := wr1.st st3.has M1.none
  have st4 := st3.call sp3 (fun x e => (.inl (e ▸ lb1)))
  obtain ⟨h3,le3,g4,st5,kp1⟩ := M2.fz st4 lb1
  refine aD<|aB e9_40<|aB e9_41<|aA e9_42<|vv rfl (aF (b := b3) (o := 0) fl33_2 rfl)<|vv rfl (bH [I x2.E.Op,I x2.E.N,.string x2.E.Name,.slice a2 x2.E.Index.length c2,.slice a3 x2.E.L.length c3] dX cP rfl rfl (bA (st5.has _ _ g4) rfl)) ?_
  obtain ⟨r1,hr1,H⟩ := aK H
  refine aU [.agg #[I x2.E.Op,I x2.E.N,.string x2.E.Name,.slice a2 x2.E.Index.length c2,.slice a3 x2.E.L.length c3],I 20] en25 rfl rfl rfl (F25 k (p0 := x2.E) st5.has (SlR.mono le3 R6) (SlR.mono le3 R7) hr1) ?_
  rintro _ w5 ⟨h4,rfl,sp4⟩
  have st6 := st5.call0 sp4
  refine vv rfl (dV r1 4 rfl)<|vv rfl (aE (.bool (!r1)) rfl) ?_
  rcases aM H with ⟨hc2,H⟩ | ⟨hc2,H⟩
  · refine bC (wt2 (bN hc2) rfl) rfl (aF (b := b3) (o := 0) fl33_1 rfl)<|bC (wt2 (bN hc2) rfl) rfl (aN (.slice a1 x2.Index.length c1) sc28 rfl ((aR (st6.has _ _ (sp4.le _ _ g4))).trans rfl))<|bC (wt2 (bN hc2) rfl) rfl (bK u28 rfl)<|bC (wt2 (bN hc2) rfl) rfl (aQ .gtr .i64 (x2.Index.length : Int) 20 (.bool (decide (20 < (x2.Index.length : Int)))) 3 3 rfl rfl rfl)<|vv rfl (dE (.bool (decide (20 < (x2.Index.length : Int)))) (bN hc2) rfl rfl)<|vv rfl (aE (.bool (decide (20 < (x2.Index.length : Int)))) rfl) ?_
    rcases aM H with ⟨hc3,H⟩ | ⟨hc3,H⟩
    · refine aO (wf2 (dT hc3) rfl) rfl<|aO (wf2 (dT hc3) rfl) rfl<|aO (wf2 (dT hc3) rfl) rfl<|aO (wf2 (dT hc3) rfl) rfl<|vv rfl (dD (.bool true) (dT hc3) rfl rfl)<|aD<|cZ e9_43 (p := true) rfl rfl<|aB e9_44<|aA e9_45<|vv rfl (aC (.bool false) rfl) ?_
      refine aD ?_
      cases H
      exact aJ e9_46 (cD Try.results9 rfl ⟨h4,rfl,st6⟩)
    refine bC (wt2 (dF hc3) rfl) rfl (aF (b := b3) (o := 0) fl33_0 rfl)<|bC (wt2 (dF hc3) rfl) rfl (aN (.string x2.Name) sc9 rfl ((aR (st6.has _ _ (sp4.le _ _ g4))).trans rfl))<|bC (wt2 (dF hc3) rfl) rfl (eA u9 rfl)<|bC (wt2 (dF hc3) rfl) rfl (aQ .gtr .i64 (x2.Name.size : Int) 100 (.bool (decide (100 < (x2.Name.size : Int)))) 3 3 rfl rfl rfl)<|vv rfl (dE (.bool (decide (100 < (x2.Name.size : Int)))) (dF hc3) rfl rfl)<|aD ?_
    rcases aM H with ⟨hc4,H⟩ | ⟨hc4,H⟩
    · refine tr e9_43 (dT hc4) rfl<|aB e9_44<|aA e9_45<|vv rfl (aC (.bool false) rfl)<|aD ?_
      cases H
      exact aJ e9_46 (cD Try.results9 rfl ⟨h4,rfl,st6⟩)
    refine fa e9_43 (dF hc4) rfl<|aL e9_47<|aB e9_48<|aA e9_49<|vv rfl (aF (b := b3) (o := 0) fl33_1 rfl)<|vv rfl (aN (.slice a1 x2.Index.length c1) sc28 rfl ((aR (st6.has _ _ (sp4.le _ _ g4))).trans rfl))<|vv rfl (bK u28 rfl)<|vv rfl (aE (I 0) rfl)<|aD<|aT e9_50 ?_
    refine bZ e9_51 ?_
    exact ih.2.2 (j5 := 0) st6 s1 s32 s33 s34 rfl rfl rfl (SlR.mono (le3.trans sp4.le) R3) (SlR.mono (le3.trans sp4.le) R4) ((le3.trans sp4.le) _ _ g3) (SlR.mono (le3.trans sp4.le) R5) rfl hd4 hj2 hx2 H
  refine aO (wf2 (bQ (bY hc2)) rfl) rfl<|aO (wf2 (bQ (bY hc2)) rfl) rfl<|aO (wf2 (bQ (bY hc2)) rfl) rfl<|aO (wf2 (bQ (bY hc2)) rfl) rfl<|vv rfl (dD (.bool true) (bQ (bY hc2)) rfl rfl)<|vv rfl (aE (.bool true) rfl)<|aO (wf (p := true) rfl rfl) rfl<|aO (wf (p := true) rfl rfl) rfl<|aO (wf (p := true) rfl rfl) rfl<|aO (wf (p := true) rfl rfl) rfl ?_
  refine vv rfl (x_pickT (.bool true) (p := true) rfl rfl rfl)<|aD<|cZ e9_43 (p := true) rfl rfl<|aB e9_44<|aA e9_45<|vv rfl (aC (.bool false) rfl)<|aD ?_
  cases H
  exact aJ e9_46 (cD Try.results9 rfl ⟨h4,rfl,st6⟩)
theorem SLl9_2_z : SLl9_2 0 := by
  unfold SLl9_2; intros; rename_i H; exact absurd H (by simp [l9_2])
theorem SLl9_2_s (k : Nat) (ih : ZSLl9_0 k) : SLl9_2 (k + 1) := by
 intro p0 cW cR a1 cX cS b1 j2 c1 j5 w0 w h0 h σ x2 xs4 xs5 r st s1 s32 s33 s34 s55 s56 s57 R8 R9 g5 R10 hd5 hd4 hj2 hx2 H
 cases xs5 with
 | nil =>
  rw [l9_2] at H
  have hk5 := cU hd5
  refine aB e9_52<|aA e9_53<|vv rfl (aQ .lss .i64 (j5 : Int) (x2.Index.length : Int) (.bool (decide ((j5 : Int) < (x2.Index.length : Int)))) 3 3 s57 s56 rfl)<|aD<|aB e9_54<|fa e9_55 hk5 rfl<|bO e9_57 rfl<|aZ<|aA e9_70<|vv rfl (aQ .add .i64 (j2 : Int) 1 (I ((j2 + 1 : Nat) : Int)) 3 3 s34 rfl (dL hj2 R9.mx)) ?_
  refine vv rfl (aE (I ((j2 + 1 : Nat) : Int)) rfl)<|aD<|bI ?_
  exact ih.2.1 (j2 := (j2 + 1)) st s1 s32 s33 rfl R8 R9 g5 hd4 H
 | cons x3 xs6 =>
  rw [l9_2] at H
  obtain ⟨hk6,hj3,hx3,hd6⟩ := cJ hd5
  refine aB e9_52<|aA e9_53<|vv rfl (aQ .lss .i64 (j5 : Int) (x2.Index.length : Int) (.bool (decide ((j5 : Int) < (x2.Index.length : Int)))) 3 3 s57 s56 rfl)<|aD<|aB e9_54<|tr e9_55 hk6 rfl<|aL e9_56<|aB e9_58<|aT e9_59<|aB e9_60 ?_
  refine aA e9_61 ?_
  obtain ⟨b4,o2,vs2,ea2,rp2,cl2⟩ := SlR.at R10 hx3
  obtain rfl := rp2
  refine vv rfl (aY u28 sz9 s55 s57 ea2 (Int.natCast_nonneg _) (Int.ofNat_lt.2 hj3))<|vv rfl (aN (.string x3) sc9 rfl (((cl2 _ (Has.le (Le.refl _) st.has)) 0 (by decide)).trans rfl))<|vv rfl (aC (.string x3) rfl)<|aD<|aB e9_62<|aA e9_63<|vv rfl (aE (.string x3) rfl)<|vv rfl (eA u9 rfl)<|vv rfl (aQ .gtr .i64 (x3.size : Int) 100 (.bool (decide (100 < (x3.size : Int)))) 3 3 rfl rfl rfl)<|aD ?_
  rcases aM H with ⟨hc5,H⟩ | ⟨hc5,H⟩
  · refine tr e9_64 (dT hc5) rfl<|aB e9_65<|aA e9_66<|vv rfl (aC (.bool false) rfl)<|aD ?_
    cases H
    exact aJ e9_67 (cD Try.results9 rfl ⟨h,rfl,st⟩)
  refine fa e9_64 (dF hc5) rfl<|aL e9_68<|aZ<|aA e9_69<|vv rfl (aQ .add .i64 (j5 : Int) 1 (I ((j5 + 1 : Nat) : Int)) 3 3 s57 rfl (dL hj3 R10.mx))<|vv rfl (aE (I ((j5 + 1 : Nat) : Int)) rfl)<|aD<|bI ?_
  exact ih.2.2 (j5 := (j5 + 1)) st s1 s32 s33 s34 s55 s56 rfl R8 R9 g5 R10 hd6 hd4 hj2 hx2 H
theorem ZSLl9_0_all : ∀ k,ZSLl9_0 k
  | 0 => ⟨SLl9_0_z,SLl9_1_z,SLl9_2_z⟩
  | k + 1 => ⟨SLl9_0_s k (ZSLl9_0_all k),SLl9_1_s k (ZSLl9_0_all k),SLl9_2_s k (ZSLl9_0_all k)⟩
theorem Fl9_0 (k : Nat) : SLl9_0 k := (ZSLl9_0_all k).1
theorem F9 (k : Nat) : S9 k := by
 intro p0 cW cR cX cS w0 h0 hh Rp0_D Rp0_S r H
 unfold m9 at H
 refine aP (fn := Try.f9) Try.func9 rfl (Nat.le_of_ble_eq_true rfl) ?_
 show Run X9 [.code c9_0] (fun t => List.getD [.agg #[.slice cW p0.D.length cX,.slice cR p0.S.length cS]] t undef) w0 (.fn (Q9 w0 h0 r))
 have st0 := St.init hh noM
 refine aB e9_0<|aA e9_1<|dW (.agg #[.slice cW p0.D.length cX,.slice cR p0.S.length cS]) rfl rfl rfl (fun b1 w1 al1 => ?_)
 replace al1 : Al _ (.cells (List.toArray [.slice cW p0.D.length cX,.slice cR p0.S.length cS]) 25 (0,0)) b1 w1 := al1
 obtain ⟨h1,le1,g1,sp1⟩ := al1.fz st0.has
 have st1 := st0.call0 sp1
 refine vv rfl (aC (.bool false) rfl)<|aD<|aB e9_2<|aB e9_3<|aA e9_4<|vv rfl (aF (b := b1) (o := 0) fl25_0 rfl)<|vv rfl (aN (.slice cW p0.D.length cX) sc22 rfl ((aR (st1.has _ _ g1)).trans rfl))<|vv rfl (bK u22 rfl)<|vv rfl (aE (I 0) rfl)<|aD ?_
 refine aT e9_5<|bZ e9_6 ?_
 exact Fl9_0 k (j1 := 0) st1 rfl rfl rfl rfl (SlR.mono le1 Rp0_D) (SlR.mono le1 Rp0_S) g1 rfl H
abbrev ZSLl6_0 (k : Nat) : Prop := SLl6_0 k ∧ SLl6_1 k
theorem SLl6_0_z : SLl6_0 0 := by
  unfold SLl6_0; intros; rename_i H; exact absurd H (by simp [l6_0])
theorem SLl6_0_s (k : Nat) (ih : ZSLl6_0 k) : SLl6_0 (k + 1) := by
 intro p0 aG aW bL a1 a2 a3 aH aX bM b1 c1 c2 b3 c3 j4 w0 w h0 h r1 r3 r4 σ xs1 r st s1 s3 s4 s34 s35 s36 R5 R6 R7 g4 R8 R9 g5 R10 hd1 H
 cases xs1 with
 | nil =>
  rw [l6_0] at H
  have hk1 := cU hd1
  refine aB e6_27<|aA e6_28<|vv rfl (aQ .lss .i64 (j4 : Int) (r4.length : Int) (.bool (decide ((j4 : Int) < (r4.length : Int)))) 3 3 s36 s35 rfl)<|aD<|aB e6_29<|fa e6_30 hk1 rfl<|bO e6_32 rfl<|aB e6_45<|aA e6_46<|vv rfl (bH [I r3.1.Op,I r3.1.N,.string r3.1.Name,.slice a1 r3.1.Index.length c1,.slice a2 r3.1.L.length c2] dX cP s4 rfl (bA (st.has _ _ g5) rfl)) ?_
  obtain ⟨r5,hr5,H⟩ := aK H
  refine aU [.agg #[I r3.1.Op,I r3.1.N,.string r3.1.Name,.slice a1 r3.1.Index.length c1,.slice a2 r3.1.L.length c2]] en12 rfl rfl rfl (F12 k (p0 := r3.1) st.has R8 R9 hr5) ?_
  rintro _ w10 ⟨a4,c4,h9,rfl,sp9,R11⟩
  have st11 := st.call0 sp9
  refine vv rfl (aC (.slice a4 r5.length c4) rfl)<|aD<|aB e6_47<|aA e6_48<|vv rfl (aF (b := b1) (o := 0) fl33_2 s1)<|vv rfl (bH [I p0.E.Op,I p0.E.N,.string p0.E.Name,.slice aW p0.E.Index.length aX,.slice bL p0.E.L.length bM] dX cP rfl rfl (bA (st11.has _ _ (sp9.le _ _ g4)) rfl)) ?_
  obtain ⟨r6,hr6,H⟩ := aK H
  refine aU [.agg #[I p0.E.Op,I p0.E.N,.string p0.E.Name,.slice aW p0.E.Index.length aX,.slice bL p0.E.L.length bM]] en12 rfl rfl rfl (F12 k (p0 := p0.E) st11.has (SlR.mono sp9.le R6) (SlR.mono sp9.le R7) hr6) ?_
  rintro _ w11 ⟨a5,c5,h10,rfl,sp10,R12⟩
  have st12 := st11.call0 sp10
  refine vv rfl (aC (.slice a5 r6.length c5) rfl)<|aD<|aB e6_49<|aB e6_50<|aA e6_51<|vv rfl (aE (.slice a4 r5.length c4) rfl)<|vv rfl (bK u29 rfl)<|vv rfl (aE (.slice a5 r6.length c5) rfl)<|vv rfl (bK u29 rfl)<|vv rfl (aQ .neq .i64 (r5.length : Int) (r6.length : Int) (.bool (!decide ((r5.length : Int) = (r6.length : Int)))) 3 3 rfl rfl rfl) ?_
  refine aD ?_
  rcases aM H with ⟨hc4,H⟩ | ⟨hc4,H⟩
  · refine fa e6_52 (bN (dT hc4)) rfl<|aL e6_56<|aB e6_57<|aB e6_58<|aA e6_59<|vv rfl (aE (.slice a4 r5.length c4) rfl)<|vv rfl (bK u29 rfl)<|vv rfl (aE (I 0) rfl)<|aD<|aT e6_60 ?_
    refine bZ e6_61 ?_
    exact ih.2 (j6 := 0) st12 s1 s3 s4 rfl rfl rfl rfl (SlR.mono (sp9.le.trans sp10.le) R5) (SlR.mono (sp9.le.trans sp10.le) R6) (SlR.mono (sp9.le.trans sp10.le) R7) ((sp9.le.trans sp10.le) _ _ g4) (SlR.mono (sp9.le.trans sp10.le) R8) (SlR.mono (sp9.le.trans sp10.le) R9) ((sp9.le.trans sp10.le) _ _ g5) (SlR.mono sp10.le R11) R12 rfl H
  refine tr e6_52 (bQ (dF hc4)) rfl<|aB e6_53<|aA e6_54<|vv rfl (aC (.bool false) rfl)<|aD ?_
  cases H
  exact aJ e6_55 (cD Try.results6 rfl ⟨h10,rfl,st12⟩)
 | cons x1 xs2 =>
  rw [l6_0] at H
  obtain ⟨hk2,hj1,hx1,hd2⟩ := cJ hd1
  refine aB e6_27<|aA e6_28<|vv rfl (aQ .lss .i64 (j4 : Int) (r4.length : Int) (.bool (decide ((j4 : Int) < (r4.length : Int)))) 3 3 s36 s35 rfl)<|aD<|aB e6_29<|tr e6_30 hk2 rfl<|aL e6_31<|aB e6_33<|aT e6_34<|aB e6_35 ?_
  refine aA e6_36 ?_
  obtain ⟨b6,o1,vs1,ea1,rp1,cl1⟩ := SlR.at R10 hx1
  obtain rfl := rp1
  refine vv rfl (aY u28 sz9 s34 s36 ea1 (Int.natCast_nonneg _) (Int.ofNat_lt.2 hj1))<|vv rfl (aN (.string x1) sc9 rfl (((cl1 _ (Has.le (Le.refl _) st.has)) 0 (by decide)).trans rfl))<|vv rfl (aC (.string x1) rfl)<|aD<|aB e6_37<|aA e6_38<|vv rfl (aF (b := b1) (o := 0) fl33_1 s1)<|vv rfl (aN (.slice aG p0.Index.length aH) sc28 rfl ((aR (st.has _ _ g4)).trans rfl))<|vv rfl (aE (.string x1) rfl) ?_
  obtain ⟨r11,hr11,H⟩ := aK H
  refine aU [.slice aG p0.Index.length aH,.string x1] en19 rfl rfl rfl (F19 k st.has R5 hr11) ?_
  rintro _ w23 ⟨h17,rfl,sp21⟩
  have st25 := st.call0 sp21
  refine vv rfl (dV r11 4 rfl)<|aD ?_
  rcases aM H with ⟨hc11,H⟩ | ⟨hc11,H⟩
  · refine fa e6_39 (bN hc11) rfl<|aL e6_43<|aZ<|aA e6_44<|vv rfl (aQ .add .i64 (j4 : Int) 1 (I ((j4 + 1 : Nat) : Int)) 3 3 s36 rfl (dL hj1 (SlR.mono sp21.le R10).mx))<|vv rfl (aE (I ((j4 + 1 : Nat) : Int)) rfl)<|aD<|bI ?_
    exact ih.1 (j4 := (j4 + 1)) st25 s1 s3 s4 s34 s35 rfl (SlR.mono sp21.le R5) (SlR.mono sp21.le R6) (SlR.mono sp21.le R7) (sp21.le _ _ g4) (SlR.mono sp21.le R8) (SlR.mono sp21.le R9) (sp21.le _ _ g5) (SlR.mono sp21.le R10) hd2 H
  refine tr e6_39 (bQ (bY hc11)) rfl<|aB e6_40<|aA e6_41<|vv rfl (aC (.bool false) rfl)<|aD ?_
  cases H
  exact aJ e6_42 (cD Try.results6 rfl ⟨h17,rfl,st25⟩)
theorem SLl6_1_z : SLl6_1 0 := by
  unfold SLl6_1; intros; rename_i H; exact absurd H (by simp [l6_1])
theorem SLl6_1_s (k : Nat) (ih : ZSLl6_0 k) : SLl6_1 (k + 1) := by
 intro p0 aG aW bL a1 a2 a4 a5 aH aX bM b1 c1 c2 b3 c4 c5 j6 w0 w h0 h r1 r3 σ r5 r6 xs3 r st s1 s3 s4 s8 s9 s57 s58 R13 R14 R15 g6 R16 R17 g7 R18 R19 hd3 H
 cases xs3 with
 | nil =>
  rw [l6_1] at H
  have hk3 := cU hd3
  refine aB e6_62<|aA e6_63<|vv rfl (aQ .lss .i64 (j6 : Int) (r5.length : Int) (.bool (decide ((j6 : Int) < (r5.length : Int)))) 3 3 s58 s57 rfl)<|aD<|aB e6_64<|fa e6_65 hk3 rfl<|bO e6_67 rfl<|aB e6_80<|aA e6_81<|vv rfl (bH [.string p0.Name,.slice aG p0.Index.length aH,I p0.E.Op,I p0.E.N,.string p0.E.Name,.slice aW p0.E.Index.length aX,.slice bL p0.E.L.length bM] ag33 sz33 s1 rfl (bA (st.has _ _ g6) rfl)) ?_
  refine cG (.agg #[.string ByteArray.empty,.slice none 0 0,I 0,I 0,.string ByteArray.empty,.slice none 0 0,.slice none 0 0]) zr33 rfl rfl (fun b4 w12 al4 => ?_)
  replace al4 : Al _ (.cells (List.toArray [.string ByteArray.empty,.slice none 0 0,I 0,I 0,.string ByteArray.empty,.slice none 0 0,.slice none 0 0]) 33 (0,0)) b4 w12 := al4
  have M3 := Mut.new st al4
  have lb2 := st.alB al4
  have sp11 := al4.st st.has
  have st13 := st.call0 sp11
  refine aV (o := 0) (n := 7) [.string p0.Name,.slice aG p0.Index.length aH,I p0.E.Op,I p0.E.N,.string p0.E.Name,.slice aW p0.E.Index.length aX,.slice bL p0.E.L.length bM] [.string p0.Name,.slice aG p0.Index.length aH,I p0.E.Op,I p0.E.N,.string p0.E.Name,.slice aW p0.E.Index.length aX,.slice bL p0.E.L.length bM] (.agg #[.string p0.Name,.slice aG p0.Index.length aH,I p0.E.Op,I p0.E.N,.string p0.E.Name,.slice aW p0.E.Index.length aX,.slice bL p0.E.L.length bM]) sz33 rfl rfl rfl rfl M3 rfl rfl rfl rfl rfl (fun w13 wr2 M4 => ?_)
  have sp12 := wr2.st st13.has M3.none
  have st14 := st13.call sp12 (fun x e => (.inl (e ▸ lb2)))
  refine aD<|aB e6_82<|aA e6_83<|vv rfl (bH [I r3.1.Op,I r3.1.N,.string r3.1.Name,.slice a1 r3.1.Index.length c1,.slice a2 r3.1.L.length c2] dX cP s4 rfl (bA (st14.has _ _ g7) rfl))<|vv rfl (aF (b := b4) (o := 0) fl33_2 rfl)<|aV (o := 2) (n := 5) [I r3.1.Op,I r3.1.N,.string r3.1.Name,.slice a1 r3.1.Index.length c1,.slice a2 r3.1.L.length c2] [.string p0.Name,.slice aG p0.Index.length aH,I r3.1.Op,I r3.1.N,.string r3.1.Name,.slice a1 r3.1.Index.length c1,.slice a2 r3.1.L.length c2] (.agg #[I r3.1.Op,I r3.1.N,.string r3.1.Name,.slice a1 r3.1.Index.length c1,.slice a2 r3.1.L.length c2]) cP rfl rfl rfl rfl M4 rfl rfl rfl rfl rfl (fun w14 wr3 M5 => ?_)
  have sp13 := wr3.st st14.has M4.none
  have st15 := st14.call sp13 (fun x e => (.inl (e ▸ lb2)))
  refine aD<|aB e6_84<|aA e6_85<|vv rfl (bH [.string p0.Name,.slice aG p0.Index.length aH,I r3.1.Op,I r3.1.N,.string r3.1.Name,.slice a1 r3.1.Index.length c1,.slice a2 r3.1.L.length c2] ag33 sz33 rfl rfl (bA M5.get rfl)) ?_
  obtain ⟨r7,hr7,H⟩ := aK H
  refine aU [.agg #[.string p0.Name,.slice aG p0.Index.length aH,I r3.1.Op,I r3.1.N,.string r3.1.Name,.slice a1 r3.1.Index.length c1,.slice a2 r3.1.L.length c2]] en17 rfl rfl rfl (F17 k (p0 := (⟨p0.Name,p0.Index,(⟨r3.1.Op,r3.1.N,r3.1.Name,r3.1.Index,r3.1.L⟩ : GNode)⟩ : GStmt)) st15.has R13 R16 R17 hr7) ?_
  rintro _ w15 ⟨a6,c6,a7,c7,h11,rfl,sp14,R20,R21⟩
  have M6 := M5.call0 sp14
  have st16 := st15.call0 sp14
  refine vv rfl (aE (.tuple #[.agg #[I r7.1.Op,I r7.1.N,.string r7.1.Name,.slice a6 r7.1.Index.length c6,.slice a7 r7.1.L.length c7],I r7.2]) rfl)<|vv rfl (bS (.agg #[I r7.1.Op,I r7.1.N,.string r7.1.Name,.slice a6 r7.1.Index.length c6,.slice a7 r7.1.L.length c7]) rfl rfl)<|vv rfl (bS (I r7.2) rfl rfl)<|cG (.agg #[I 0,I 0,.string ByteArray.empty,.slice none 0 0,.slice none 0 0]) zr31 rfl rfl (fun b5 w16 al5 => ?_)
  replace al5 : Al _ (.cells (List.toArray [I 0,I 0,.string ByteArray.empty,.slice none 0 0,.slice none 0 0]) 31 (0,0)) b5 w16 := al5
  have M7 := Mut.new st16 al5
  have lb3 := st16.alB al5
  have sp15 := al5.st st16.has
  have M8 := M6.call0 sp15
  have st17 := st16.call0 sp15
  refine aV (o := 0) (n := 5) [I r7.1.Op,I r7.1.N,.string r7.1.Name,.slice a6 r7.1.Index.length c6,.slice a7 r7.1.L.length c7] [I r7.1.Op,I r7.1.N,.string r7.1.Name,.slice a6 r7.1.Index.length c6,.slice a7 r7.1.L.length c7] (.agg #[I r7.1.Op,I r7.1.N,.string r7.1.Name,.slice a6 r7.1.Index.length c6,.slice a7 r7.1.L.length c7]) cP rfl rfl rfl rfl M7 rfl rfl rfl rfl rfl (fun w17 wr4 M9 => ?_)
  have sp16 := wr4.st st17.has M7.none
  have M10 := M8.call sp16 (fun e => ((Mut.ne_ty M8 M7 (by decide)) e))
  have st18 := st17.call sp16 (fun x e => (.inl (e ▸ lb3)))
  obtain ⟨h12,le5,g8,st19,kp2⟩ := M9.fz st18 lb3
  have M11 := M10.fr kp2 (Mut.ne_ty M10 M9 (by decide))
  refine vv rfl (aC (I r7.2) rfl)<|aD<|aB e6_86<|aA e6_87 ?_
  obtain ⟨j7,hj7,H⟩ := dH H
  have Jj7 : ∀ {y2 : Bool} {σ2 : Env} {w21 : World} {h16 : Sto},Le h12 h16 → St w0 noM h0 h16 w21 → σ2 2 = .bool y2 → SlR h16 aG aH p0.Index → SlR h16 a1 c1 r3.1.Index → SlR h16 a2 c2 r3.1.L → Mut h16 w21 b4 (.cells (List.toArray [.string p0.Name,.slice aG p0.Index.length aH,I r3.1.Op,I r3.1.N,.string r3.1.Name,.slice a1 r3.1.Index.length c1,.slice a2 r3.1.L.length c2]) 33 (0,0)) → j7 y2 = some r → Run X6 [.code c6_88] σ2 w21 (.fn (Q6 w0 h0 r)) := by
   intro y2 σ2 w21 h16 le6 st23 s2_j7 R22 R23 R24 M15 H
   rw [hj7] at H
   cases H
   exact aJ e6_88 (cD Try.results6 s2_j7 ⟨h16,rfl,st23⟩)
  refine vv rfl (aE (.bool r1) s3)<|vv rfl (aE (.bool r1) rfl) ?_
  rcases aM H with ⟨hc5,H⟩ | ⟨hc5,H⟩
  · refine bC (wt2 hc5 rfl) rfl (aE (I r7.2) rfl)<|bC (wt2 hc5 rfl) rfl (aQ .eql .i64 r7.2 1 (.bool (decide (r7.2 = 1))) 35 35 rfl rfl rfl)<|bC (wt2 hc5 rfl) rfl (aE (.bool (decide (r7.2 = 1))) rfl) ?_
    rcases aM H with ⟨hc6,H⟩ | ⟨hc6,H⟩
    · refine bC (wt2 (dT hc6) rfl) rfl (bH [I r3.1.Op,I r3.1.N,.string r3.1.Name,.slice a1 r3.1.Index.length c1,.slice a2 r3.1.L.length c2] dX cP s4 rfl (bA (st19.has _ _ ((sp14.le.trans le5) _ _ g7)) rfl)) ?_
      obtain ⟨r8,hr8,H⟩ := aK H
      refine aU [.agg #[I r3.1.Op,I r3.1.N,.string r3.1.Name,.slice a1 r3.1.Index.length c1,.slice a2 r3.1.L.length c2]] en21 (wt2 (dT hc6) rfl) rfl rfl (F21 k (p0 := r3.1) st19.has (SlR.mono (sp14.le.trans le5) R16) (SlR.mono (sp14.le.trans le5) R17) hr8) ?_
      rintro _ w18 ⟨h13,rfl,sp17⟩
      have M12 := M11.call0 sp17
      have st20 := st19.call0 sp17
      refine bC (wt2 (dT hc6) rfl) rfl (dV r8 4 rfl)<|bC (wt2 hc5 rfl) rfl (dD (.bool (!r8)) (dT hc6) rfl rfl)<|bC (wt2 hc5 rfl) rfl (aE (.bool (!r8)) rfl) ?_
      rcases aM H with ⟨hc7,H⟩ | ⟨hc7,H⟩
      · refine bC (wt2 (bN hc7) rfl) rfl (aE (I r7.2) rfl)<|bC (wt2 (bN hc7) rfl) rfl (aQ .eql .i64 r7.2 0 (.bool (decide (r7.2 = 0))) 35 35 rfl rfl rfl)<|bC (wt2 (bN hc7) rfl) rfl (aE (.bool (decide (r7.2 = 0))) rfl) ?_
        rcases aM H with ⟨hc8,H⟩ | ⟨hc8,H⟩
        · refine bC (wt2 (dT hc8) rfl) rfl (bH [I r7.1.Op,I r7.1.N,.string r7.1.Name,.slice a6 r7.1.Index.length c6,.slice a7 r7.1.L.length c7] dX cP rfl rfl (bA (st20.has _ _ (sp17.le _ _ g8)) rfl))<|bC (wt2 (dT hc8) rfl) rfl (bH [I r3.1.Op,I r3.1.N,.string r3.1.Name,.slice a1 r3.1.Index.length c1,.slice a2 r3.1.L.length c2] dX cP s4 rfl (bA (st20.has _ _ ((sp14.le.trans (le5.trans sp17.le)) _ _ g7)) rfl)) ?_
          obtain ⟨r9,hr9,H⟩ := aK H
          refine aU [.agg #[I r7.1.Op,I r7.1.N,.string r7.1.Name,.slice a6 r7.1.Index.length c6,.slice a7 r7.1.L.length c7],.agg #[I r3.1.Op,I r3.1.N,.string r3.1.Name,.slice a1 r3.1.Index.length c1,.slice a2 r3.1.L.length c2]] en20 (wt2 (dT hc8) rfl) rfl rfl (F20 k (p0 := r7.1) (p1 := r3.1) st20.has (SlR.mono (le5.trans sp17.le) R20) (SlR.mono (le5.trans sp17.le) R21) (SlR.mono (sp14.le.trans (le5.trans sp17.le)) R16) (SlR.mono (sp14.le.trans (le5.trans sp17.le)) R17) hr9) ?_
          rintro _ w19 ⟨h14,rfl,sp18⟩
          have M13 := M12.call0 sp18
          have st21 := st20.call0 sp18
          refine bC (wt2 (bN hc7) rfl) rfl (dD (.bool r9) (dT hc8) rfl rfl)<|bC (wt2 hc5 rfl) rfl (dE (.bool r9) (bN hc7) rfl rfl)<|vv rfl (dD (.bool r9) hc5 rfl rfl)<|vv rfl (aC (.bool r9) rfl)<|aD ?_
          exact Jj7 (sp17.le.trans sp18.le) st21 rfl (SlR.mono (sp14.le.trans (le5.trans (sp17.le.trans sp18.le))) R13) (SlR.mono (sp14.le.trans (le5.trans (sp17.le.trans sp18.le))) R16) (SlR.mono (sp14.le.trans (le5.trans (sp17.le.trans sp18.le))) R17) M13 H
        refine aO (wf2 (dF hc8) rfl) rfl<|aO (wf2 (dF hc8) rfl) rfl<|aO (wf2 (dF hc8) rfl) rfl<|bC (wt2 (bN hc7) rfl) rfl (dE (.bool false) (dF hc8) rfl rfl)<|bC (wt2 hc5 rfl) rfl (dE (.bool false) (bN hc7) rfl rfl)<|vv rfl (dD (.bool false) hc5 rfl rfl)<|vv rfl (aC (.bool false) rfl)<|aD ?_
        exact Jj7 sp17.le st20 rfl (SlR.mono (sp14.le.trans (le5.trans sp17.le)) R13) (SlR.mono (sp14.le.trans (le5.trans sp17.le)) R16) (SlR.mono (sp14.le.trans (le5.trans sp17.le)) R17) M12 H
      refine aO (wf2 (bQ (bY hc7)) rfl) rfl<|aO (wf2 (bQ (bY hc7)) rfl) rfl<|aO (wf2 (bQ (bY hc7)) rfl) rfl<|aO (wu rfl) rfl<|aO (wu rfl) rfl<|aO (wu rfl) rfl<|aO (wf2 (bQ (bY hc7)) rfl) rfl<|bC (wt2 hc5 rfl) rfl (dD (.bool true) (bQ (bY hc7)) rfl rfl)<|vv rfl (dD (.bool true) hc5 rfl rfl)<|vv rfl (aC (.bool true) rfl) ?_
      refine aD ?_
      exact Jj7 sp17.le st20 rfl (SlR.mono (sp14.le.trans (le5.trans sp17.le)) R13) (SlR.mono (sp14.le.trans (le5.trans sp17.le)) R16) (SlR.mono (sp14.le.trans (le5.trans sp17.le)) R17) M12 H
    refine aO (wf2 (dF hc6) rfl) rfl<|aO (wf2 (dF hc6) rfl) rfl<|aO (wf2 (dF hc6) rfl) rfl<|bC (wt2 hc5 rfl) rfl (dE (.bool false) (dF hc6) rfl rfl)<|bC (wt2 hc5 rfl) rfl (aE (.bool false) rfl)<|bC (wt (p := false) rfl rfl) rfl (aE (I r7.2) rfl)<|bC (wt (p := false) rfl rfl) rfl (aQ .eql .i64 r7.2 0 (.bool (decide (r7.2 = 0))) 35 35 rfl rfl rfl)<|bC (wt (p := false) rfl rfl) rfl (aE (.bool (decide (r7.2 = 0))) rfl) ?_
    rcases aM H with ⟨hc9,H⟩ | ⟨hc9,H⟩
    · refine bC (wt2 (dT hc9) rfl) rfl (bH [I r7.1.Op,I r7.1.N,.string r7.1.Name,.slice a6 r7.1.Index.length c6,.slice a7 r7.1.L.length c7] dX cP rfl rfl (bA (st19.has _ _ g8) rfl))<|bC (wt2 (dT hc9) rfl) rfl (bH [I r3.1.Op,I r3.1.N,.string r3.1.Name,.slice a1 r3.1.Index.length c1,.slice a2 r3.1.L.length c2] dX cP s4 rfl (bA (st19.has _ _ ((sp14.le.trans le5) _ _ g7)) rfl)) ?_
      obtain ⟨r10,hr10,H⟩ := aK H
      refine aU [.agg #[I r7.1.Op,I r7.1.N,.string r7.1.Name,.slice a6 r7.1.Index.length c6,.slice a7 r7.1.L.length c7],.agg #[I r3.1.Op,I r3.1.N,.string r3.1.Name,.slice a1 r3.1.Index.length c1,.slice a2 r3.1.L.length c2]] en20 (wt2 (dT hc9) rfl) rfl rfl (F20 k (p0 := r7.1) (p1 := r3.1) st19.has (SlR.mono le5 R20) (SlR.mono le5 R21) (SlR.mono (sp14.le.trans le5) R16) (SlR.mono (sp14.le.trans le5) R17) hr10) ?_
      rintro _ w20 ⟨h15,rfl,sp19⟩
      have M14 := M11.call0 sp19
      have st22 := st19.call0 sp19
      refine bC (wt (p := false) rfl rfl) rfl (dD (.bool r10) (dT hc9) rfl rfl)<|bC (wt2 hc5 rfl) rfl (cA (.bool r10) (p := false) rfl rfl rfl)<|vv rfl (dD (.bool r10) hc5 rfl rfl)<|vv rfl (aC (.bool r10) rfl)<|aD ?_
      exact Jj7 sp19.le st22 rfl (SlR.mono (sp14.le.trans (le5.trans sp19.le)) R13) (SlR.mono (sp14.le.trans (le5.trans sp19.le)) R16) (SlR.mono (sp14.le.trans (le5.trans sp19.le)) R17) M14 H
    refine aO (wf2 (dF hc9) rfl) rfl<|aO (wf2 (dF hc9) rfl) rfl<|aO (wf2 (dF hc9) rfl) rfl<|bC (wt (p := false) rfl rfl) rfl (dE (.bool false) (dF hc9) rfl rfl)<|bC (wt2 hc5 rfl) rfl (cA (.bool false) (p := false) rfl rfl rfl)<|vv rfl (dD (.bool false) hc5 rfl rfl)<|vv rfl (aC (.bool false) rfl)<|aD ?_
    exact Jj7 (Le.refl _) st19 rfl (SlR.mono (sp14.le.trans le5) R13) (SlR.mono (sp14.le.trans le5) R16) (SlR.mono (sp14.le.trans le5) R17) M11 H
  refine aO (wf2 (bY hc5) rfl) rfl<|aO (wf2 (bY hc5) rfl) rfl<|aO (wf2 (bY hc5) rfl) rfl<|aO (wu rfl) rfl<|aO (wu rfl) rfl<|aO (wu rfl) rfl<|aO (wf2 (bY hc5) rfl) rfl<|aO (wf2 (bY hc5) rfl) rfl<|aO (wu rfl) rfl<|aO (wu rfl) rfl ?_
  refine aO (wu rfl) rfl<|aO (wu rfl) rfl<|aO (wu rfl) rfl<|aO (wu rfl) rfl<|aO (wu rfl) rfl<|aO (wf2 (bY hc5) rfl) rfl<|vv rfl (dE (.bool false) (bY hc5) rfl rfl)<|vv rfl (aC (.bool false) rfl)<|aD ?_
  exact Jj7 (Le.refl _) st19 rfl (SlR.mono (sp14.le.trans le5) R13) (SlR.mono (sp14.le.trans le5) R16) (SlR.mono (sp14.le.trans le5) R17) M11 H
 | cons x2 xs4 =>
  rw [l6_1] at H
  obtain ⟨hk4,hj2,hx2,hd4⟩ := cJ hd3
  refine aB e6_62<|aA e6_63<|vv rfl (aQ .lss .i64 (j6 : Int) (r5.length : Int) (.bool (decide ((j6 : Int) < (r5.length : Int)))) 3 3 s58 s57 rfl)<|aD<|aB e6_64<|tr e6_65 hk4 rfl<|aL e6_66<|aB e6_68<|aT e6_69<|aB e6_70 ?_
  refine aA e6_71<|vv rfl (aE (I (j6 : Int)) s58)<|vv rfl (aC (I (j6 : Int)) rfl)<|aD<|aB e6_72 ?_
  refine dY [[(0,false),(1,false),(2,false),(3,false),(4,false),(5,false),(6,false),(7,false),(8,true),(9,false)]] [8] [0,1,2,3,4,5,6,7,8,9] [0,1,2,3,4,5,6,7,8,9] (fun w_ => Has h w_ ∧ True) e6_73 k6_73 m6_73 (fun w22 al6 => ?_)
  have sp20 := al6.st st.has
  have st24 := st.call0 sp20
  refine ⟨⟨Has.le (Le.refl _) st24.has,trivial⟩,?_,trivial⟩
  refine bV rfl rfl (fun w_ ok_ => aE (.slice a4 r5.length c4) s8)<|bV rfl rfl (fun w_ ok_ => aE (I (j6 : Int)) rfl) ?_
  obtain ⟨bd1_2_1,od1_2_2,vsd1_2_3,ead1_2_4,rpd1_2_5,cld1_2_6⟩ := SlR.at R18 hx2
  obtain ⟨ad1_2_7,cd1_2_8,ad1_2_10,cd1_2_11,rfl,Rd1_2_9,Rd1_2_12⟩ := GNode.out rpd1_2_5
  refine bV rfl rfl (fun w_ ok_ => aY u29 cP rfl rfl ead1_2_4 (Int.natCast_nonneg _) (Int.ofNat_lt.2 hj2))<|bV rfl rfl (fun w_ ok_ => bH [I x2.Op,I x2.N,.string x2.Name,.slice ad1_2_7 x2.Index.length cd1_2_8,.slice ad1_2_10 x2.L.length cd1_2_11] dX cP rfl rfl (cld1_2_6 _ (Has.le (Le.refl _) ok_.1)))<|bV rfl rfl (fun w_ ok_ => aE (.slice a5 r6.length c5) s9)<|bV rfl rfl (fun w_ ok_ => aE (I (j6 : Int)) rfl) ?_
  obtain ⟨eQ,hxd1_6_2,H⟩ := aK H
  have hid1_6_3 := dB hxd1_6_2
  obtain ⟨bd1_6_4,od1_6_5,vsd1_6_6,ead1_6_7,rpd1_6_8,cld1_6_9⟩ := SlR.at R19 hid1_6_3.2.2
  obtain ⟨ad1_6_10,cd1_6_11,ad1_6_13,cd1_6_14,rfl,Rd1_6_12,Rd1_6_15⟩ := GNode.out rpd1_6_8
  refine bV rfl rfl (fun w_ ok_ => aY u29 cP rfl rfl ead1_6_7 hid1_6_3.1 hid1_6_3.2.1)<|bV rfl rfl (fun w_ ok_ => bH [I eQ.Op,I eQ.N,.string eQ.Name,.slice ad1_6_10 eQ.Index.length cd1_6_11,.slice ad1_6_13 eQ.L.length cd1_6_14] dX cP rfl rfl (cld1_6_9 _ (Has.le (Le.refl _) ok_.1))) ?_
  obtain ⟨bT,hrd1_8_2,H⟩ := aK H
  refine dr_c rfl (od_call [.agg #[I x2.Op,I x2.N,.string x2.Name,.slice ad1_2_7 x2.Index.length cd1_2_8,.slice ad1_2_10 x2.L.length cd1_2_11],.agg #[I eQ.Op,I eQ.N,.string eQ.Name,.slice ad1_6_10 eQ.Index.length cd1_6_11,.slice ad1_6_13 eQ.L.length cd1_6_14]] en20 rfl rfl (F20 k (p0 := x2) (p1 := eQ) st24.has Rd1_2_9 Rd1_2_12 Rd1_6_12 Rd1_6_15 hrd1_8_2) ?_)
  rintro _ wd1_8_3 ⟨hd1_8_4,rfl,cQ⟩
  have std1_8_6 := st24.call0 cQ
  refine ⟨.inr ⟨Has.le cQ.le std1_8_6.has,trivial⟩,?_⟩
  refine bV rfl rfl (fun w_ ok_ => dV bT 4 rfl)<|eL ?_
  rcases aM H with ⟨hc10,H⟩ | ⟨hc10,H⟩
  · refine fa e6_74 (bN hc10) rfl<|aL e6_78<|aZ<|aA e6_79<|vv rfl (aQ .add .i64 (j6 : Int) 1 (I ((j6 + 1 : Nat) : Int)) 3 3 s58 rfl (dL hj2 (SlR.mono cQ.le R18).mx))<|vv rfl (aE (I ((j6 + 1 : Nat) : Int)) rfl)<|aD<|bI ?_
    exact ih.2 (j6 := (j6 + 1)) std1_8_6 s1 s3 s4 s8 s9 s57 rfl (SlR.mono cQ.le R13) (SlR.mono cQ.le R14) (SlR.mono cQ.le R15) (cQ.le _ _ g6) (SlR.mono cQ.le R16) (SlR.mono cQ.le R17) (cQ.le _ _ g7) (SlR.mono cQ.le R18) (SlR.mono cQ.le R19) hd4 H
  refine tr e6_74 (bQ (bY hc10)) rfl<|aB e6_75<|aA e6_76<|vv rfl (aC (.bool false) rfl)<|aD ?_
  cases H
  exact aJ e6_77 (cD Try.results6 rfl ⟨hd1_8_4,rfl,std1_8_6⟩)
theorem ZSLl6_0_all : ∀ k,ZSLl6_0 k
  | 0 => ⟨SLl6_0_z,SLl6_1_z⟩
  | k + 1 => ⟨SLl6_0_s k (ZSLl6_0_all k),SLl6_1_s k (ZSLl6_0_all k)⟩
theorem Fl6_0 (k : Nat) : SLl6_0 k := (ZSLl6_0_all k).1
theorem F6 (k : Nat) : S6 k := by
 intro p0 aG aW bL aH aX bM w0 h0 hh cB eR Rp0_E_L r H
 unfold m6 at H
 refine aP (fn := Try.f6) Try.func6 rfl (Nat.le_of_ble_eq_true rfl) ?_
 show Run X6 [.code c6_0] (fun t => List.getD [.agg #[.string p0.Name,.slice aG p0.Index.length aH,I p0.E.Op,I p0.E.N,.string p0.E.Name,.slice aW p0.E.Index.length aX,.slice bL p0.E.L.length bM]] t undef) w0 (.fn (Q6 w0 h0 r))
 have st0 := St.init hh noM
 refine aB e6_0<|aA e6_1<|dW (.agg #[.string p0.Name,.slice aG p0.Index.length aH,I p0.E.Op,I p0.E.N,.string p0.E.Name,.slice aW p0.E.Index.length aX,.slice bL p0.E.L.length bM]) rfl rfl rfl (fun b1 w1 al1 => ?_)
 replace al1 : Al _ (.cells (List.toArray [.string p0.Name,.slice aG p0.Index.length aH,I p0.E.Op,I p0.E.N,.string p0.E.Name,.slice aW p0.E.Index.length aX,.slice bL p0.E.L.length bM]) 33 (0,0)) b1 w1 := al1
 obtain ⟨h1,le1,g1,sp1⟩ := al1.fz st0.has
 have st1 := st0.call0 sp1
 refine vv rfl (aC (.bool false) rfl)<|aD<|aB e6_2<|aA e6_3 ?_
 obtain ⟨r1,hr1,H⟩ := aK H
 refine aU [] en8 rfl rfl rfl (F8 k st1.has hr1) ?_
 rintro _ w2 ⟨h2,rfl,sp2⟩
 have st2 := st1.call0 sp2
 refine vv rfl (aC (.bool r1) rfl)<|aD<|aB e6_4<|aB e6_5<|aA e6_6<|vv rfl (bH [.string p0.Name,.slice aG p0.Index.length aH,I p0.E.Op,I p0.E.N,.string p0.E.Name,.slice aW p0.E.Index.length aX,.slice bL p0.E.L.length bM] ag33 sz33 rfl rfl (bA (st2.has _ _ (sp2.le _ _ g1)) rfl))<|cF [.string ByteArray.empty,.slice none 0 0,I 0,I 0,.string ByteArray.empty,.slice none 0 0,.slice none 0 0] [.string p0.Name,.slice aG p0.Index.length aH,I p0.E.Op,I p0.E.N,.string p0.E.Name,.slice aW p0.E.Index.length aX,.slice bL p0.E.L.length bM] [(0,.agg #[.string p0.Name,.slice aG p0.Index.length aH,I p0.E.Op,I p0.E.N,.string p0.E.Name,.slice aW p0.E.Index.length aX,.slice bL p0.E.L.length bM])] u23 sz33 zr33 rfl rfl rfl rfl (by kernel_rfl) rfl (by kernel_rfl) (fun b2 w3 al2 => ?_)
 have li1 : Lits h2 [[.string p0.Name,.slice aG p0.Index.length aH,I p0.E.Op,I p0.E.N,.string p0.E.Name,.slice aW p0.E.Index.length aX,.slice bL p0.E.L.length bM]] ([p0] : List GStmt) := (Lits.cons (GStmt.into (h := h2) (x := p0) (SlR.mono (le1.trans sp2.le) cB) (SlR.mono (le1.trans sp2.le) eR) (SlR.mono (le1.trans sp2.le) Rp0_E_L)) Lits.nil)
 obtain ⟨h3,le2,g2,sp3⟩ := al2.fz st2.has
 have st3 := st2.call0 sp3
 have R1 : SlR _ _ _ ([p0] : List GStmt) := Lits.sl (n := 1) (Lits.mono le2 li1) rfl rfl (by decide) g2
 refine vv rfl (dJ (vs := [.slice none 0 0,.slice (some ⟨b2,0,none⟩) 1 1]) [(1,.slice (some ⟨b2,0,none⟩) 1 1)] bd25 rfl rfl) ?_
 obtain ⟨r2,hr2,H⟩ := aK H
 refine aU [.agg #[.slice none 0 0,.slice (some ⟨b2,0,none⟩) 1 1]] en9 rfl rfl rfl (F9 k (p0 := (⟨[],([p0] : List GStmt)⟩ : GProg)) st3.has (SlR.none _) R1 hr2) ?_
 rintro _ w4 ⟨h4,rfl,sp4⟩
 have st4 := st3.call0 sp4
 refine vv rfl (dV r2 4 rfl)<|aD ?_
 rcases aM H with ⟨hc1,H⟩ | ⟨hc1,H⟩
 · refine fa e6_7 (bN hc1) rfl<|aL e6_11<|aB e6_12<|aA e6_13<|vv rfl (bH [.string p0.Name,.slice aG p0.Index.length aH,I p0.E.Op,I p0.E.N,.string p0.E.Name,.slice aW p0.E.Index.length aX,.slice bL p0.E.L.length bM] ag33 sz33 rfl rfl (bA (st4.has _ _ ((sp2.le.trans (le2.trans sp4.le)) _ _ g1)) rfl)) ?_
   obtain ⟨r3,hr3,H⟩ := aK H
   refine aU [.agg #[.string p0.Name,.slice aG p0.Index.length aH,I p0.E.Op,I p0.E.N,.string p0.E.Name,.slice aW p0.E.Index.length aX,.slice bL p0.E.L.length bM]] en17 rfl rfl rfl (F17 k (p0 := p0) st4.has (SlR.mono (le1.trans (sp2.le.trans (le2.trans sp4.le))) cB) (SlR.mono (le1.trans (sp2.le.trans (le2.trans sp4.le))) eR) (SlR.mono (le1.trans (sp2.le.trans (le2.trans sp4.le))) Rp0_E_L) hr3) ?_
   rintro _ w5 ⟨a1,c1,a2,c2,h5,rfl,sp5,R2,R3⟩
   have st5 := st4.call0 sp5
   refine vv rfl (aE (.tuple #[.agg #[I r3.1.Op,I r3.1.N,.string r3.1.Name,.slice a1 r3.1.Index.length c1,.slice a2 r3.1.L.length c2],I r3.2]) rfl)<|vv rfl (bS (.agg #[I r3.1.Op,I r3.1.N,.string r3.1.Name,.slice a1 r3.1.Index.length c1,.slice a2 r3.1.L.length c2]) rfl rfl)<|vv rfl (bS (I r3.2) rfl rfl)<|cG (.agg #[I 0,I 0,.string ByteArray.empty,.slice none 0 0,.slice none 0 0]) zr31 rfl rfl (fun b3 w6 al3 => ?_)
   replace al3 : Al _ (.cells (List.toArray [I 0,I 0,.string ByteArray.empty,.slice none 0 0,.slice none 0 0]) 31 (0,0)) b3 w6 := al3
   have M1 := Mut.new st5 al3
   have lb1 := st5.alB al3
   have sp6 := al3.st st5.has
   have st6 := st5.call0 sp6
   refine aV (o := 0) (n := 5) [I r3.1.Op,I r3.1.N,.string r3.1.Name,.slice a1 r3.1.Index.length c1,.slice a2 r3.1.L.length c2] [I r3.1.Op,I r3.1.N,.string r3.1.Name,.slice a1 r3.1.Index.length c1,.slice a2 r3.1.L.length c2] (.agg #[I r3.1.Op,I r3.1.N,.string r3.1.Name,.slice a1 r3.1.Index.length c1,.slice a2 r3.1.L.length c2]) cP rfl rfl rfl rfl M1 rfl rfl rfl rfl rfl (fun w7 wr1 M2 => ?_)
   have sp7 := wr1.st st6.has M1.none
   have st7 := st6.call sp7 (fun x e => (.inl (e ▸ lb1)))
   obtain ⟨h6,le3,g3,st8,kp1⟩ := M2.fz st7 lb1
   refine vv rfl (aC (I r3.2) rfl)<|aD<|aB e6_14<|aB e6_15<|aA e6_16<|vv rfl (aE (I r3.2) rfl)<|vv rfl (aQ .neq .i64 r3.2 0 (.bool (!decide (r3.2 = 0))) 35 35 rfl rfl rfl)<|aD ?_
   rcases aM H with ⟨hc2,H⟩ | ⟨hc2,H⟩
   · refine fa e6_17 (bN (dT hc2)) rfl<|aL e6_21<|aB e6_22<|aB e6_23<|aA e6_24<|vv rfl (bH [I r3.1.Op,I r3.1.N,.string r3.1.Name,.slice a1 r3.1.Index.length c1,.slice a2 r3.1.L.length c2] dX cP rfl rfl (bA (st8.has _ _ g3) rfl)) ?_
     obtain ⟨r4,hr4,H⟩ := aK H
     refine aU [.agg #[I r3.1.Op,I r3.1.N,.string r3.1.Name,.slice a1 r3.1.Index.length c1,.slice a2 r3.1.L.length c2]] en18 rfl rfl rfl (F18 k (p0 := r3.1) st8.has (SlR.mono le3 R2) (SlR.mono le3 R3) hr4) ?_
     rintro _ w9 ⟨a3,c3,h8,rfl,sp8,R4⟩
     have st10 := st8.call0 sp8
     refine vv rfl (bK u28 rfl)<|vv rfl (aE (I 0) rfl)<|aD<|aT e6_25<|bZ e6_26 ?_
     exact Fl6_0 k (j4 := 0) st10 rfl rfl rfl rfl rfl rfl (SlR.mono (le1.trans (sp2.le.trans (le2.trans (sp4.le.trans (sp5.le.trans (le3.trans sp8.le)))))) cB) (SlR.mono (le1.trans (sp2.le.trans (le2.trans (sp4.le.trans (sp5.le.trans (le3.trans sp8.le)))))) eR) (SlR.mono (le1.trans (sp2.le.trans (le2.trans (sp4.le.trans (sp5.le.trans (le3.trans sp8.le)))))) Rp0_E_L) ((sp2.le.trans (le2.trans (sp4.le.trans (sp5.le.trans (le3.trans sp8.le))))) _ _ g1) (SlR.mono (le3.trans sp8.le) R2) (SlR.mono (le3.trans sp8.le) R3) (sp8.le _ _ g3) R4 rfl H
   refine tr e6_17 (bQ (dF hc2)) rfl<|aB e6_18<|aA e6_19 ?_
   obtain ⟨j3,hj3,H⟩ := dH H
   have Jj3 : ∀ {y1 : Bool} {σ1 : Env} {w8 : World} {h7 : Sto},Le h6 h7 → St w0 noM h0 h7 w8 → σ1 2 = .bool y1 → j3 y1 = some r → Run X6 [.code c6_20,.code c6_22] σ1 w8 (.fn (Q6 w0 h0 r)) := by
    intro y1 σ1 w8 h7 le4 st9 s2_j3 H
    rw [hj3] at H
    cases H
    exact aJ e6_20 (cD Try.results6 s2_j3 ⟨h7,rfl,st9⟩)
   refine vv rfl (aE (.bool r1) rfl)<|vv rfl (aE (.bool r1) rfl) ?_
   rcases aM H with ⟨hc3,H⟩ | ⟨hc3,H⟩
   · refine bC (wt2 hc3 rfl) rfl (aE (I r3.2) rfl)<|bC (wt2 hc3 rfl) rfl (aQ .eql .i64 r3.2 1 (.bool (decide (r3.2 = 1))) 35 35 rfl rfl rfl)<|vv rfl (dD (.bool (decide (r3.2 = 1))) hc3 rfl rfl)<|vv rfl (aC (.bool (decide (r3.2 = 1))) rfl)<|aD ?_
     exact Jj3 (Le.refl _) st8 rfl H
   refine aO (wf2 (bY hc3) rfl) rfl<|aO (wf2 (bY hc3) rfl) rfl<|vv rfl (dE (.bool false) (bY hc3) rfl rfl)<|vv rfl (aC (.bool false) rfl)<|aD ?_
   exact Jj3 (Le.refl _) st8 rfl H
 refine tr e6_7 (bQ (bY hc1)) rfl<|aB e6_8<|aA e6_9<|vv rfl (aE (.bool r1) rfl)<|vv rfl (aC (.bool r1) rfl)<|aD ?_
 cases H
 exact aJ e6_10 (cD Try.results6 rfl ⟨h4,rfl,st4⟩)
class Wf (α : Type) where
  wf : α → Prop
instance : Wf Int := ⟨fun n => -9223372036854775808 ≤ n ∧ n ≤ 9223372036854775807⟩
instance : Wf Bool := ⟨fun _ => True⟩
instance : Wf ByteArray := ⟨fun s => s.size ≤ 140737488351232⟩
instance {α : Type} [Wf α] : Wf (List α) := ⟨fun l => l.length ≤ 140737488351232 ∧ ∀ x ∈ l, Wf.wf x⟩
def Ev {α : Type} (m : Nat → Option α) (r : α) : Prop := ∃ K, ∀ k, K ≤ k → m k = some r
theorem Ev.ret {α : Type} (r : α) : Ev (fun _ => some r) r := ⟨0, fun _ _ => rfl⟩
theorem Ev.of {α : Type} {m : Option α} {r : α} (h : m = some r) : Ev (fun _ => m) r := ⟨0, fun _ _ => h⟩
theorem Ev.bind {α β : Type} {m : Nat → Option α} {f : Nat → α → Option β} {r : α} {s : β} (h : Ev m r) (h2 : Ev (fun k => f k r) s) : Ev (fun k => (m k).bind (f k)) s := by
  obtain ⟨K, hK⟩ := h
  obtain ⟨K2, hK2⟩ := h2
  exact ⟨max K K2, fun k hk => by show (m k).bind (f k) = some s; rw [hK k (by omega)]; exact hK2 k (by omega)⟩
theorem Ev.step {α : Type} {m : Nat → Option α} {r : α} (h : Ev (fun k => m (k + 1)) r) : Ev m r := by
  obtain ⟨K, hK⟩ := h
  exact ⟨K + 1, fun k hk => by
    obtain ⟨j, rfl⟩ : ∃ j, k = j + 1 := ⟨k - 1, by omega⟩
    exact hK j (by omega)⟩
theorem Ev.pos {α : Type} {c : Prop} [Decidable c] {a b : Nat → Option α} {r : α} (hc : c) (h : Ev a r) : Ev (fun k => if c then a k else b k) r := by
  simpa only [if_pos hc] using h
theorem Ev.neg {α : Type} {c : Prop} [Decidable c] {a b : Nat → Option α} {r : α} (hc : ¬ c) (h : Ev b r) : Ev (fun k => if c then a k else b k) r := by
  simpa only [if_neg hc] using h
theorem Ev.ite {α : Type} {c : Prop} [Decidable c] {a b : Nat → Option α} {r s : α} (ha : c → Ev a r) (hb : ¬ c → Ev b s) : Ev (fun k => if c then a k else b k) (if c then r else s) := by
  by_cases hc : c
  · simpa only [if_pos hc] using ha hc
  · simpa only [if_neg hc] using hb hc
theorem Ev.jn {J R : Type} {j : Nat → J} {b : Nat → J → Option R} {r : R} (h : Ev (fun k => b k (j k)) r) : Ev (fun k => jn (j k) (b k)) r := h
theorem Ev.run {α : Type} {m : Nat → Option α} {r : α} (h : Ev m r) : ∃ k, m k = some r := by
  obtain ⟨K, hK⟩ := h; exact ⟨K, hK K (Nat.le_refl _)⟩
theorem Ev.congr {α : Type} {m : Nat → Option α} {r s : α} (h : Ev m r) (e : r = s) : Ev m s := e ▸ h
def Evs (p : Nat → Prop) : Prop := ∃ K, ∀ k, K ≤ k → p k
theorem Evs.use {α : Type} {m : Nat → Option α} {r : α} {p : Nat → Prop} (h : Ev m r) (h2 : Evs (fun k => m k = some r → p k)) : Evs p := by
  obtain ⟨K, hK⟩ := h
  obtain ⟨L, hL⟩ := h2
  exact ⟨max K L, fun k hk => hL k (by omega) (hK k (by omega))⟩
theorem Evs.now {p : Nat → Prop} (h : ∀ k, p k) : Evs p := ⟨0, fun k _ => h k⟩
theorem Evs.ev {α : Type} {m : Nat → Option α} {r : α} (h : Evs (fun k => m k = some r)) : Ev m r := h
theorem Evs.step {α : Type} {m : Nat → Option α} {r : α} (h : Evs (fun k => m (k + 1) = some r)) : Ev m r := Ev.step h
def Tot {α : Type} (m : Nat → Option α) (P : α → Prop) : Prop := ∃ r, Ev m r ∧ P r
section tot
variable {α β : Type} {P : α → Prop} {m : Nat → Option α}
theorem Tot.ret {r : α} (h : P r) : Tot (fun _ => some r) P := ⟨r, Ev.ret r, h⟩
theorem Tot.ev {r : α} (h : Ev m r) (hp : P r) : Tot m P := ⟨r, h, hp⟩
theorem Tot.bind {m : Nat → Option β} {f : Nat → β → Option α} {Q : β → Prop} (h : Tot m Q) (hf : ∀ r, Q r → Tot (fun k => f k r) P) : Tot (fun k => (m k).bind (f k)) P := by
  obtain ⟨r, h1, h2⟩ := h
  obtain ⟨s, h3, h4⟩ := hf r h2
  exact ⟨s, h1.bind h3, h4⟩
theorem Tot.ite {c : Prop} [Decidable c] {a b : Nat → Option α} (ha : c → Tot a P) (hb : ¬ c → Tot b P) : Tot (fun k => if c then a k else b k) P := by
  by_cases hc : c
  · simpa only [if_pos hc] using ha hc
  · simpa only [if_neg hc] using hb hc
theorem Tot.pos {c : Prop} [Decidable c] {a b : Nat → Option α} (hc : c) (ha : Tot a P) : Tot (fun k => if c then a k else b k) P := by
  simpa only [if_pos hc] using ha
theorem Tot.neg {c : Prop} [Decidable c] {a b : Nat → Option α} (hc : ¬ c) (ha : Tot b P) : Tot (fun k => if c then a k else b k) P := by
  simpa only [if_neg hc] using ha
theorem Tot.step (h : Tot (fun k => m (k + 1)) P) : Tot m P := by
  obtain ⟨r, h1, h2⟩ := h
  exact ⟨r, h1.step, h2⟩
theorem Tot.jn {J : Type} {j : Nat → J} {b : Nat → J → Option α} (h : Tot (fun k => b k (j k)) P) : Tot (fun k => jn (j k) (b k)) P := h
theorem Tot.mono {Q : α → Prop} (h : Tot m Q) (hq : ∀ r, Q r → P r) : Tot m P := by
  obtain ⟨r, h1, h2⟩ := h
  exact ⟨r, h1, hq r h2⟩
theorem Tot.run (h : Tot m P) : ∃ k r, m k = some r ∧ P r := by
  obtain ⟨r, ⟨K, hK⟩, h2⟩ := h
  exact ⟨K, r, hK K (Nat.le_refl _), h2⟩
theorem Tot.is {r : α} (h : Tot m (· = r)) : Ev m r := by
  obtain ⟨s, h1, rfl⟩ := h; exact h1
theorem Ev.is {r : α} (h : Ev m r) : Tot m (· = r) := ⟨r, h, rfl⟩
theorem Tot.run1 {r : α} (h : Tot m (· = r)) : ∃ k, m k = some r := h.is.run
theorem Tot.at_ {l : List β} {i : Int} {f : Nat → β → Option α} (h0 : 0 ≤ i) (h1 : i < l.length) (hf : ∀ x, l[i.toNat]? = some x → Tot (fun k => f k x) P) : Tot (fun k => (idx l i).bind (f k)) P := by
  have hx : l[i.toNat]? = some (l[i.toNat]'(by omega)) := List.getElem?_eq_getElem _
  refine Tot.bind (m := fun _ => idx l i) (Q := fun x => l[i.toNat]? = some x) ⟨_, Ev.of (by unfold idx; rw [if_pos h0, hx]), hx⟩ hf
theorem Tot.val {v : β} {f : Nat → β → Option α} (hf : Tot (fun k => f k v) P) : Tot (fun k => (some v).bind (f k)) P := hf
end tot
theorem idx_at {α : Type} {l : List α} {i : Int} {x : α} (h0 : 0 ≤ i) (h : l[i.toNat]? = some x) : idx l i = some x := by unfold idx; rw [if_pos h0, h]
instance : Wf GDecl := ⟨fun x => Wf.wf x.Name ∧ Wf.wf x.Shape ∧ Wf.wf x.Form ∧ Wf.wf x.Block⟩
inductive GNodeWf : GNode → Prop
  | mk (x : GNode) (hOp : Wf.wf x.Op) (hN : Wf.wf x.N) (hName : Wf.wf x.Name) (hIndex : Wf.wf x.Index) (hn : x.L.length ≤ 140737488351232) (hr : ∀ y ∈ x.L, GNodeWf y) : GNodeWf x
instance : Wf GNode := ⟨GNodeWf⟩
theorem GNodeWf.out {x : GNode} (h : GNodeWf x) : Wf.wf x.Op ∧ Wf.wf x.N ∧ Wf.wf x.Name ∧ Wf.wf x.Index ∧ x.L.length ≤ 140737488351232 ∧ ∀ y ∈ x.L, GNodeWf y := by cases h; exact ⟨‹_›, ‹_›, ‹_›, ‹_›, ‹_›, ‹_›⟩
instance : Wf GStmt := ⟨fun x => Wf.wf x.Name ∧ Wf.wf x.Index ∧ Wf.wf x.E⟩
instance : Wf GProg := ⟨fun x => Wf.wf x.D ∧ Wf.wf x.S⟩
theorem GNode.ind {P : GNode → Prop} (h : ∀ n, (∀ x ∈ n.L, P x) → P n) : ∀ n, P n :=
  GNode.rec (motive_1 := P) (motive_2 := fun l => ∀ x ∈ l, P x) (fun Op N Name Index L ih => h ⟨Op, N, Name, Index, L⟩ ih) (fun x hx => by cases hx)
    (fun x l h1 h2 y hy => by
      rcases List.mem_cons.1 hy with rfl | hy
      · exact h1
      · exact h2 y hy)
def kindF (c : Int) : Int := (m62 c).getD 0
theorem kind_some (c : Int) : ∃ v, m62 c = some v := by
  unfold m62 jn
  simp only [m63, m86, Option.bind_some]
  repeat' split
  all_goals exact ⟨_, rfl⟩
theorem kind_eq (c : Int) : m62 c = some (kindF c) := by
  obtain ⟨v, hv⟩ := kind_some c
  rw [kindF, hv]; rfl
theorem run_tot (s : ByteArray) (hs : s.size ≤ 140737488351232) : ∀ (d : Nat) (i : Int), 0 ≤ i → i ≤ s.size → (s.size : Int) - i = d → Tot (fun k => l64_0 k s i) (fun r => i ≤ r ∧ r ≤ s.size) := by
  intro d
  induction d with
  | zero =>
    intro i h0 h1 hd
    refine Tot.step ?_
    simp only [l64_0]
    refine Tot.jn (Tot.neg (by omega) (Tot.ret ⟨Int.le_refl _, h1⟩))
  | succ d ih =>
    intro i h0 h1 hd
    refine Tot.step ?_
    simp only [l64_0, kind_eq, Option.bind_some]
    have hn : wr (i + 1) = i + 1 := wr_id (by omega) (by omega)
    have hrec := (ih (i + 1) (by omega) (by omega) (by omega)).mono (P := fun r => i ≤ r ∧ r ≤ s.size) (fun r hr => ⟨by omega, hr.2⟩)
    refine Tot.jn (Tot.pos (by omega) (Tot.pos ⟨h0, by omega⟩ (Tot.ite (fun _ => ?_) (fun _ => Tot.pos ⟨h0, by omega⟩ (Tot.ite (fun _ => ?_) (fun _ => Tot.ret ⟨Int.le_refl _, h1⟩))))))
    · rw [hn]; exact hrec
    · rw [hn]; exact hrec
theorem word_tot (s : ByteArray) : Tot (fun k => m48 k s) (fun _ => True) := by
  simp only [m48, kind_eq, Option.bind_some, m64]
  refine Tot.jn (Tot.ite (fun _ => Tot.ret trivial) (fun h => Tot.ite (fun h16 => Tot.pos ⟨by omega, ?_⟩ (Tot.ite (fun _ => Tot.bind (run_tot s (by omega) s.size 0 (by omega) (by omega) (by omega)) (fun r _ => Tot.ret trivial)) (fun _ => Tot.ret trivial))) (fun _ => Tot.ret trivial)))
  rcases Nat.eq_zero_or_pos s.size with h1 | h1
  · exact absurd (ByteArray.ext (Array.eq_empty_of_size_eq_zero h1)) h
  · omega
noncomputable def wordF (s : ByteArray) : Bool := Classical.choose (word_tot s)
theorem word_ev (s : ByteArray) : Ev (fun k => m48 k s) (wordF s) := (Classical.choose_spec (word_tot s)).1
noncomputable def namedF (s : ByteArray) : Bool := wordF s && !decide (s = (⟨#[115, 117, 109]⟩ : ByteArray)) && !decide (s = (⟨#[116, 101, 110, 115, 111, 114]⟩ : ByteArray))
theorem named_ev (s : ByteArray) : Ev (fun k => m46 k s) (namedF s) := by
  unfold namedF
  simp only [m46]
  refine Ev.jn (Ev.bind (word_ev s) ?_)
  cases wordF s with
  | false => exact Ev.neg (by simp) (Ev.ret _)
  | true =>
    refine Ev.pos rfl ?_
    by_cases h : s = (⟨#[115, 117, 109]⟩ : ByteArray)
    · refine Ev.pos h ((Ev.ret _).congr ?_); simp [h]
    · refine Ev.neg h ((Ev.ret _).congr ?_); simp [h]
def anyI {α : Type} (p : α → Bool) : Nat → List α → Int
  | _, [] => -1
  | j, x :: l => if p x = true then (j : Int) else anyI p (j + 1) l
theorem anyI_lt {α : Type} (p : α → Bool) : ∀ (l : List α) (j : Nat), (anyI p j l < 0 ↔ ∀ x ∈ l, p x = false)
  | [], j => by simp [anyI]
  | x :: l, j => by
    unfold anyI
    cases h : p x with
    | false => simp [h, anyI_lt p l (j + 1)]
    | true => simp [h]; try omega
theorem anyI_dec {α : Type} (p : α → Bool) (l : List α) (j : Nat) : decide (0 ≤ anyI p j l) = l.any p := by
  have := anyI_lt p l j
  cases h : l.any p with
  | true =>
    have : ¬ anyI p j l < 0 := fun e => by
      rw [this] at e
      obtain ⟨x, hx, hp⟩ := List.any_eq_true.1 h
      rw [e x hx] at hp; cases hp
    simp; omega
  | false =>
    have h2 : anyI p j l < 0 := this.2 (fun x hx => by simpa using List.any_eq_false.1 h x hx)
    simp; omega
theorem indexed1_ev : ∀ (l : List ByteArray) (j : Nat), Ev (fun k => l92_0 k j l) (anyI (fun s => !namedF s) j l)
  | [], j => by refine Ev.step ?_; simp only [l92_0]; exact Ev.ret _
  | x :: l, j => by
    refine Ev.step ?_
    simp only [l92_0, m80, anyI]
    exact Ev.bind (Ev.bind (named_ev x) (Ev.ret _)) (Ev.ite (fun _ => Ev.ret _) (fun _ => indexed1_ev l (j + 1)))
noncomputable def fO (l : List ByteArray) : Bool := decide (l.length ≤ 4) && l.all namedF
theorem indexed_ev (l : List ByteArray) : Ev (fun k => m49 k l) (fO l) := by
  simp only [m49, m79, m92, fO]
  refine Ev.jn ?_
  by_cases h : l.length ≤ 4
  · refine Ev.pos (by omega) (Ev.bind (Ev.bind (indexed1_ev l 0) (Ev.ret _)) ((Ev.ret _).congr ?_))
    rw [anyI_dec]; simp [h, List.not_any_eq_all_not]
  · refine Ev.neg (by omega) ((Ev.ret _).congr ?_)
    simp [h]
def numF (n : Int) : Bool := decide (0 ≤ n) && decide (n < 1000000000000000000)
theorem number1_ev : ∀ (l : List Int) (j : Nat), Ev (fun k => l91_0 k j l) (anyI (fun s => !numF s) j l)
  | [], j => by refine Ev.step ?_; simp only [l91_0]; exact Ev.ret _
  | x :: l, j => by
    refine Ev.step ?_
    simp only [l91_0, m78, anyI]
    refine Ev.bind (r := !numF x) (Ev.jn ?_) (Ev.ite (fun _ => Ev.ret _) (fun _ => number1_ev l (j + 1)))
    by_cases h : x < 0
    · refine Ev.pos h ((Ev.ret _).congr ?_); simp [numF, h]; try omega
    · refine Ev.neg h ((Ev.ret _).congr ?_)
      simp only [numF]
      rw [decide_eq_true (show 0 ≤ x by omega)]; simp
      by_cases h2 : x < 1000000000000000000 <;> simp [h2] <;> omega
theorem number_ev (l : List Int) : Ev (fun k => m47 k l) (l.all numF) := by
  simp only [m47, m77, m91]
  refine Ev.bind (Ev.bind (number1_ev l 0) (Ev.ret _)) ((Ev.ret _).congr ?_)
  rw [anyI_dec]; simp [List.not_any_eq_all_not]
def kidsF (op : Int) : Int := (m61 op).getD 0
theorem kids_some (op : Int) : ∃ v, m61 op = some v ∧ v ≤ 2 := by
  unfold m61
  repeat' split
  all_goals exact ⟨_, rfl, by decide⟩
theorem kids_eq (op : Int) : m61 op = some (kidsF op) := by
  obtain ⟨v, hv, _⟩ := kids_some op
  rw [kidsF, hv]; rfl
theorem kidsF_le (op : Int) : kidsF op ≤ 2 := by
  obtain ⟨v, hv, h⟩ := kids_some op
  rw [kidsF, hv]; exact h
mutual
def dS : GNode → Nat
  | ⟨_, _, _, _, l⟩ => 1 + eE l
def eE : List GNode → Nat
  | [] => 0
  | x :: l => dS x + eE l
end
theorem eS (n : GNode) : dS n = 1 + eE n.L := by cases n; simp [dS]
noncomputable def headF (n : GNode) : Bool :=
  decide (kidsF n.Op = (n.L.length : Int)) &&
    (if n.Op = 1 then numF n.N && decide (n.Name = ByteArray.empty) && decide (n.Index.length = 0)
     else if n.Op = 2 then decide (n.N = 0) && namedF n.Name && fO n.Index
     else if n.Op = 7 then decide (n.N = 0) && namedF n.Name && decide (n.Index.length = 0)
     else decide (n.N = 0) && decide (n.Name = ByteArray.empty) && decide (n.Index.length = 0))
noncomputable def okN : Nat → GNode → Bool
  | 0, _ => false
  | d + 1, n => headF n && n.L.all (okN d)
theorem nodes_lt : ∀ (d : Nat) (n : GNode), okN d n = true → dS n < 2 ^ d
  | 0, n, h => by simp [okN] at h
  | d + 1, n, h => by
    simp only [okN, Bool.and_eq_true, headF, decide_eq_true_eq] at h
    have hk := kidsF_le n.Op
    have hl : n.L.length ≤ 2 := by omega
    rw [eS]
    have each : ∀ x ∈ n.L, dS x < 2 ^ d := fun x hx => nodes_lt d x (List.all_eq_true.1 h.2 x hx)
    have hp : 2 ^ (d + 1) = 2 * 2 ^ d := by rw [Nat.pow_succ]; omega
    have hq : 0 < 2 ^ d := Nat.pow_pos (by decide)
    match hL : n.L with
    | [] => simp only [eE]; omega
    | [x] => rw [hL] at each; have := each x (by simp); simp only [eE]; omega
    | [x, y] => rw [hL] at each; have := each x (by simp); have := each y (by simp); simp only [eE]; omega
    | x :: y :: z :: l => rw [hL] at hl; simp at hl
theorem count_ev (d : Nat) (hd : d ≤ 40) : ∀ (n : GNode), Ev (fun k => m38 k n (d : Int)) (if okN d n = true then (dS n : Int) else -1) := by
  induction d with
  | zero =>
    intro n
    obtain ⟨i, hi⟩ : ∃ i : Int, i = ((0 : Nat) : Int) := ⟨_, rfl⟩
    have h0 : ¬ 0 < i := by omega
    rw [← hi]
    refine Evs.step (Evs.now (fun k => ?_))
    simp only [m38, okN, jn, if_neg h0]
    repeat' split
    all_goals simp_all
  | succ d ih =>
    have ih := ih (by omega)
    have hp : 2 ^ d ≤ 2 ^ 40 := Nat.pow_le_pow_right (by decide) (by omega)
    have loop : ∀ (l : List GNode) (i : Nat), i + l.length * 2 ^ d ≤ 2 ^ 60 → Ev (fun k => l38_0 k ((d + 1 : Nat) : Int) i l) (if l.all (okN d) = true then ((i + eE l : Nat) : Int) else -1) := by
      intro l
      induction l with
      | nil => intro i _; refine Ev.step ?_; simp only [l38_0]; exact (Ev.ret _).congr (by simp [eE])
      | cons x l ihl =>
        intro i hi
        refine Ev.step ?_
        simp only [l38_0]
        have hw : wr (((d + 1 : Nat) : Int) - 1) = (d : Int) := by rw [wr_id (by omega) (by omega)]; omega
        rw [hw]
        refine Ev.bind (ih x) ?_
        cases hx : okN d x with
        | false => exact Ev.pos (by simp) ((Ev.ret _).congr (by simp [hx]))
        | true =>
          have hlt := nodes_lt d x hx
          simp only [List.length_cons, Nat.succ_mul] at hi
          have e : wr ((i : Int) + (dS x : Int)) = ((i + dS x : Nat) : Int) := by rw [wr_id (by omega) (by omega)]; omega
          simp only [if_true]
          refine Ev.neg (by omega) ?_
          rw [e]
          exact (ihl (i + dS x) (by omega)).congr (by simp [hx, eE, Nat.add_assoc])
    intro n
    have hk := kidsF_le n.Op
    have h0 : 0 < ((d + 1 : Nat) : Int) := by omega
    by_cases hkk : kidsF n.Op = (n.L.length : Int)
    · have hb : n.L.length * 2 ^ d ≤ 2 * 2 ^ d := Nat.mul_le_mul_right _ (by omega)
      refine Evs.step (Evs.use (named_ev n.Name) (Evs.use (indexed_ev n.Index) (Evs.use (loop n.L 1 (by omega)) (Evs.now (fun k e3 e2 e1 => ?_)))))
      have e3' : l38_0 k ((d + 1 : Nat) : Int) 1 n.L = some (if n.L.all (okN d) = true then (dS n : Int) else -1) := by
        rw [eS]; exact e3
      simp only [m38, okN, jn, if_pos h0, kids_eq, Option.bind_some, decide_eq_true hkk, e1, e2, e3', headF, numF]
      clear e1 e2 e3 e3' loop ih hkk
      generalize namedF n.Name = bn; generalize fO n.Index = bi; generalize n.L.all (okN d) = ba; generalize dS n = nd; generalize n.N = N; generalize n.Name = Nm; generalize n.Index = Ix; generalize n.Op = Op
      by_cases h1 : Op = 1
      · simp only [h1, if_true]
        by_cases a1 : 0 ≤ N <;> by_cases a2 : N < 1000000000000000000 <;> by_cases a3 : Nm = ByteArray.empty <;> by_cases a4 : Ix = [] <;> cases ba <;> simp [a1, a2, a3, a4]
      by_cases h2 : Op = 2
      · simp only [h2, if_true]
        by_cases a1 : N = 0 <;> cases bn <;> cases bi <;> cases ba <;> simp [a1]
      by_cases h7 : Op = 7
      · simp only [h7, if_true]
        by_cases a1 : N = 0 <;> by_cases a4 : Ix = [] <;> cases bn <;> cases ba <;> simp [a1, a4]
      · simp only [h1, h2, h7, if_false]
        by_cases a1 : N = 0 <;> by_cases a3 : Nm = ByteArray.empty <;> by_cases a4 : Ix = [] <;> cases ba <;> simp [a1, a3, a4]
    · refine Evs.step (Evs.use (named_ev n.Name) (Evs.use (indexed_ev n.Index) (Evs.now (fun k e2 e1 => ?_))))
      simp only [m38, okN, jn, if_pos h0, kids_eq, Option.bind_some, decide_eq_false hkk, headF]
      simp
noncomputable def mayF (n : GNode) : Bool := okN 16 n && decide (dS n ≤ 120)
theorem may_ev (n : GNode) : Ev (fun k => m21 k n) (mayF n) := by
  simp only [m21]
  refine Ev.bind (count_ev 16 (by decide) n) (Ev.jn ?_)
  cases h : okN 16 n with
  | false => exact Ev.neg (by simp) ((Ev.ret _).congr (by simp [mayF, h]))
  | true =>
    have : 0 < dS n := by rw [eS]; omega
    simp only [if_true]
    refine Ev.pos (by omega) ((Ev.ret _).congr ?_)
    simp only [mayF, h, Bool.true_and, decide_eq_decide]; omega
noncomputable def declF (d : GDecl) : Bool := namedF d.Name && decide (d.Shape.length ≤ 4) && d.Shape.all numF && numF d.Block && wordF d.Form
noncomputable def stmtF (s : GStmt) : Bool := namedF s.Name && fO s.Index && mayF s.E
theorem check1_ev : ∀ (l : List GStmt) (b : Bool), Ev (fun k => l26_1 k b l) (if (b && l.all stmtF) = true then 0 else 1)
  | [], b => by
    refine Evs.step (Evs.now (fun k => ?_))
    simp only [l26_1]
    cases b <;> simp
  | s :: l, b => by
    refine Evs.step (Evs.use (named_ev s.Name) (Evs.use (indexed_ev s.Index) (Evs.use (may_ev s.E) (Evs.use (check1_ev l true) (Evs.use (check1_ev l false) (Evs.now (fun k e5 e4 e3 e2 e1 => ?_)))))))
    have hs : stmtF s = (namedF s.Name && fO s.Index && mayF s.E) := rfl
    generalize namedF s.Name = b1 at e1 hs; generalize fO s.Index = b2 at e2 hs; generalize mayF s.E = b3 at e3 hs
    cases b <;> cases b1 <;> cases b2 <;> cases b3 <;> simp only [l26_1, jn, e1, e2, e3, e4, e5, hs, Option.bind_some, List.all_cons, Bool.false_and, Bool.true_and, Bool.and_true, Bool.and_false, if_true, if_false, Bool.false_eq_true]
theorem check0_ev (p : GProg) : ∀ (l : List GDecl) (b : Bool), Ev (fun k => l26_0 k p b l) (if (b && l.all declF && p.S.all stmtF) = true then 0 else 1)
  | [], b => by
    refine Ev.step ?_
    simp only [l26_0]
    exact (check1_ev p.S b).congr (by simp)
  | s :: l, b => by
    refine Evs.step (Evs.use (named_ev s.Name) (Evs.use (number_ev s.Shape) (Evs.use (number_ev [s.Block]) (Evs.use (word_ev s.Form) (Evs.use (check0_ev p l true) (Evs.use (check0_ev p l false) (Evs.now (fun k e6 e5 e4 e3 e2 e1 => ?_))))))))
    have hs : declF s = (namedF s.Name && decide (s.Shape.length ≤ 4) && s.Shape.all numF && numF s.Block && wordF s.Form) := rfl
    simp only [List.all_cons, List.all_nil, Bool.and_true] at e3
    generalize namedF s.Name = b1 at e1 hs; generalize s.Shape.all numF = b2 at e2 hs; generalize numF s.Block = b3 at e3 hs; generalize wordF s.Form = b4 at e4 hs
    by_cases h : s.Shape.length ≤ 4
    · have h2 : (s.Shape.length : Int) ≤ 4 := by omega
      simp only [h, decide_true, Bool.and_true] at hs
      cases b <;> cases b1 <;> cases b2 <;> cases b3 <;> cases b4 <;> simp only [l26_0, jn, e1, e2, e3, e4, e5, e6, hs, h2, Option.bind_some, List.all_cons, Bool.false_and, Bool.true_and, Bool.and_true, Bool.and_false, if_true, if_false, Bool.false_eq_true]
    · have h2 : ¬ (s.Shape.length : Int) ≤ 4 := by omega
      simp only [h, decide_false, Bool.and_false, Bool.false_and] at hs
      cases b <;> cases b1 <;> simp only [l26_0, jn, e1, e6, hs, h2, Option.bind_some, List.all_cons, Bool.false_and, Bool.and_false, if_true, if_false, Bool.false_eq_true]
noncomputable def checkF (p : GProg) : Bool := decide (p.D.length ≤ 32) && decide (p.S.length ≤ 32) && p.D.all declF && p.S.all stmtF
theorem check_ev (p : GProg) : Ev (fun k => m26 k p) (if checkF p = true then 0 else 1) := by
  simp only [m26]
  have e2 : decide ((p.S.length : Int) ≤ 32) = decide (p.S.length ≤ 32) := by rw [decide_eq_decide]; omega
  rw [e2]
  refine Ev.jn ?_
  by_cases h : p.D.length ≤ 32
  · refine Ev.pos (by omega) ((check0_ev p p.D _).congr ?_)
    simp [checkF, h]
  · refine Ev.neg (by omega) ((check0_ev p p.D _).congr ?_)
    simp [checkF, h]
theorem check1s (s : GStmt) : checkF ⟨[], [s]⟩ = stmtF s := by simp [checkF]
theorem index1_ev (v : ByteArray) : ∀ (l : List ByteArray) (j : Nat), Ev (fun k => l50_0 k v j l) (anyI (fun n => decide (v = n)) j l)
  | [], j => by refine Ev.step ?_; simp only [l50_0]; exact Ev.ret _
  | x :: l, j => by
    refine Ev.step ?_
    simp only [l50_0, anyI, decide_eq_true_eq]
    exact Ev.ite (fun _ => Ev.ret _) (fun _ => index1_ev v l (j + 1))
def hasF (l : List ByteArray) (v : ByteArray) : Bool := l.any (fun n => decide (v = n))
theorem hasF_mem {l : List ByteArray} {v : ByteArray} : hasF l v = true ↔ v ∈ l := by simp [hasF]
theorem contains_ev (l : List ByteArray) (v : ByteArray) : Ev (fun k => m28 k l v) (hasF l v) := by
  simp only [m28, m50]
  exact Ev.bind (index1_ev v l 0) ((Ev.ret _).congr (anyI_dec _ _ _))
mutual
def refsF : GNode → List GNode
  | ⟨op, n, nm, ix, l⟩ => if op = 2 then [⟨op, n, nm, ix, l⟩] else refsL l
def refsL : List GNode → List GNode
  | [] => []
  | x :: l => refsF x ++ refsL l
end
theorem refsF_eq (n : GNode) : refsF n = if n.Op = 2 then [n] else refsL n.L := by cases n; simp [refsF]
theorem refs_len : ∀ n : GNode, (refsF n).length ≤ dS n := by
  apply GNode.ind
  intro n ih
  have hl : ∀ l : List GNode, (∀ x ∈ l, (refsF x).length ≤ dS x) → (refsL l).length ≤ eE l := by
    intro l
    induction l with
    | nil => intro _; simp [refsL]
    | cons x l ihl =>
      intro h
      have h1 := h x (by simp)
      have h2 := ihl (fun y hy => h y (by simp [hy]))
      simp only [refsL, eE, List.length_append]; omega
  have := hl n.L ih
  rw [refsF_eq, eS]
  split
  · simp
  · omega
theorem refs_ev : ∀ n : GNode, dS n ≤ 1000000 → Ev (fun k => m12 k n) (refsF n) := by
  apply GNode.ind
  intro n ih hn
  rw [eS] at hn
  have loop : ∀ (l : List GNode) (acc : List GNode), (∀ x ∈ l, x ∈ n.L) → acc.length + eE l ≤ 1000000 → Ev (fun k => l12_0 k acc l) (acc ++ refsL l) := by
    intro l
    induction l with
    | nil => intro acc _ _; refine Ev.step ?_; simp only [l12_0]; exact (Ev.ret _).congr (by simp [refsL])
    | cons x l ihl =>
      intro acc hx hl
      simp only [eE] at hl
      have h1 := refs_len x
      refine Ev.step ?_
      simp only [l12_0]
      refine Ev.bind (ih x (hx x (by simp)) (by omega)) (Ev.pos (by simp only [apl]; omega) ((ihl (acc ++ refsF x) (fun y hy => hx y (by simp [hy])) (by rw [List.length_append]; omega)).congr ?_))
      simp [refsL]
  refine Ev.step ?_
  simp only [m12]
  rw [refsF_eq]
  exact Ev.ite (fun _ => Ev.ret _) (fun _ => (loop n.L [] (fun _ h => h) (by simp; omega)).congr (by simp))
theorem indexedF_len {l : List ByteArray} (h : fO l = true) : l.length ≤ 4 := by
  simp only [fO, Bool.and_eq_true, decide_eq_true_eq] at h; exact h.1
theorem refs_okN : ∀ (d : Nat) (n : GNode), okN d n = true → ∀ x ∈ refsF n, x.Op = 2 ∧ x.Index.length ≤ 4 ∧ namedF x.Name = true ∧ fO x.Index = true ∧ x.L = [] ∧ x.N = 0
  | 0, n, h, _, _ => by simp [okN] at h
  | d + 1, n, h, x, hx => by
    simp only [okN, Bool.and_eq_true] at h
    rw [refsF_eq] at hx
    split at hx
    · rename_i h2
      have hh := h.1
      simp only [headF, h2, Bool.and_eq_true, decide_eq_true_eq] at hh
      obtain rfl := List.mem_singleton.1 hx
      have h3 : kidsF 2 = 0 := rfl
      have h4 := hh.2
      rw [if_neg (by decide), if_pos trivial] at h4
      simp only [Bool.and_eq_true, decide_eq_true_eq] at h4
      refine ⟨h2, indexedF_len h4.2, h4.1.2, h4.2, ?_, h4.1.1⟩
      exact List.length_eq_zero_iff.1 (by have := hh.1; omega)
    · have aux : ∀ l : List GNode, (∀ y ∈ l, okN d y = true) → x ∈ refsL l → x.Op = 2 ∧ x.Index.length ≤ 4 ∧ namedF x.Name = true ∧ fO x.Index = true ∧ x.L = [] ∧ x.N = 0 := by
        intro l
        induction l with
        | nil => intro _ h; simp [refsL] at h
        | cons y l ih =>
          intro h1 h2
          simp only [refsL, List.mem_append] at h2
          rcases h2 with h2 | h2
          · exact refs_okN d y (h1 y (by simp)) x h2
          · exact ih (fun z hz => h1 z (by simp [hz])) h2
      exact aux n.L (List.all_eq_true.1 h.2) hx
theorem stmt_parts {s : GStmt} (h : stmtF s = true) : namedF s.Name = true ∧ fO s.Index = true ∧ okN 16 s.E = true ∧ dS s.E ≤ 120 := by
  simp only [stmtF, mayF, Bool.and_eq_true, decide_eq_true_eq] at h
  exact ⟨h.1.1, h.1.2, h.2.1, h.2.2⟩
theorem few0_tot (n : GNode) (d : Int) (h : Tot (fun k => l25_1 k d n.L) (fun _ => True)) : ∀ l : List ByteArray, Tot (fun k => l25_0 k n d l) (fun _ => True)
  | [] => by refine Tot.step ?_; simp only [l25_0]; exact h
  | x :: l => by refine Tot.step ?_; simp only [l25_0]; exact Tot.ite (fun _ => Tot.ret trivial) (fun _ => few0_tot n d h l)
theorem few_tot : ∀ (n : GNode) (d : Int), Tot (fun k => m25 k n d) (fun _ => True) := by
  apply GNode.ind
  intro n ih d
  have loop : ∀ l : List GNode, (∀ x ∈ l, x ∈ n.L) → Tot (fun k => l25_1 k d l) (fun _ => True) := by
    intro l
    induction l with
    | nil => intro _; refine Tot.step ?_; simp only [l25_1]; exact Tot.ret trivial
    | cons x l ihl =>
      intro hx
      refine Tot.step ?_
      simp only [l25_1]
      exact Tot.bind (ih x (hx x (by simp)) _) (fun _ _ => Tot.ite (fun _ => ihl (fun y hy => hx y (by simp [hy]))) (fun _ => Tot.ret trivial))
  refine Tot.step ?_
  simp only [m25]
  exact Tot.ite (fun _ => Tot.ret trivial) (fun _ => Tot.ite (fun _ => Tot.ret trivial) (fun _ => Tot.ite (fun _ => Tot.ret trivial) (fun _ => Tot.ite (fun _ => Tot.ret trivial) (fun _ => few0_tot n d (loop n.L (fun _ h => h)) n.Index))))
theorem fewP2_tot (p : GProg) (xs : List GStmt) (h : Tot (fun k => l9_1 k p xs) (fun _ => True)) : ∀ l : List ByteArray, Tot (fun k => l9_2 k p xs l) (fun _ => True)
  | [] => by refine Tot.step ?_; simp only [l9_2]; exact h
  | x :: l => by refine Tot.step ?_; simp only [l9_2]; exact Tot.ite (fun _ => Tot.ret trivial) (fun _ => fewP2_tot p xs h l)
theorem fewP1_tot (p : GProg) : ∀ xs : List GStmt, Tot (fun k => l9_1 k p xs) (fun _ => True)
  | [] => by refine Tot.step ?_; simp only [l9_1]; exact Tot.jn (Tot.ite (fun _ => Tot.ret trivial) (fun _ => Tot.ret trivial))
  | x :: xs => by
    refine Tot.step ?_
    simp only [l9_1]
    exact Tot.bind (few_tot _ _) (fun _ _ => Tot.ite (fun _ => Tot.ite (fun _ => Tot.ret trivial) (fun _ => Tot.ite (fun _ => Tot.ret trivial) (fun _ => fewP2_tot p xs (fewP1_tot p xs) _))) (fun _ => Tot.ret trivial))
theorem fewP0_tot (p : GProg) : ∀ xs : List GDecl, Tot (fun k => l9_0 k p xs) (fun _ => True)
  | [] => by refine Tot.step ?_; simp only [l9_0]; exact fewP1_tot p p.S
  | x :: xs => by
    refine Tot.step ?_
    simp only [l9_0]
    exact Tot.ite (fun _ => Tot.ret trivial) (fun _ => Tot.ite (fun _ => Tot.ret trivial) (fun _ => fewP0_tot p xs))
theorem fewProg_tot (p : GProg) : Tot (fun k => m9 k p) (fun _ => True) := fewP0_tot p p.D
theorem live_at (j : Nat) : m8 (j + 200) = some true := by kernel_rfl
theorem live_ev : Ev (fun k => m8 k) true := ⟨200, fun k hk => by
  obtain ⟨j, rfl⟩ : ∃ j, k = j + 200 := ⟨k - 200, by omega⟩
  exact live_at j⟩
theorem has_ev (s : ByteArray) : ∀ l : List ByteArray, Ev (fun k => l19_0 k s l) (hasF l s)
  | [] => by refine Ev.step ?_; simp only [l19_0]; exact Ev.ret _
  | x :: l => by
    refine Ev.step ?_
    simp only [l19_0]
    by_cases h : x = s
    · exact Ev.pos h ((Ev.ret _).congr (by simp [hasF, h]))
    · refine Ev.neg h ((has_ev s l).congr ?_)
      have h2 : ¬ s = x := fun e => h e.symm
      simp [hasF, h2]
def metF (bound : List ByteArray) : List ByteArray → List ByteArray → List ByteArray
  | [], met => met
  | x :: xs, met => metF bound xs (if hasF bound x = true then met else if hasF met x = true then met else met ++ [x])
mutual
def freeA : GNode → List ByteArray → List ByteArray → List ByteArray
  | ⟨op, _, nm, ix, l⟩, bound, met => if op = 2 then metF bound ix met else if op = 7 then freeL l (bound ++ [nm]) met else freeL l bound met
def freeL : List GNode → List ByteArray → List ByteArray → List ByteArray
  | [], _, met => met
  | x :: l, bound, met => freeL l bound (freeA x bound met)
end
theorem freeA_eq (n : GNode) (bound met : List ByteArray) : freeA n bound met = if n.Op = 2 then metF bound n.Index met else if n.Op = 7 then freeL n.L (bound ++ [n.Name]) met else freeL n.L bound met := by
  cases n; simp [freeA]
mutual
def idxF : GNode → Nat
  | ⟨op, _, _, ix, l⟩ => if op = 2 then ix.length else idxL l
def idxL : List GNode → Nat
  | [] => 0
  | x :: l => idxF x + idxL l
end
theorem idxF_eq (n : GNode) : idxF n = if n.Op = 2 then n.Index.length else idxL n.L := by cases n; simp [idxF]
theorem metF_len (bound : List ByteArray) : ∀ (ix met : List ByteArray), (metF bound ix met).length ≤ met.length + ix.length
  | [], met => by simp [metF]
  | x :: ix, met => by
    unfold metF
    have := metF_len bound ix (if hasF bound x = true then met else if hasF met x = true then met else met ++ [x])
    simp only [List.length_cons]
    have h2 : (if hasF bound x = true then met else if hasF met x = true then met else met ++ [x]).length ≤ met.length + 1 := by
      split
      · omega
      · split
        · omega
        · simp
    omega
theorem free_len : ∀ (n : GNode) (bound met : List ByteArray), (freeA n bound met).length ≤ met.length + idxF n := by
  apply GNode.ind
  intro n ih bound met
  have hl : ∀ (l : List GNode), (∀ x ∈ l, x ∈ n.L) → ∀ (b m : List ByteArray), (freeL l b m).length ≤ m.length + idxL l := by
    intro l
    induction l with
    | nil => intro _ b m; simp [freeL, idxL]
    | cons x l ihl =>
      intro hx b m
      have h1 := ih x (hx x (by simp)) b m
      have h2 := ihl (fun y hy => hx y (by simp [hy])) b (freeA x b m)
      simp only [freeL, idxL]; omega
  rw [freeA_eq, idxF_eq]
  split
  · exact metF_len _ _ _
  · split
    · exact hl n.L (fun _ h => h) _ _
    · exact hl n.L (fun _ h => h) _ _
theorem met_ev (bound : List ByteArray) : ∀ (ix met : List ByteArray), met.length + ix.length ≤ 1000000 → Ev (fun k => l35_0 k bound met ix) (metF bound ix met)
  | [], met, _ => by refine Ev.step ?_; simp only [l35_0, metF]; exact Ev.ret _
  | x :: ix, met, hl => by
    simp only [List.length_cons] at hl
    refine Ev.step ?_
    simp only [l35_0, metF]
    refine Ev.jn (Ev.bind (contains_ev bound x) ?_)
    by_cases h1 : hasF bound x = true
    · exact Ev.pos h1 ((met_ev bound ix met (by omega)).congr (by rw [if_pos h1]))
    · refine Ev.neg h1 (Ev.bind (contains_ev met x) ?_)
      by_cases h2 : hasF met x = true
      · exact Ev.pos h2 ((met_ev bound ix met (by omega)).congr (by rw [if_neg h1, if_pos h2]))
      · exact Ev.neg h2 (Ev.pos (by simp only [apl, List.length_singleton]; omega) ((met_ev bound ix (met ++ [x]) (by simp; omega)).congr (by rw [if_neg h1, if_neg h2])))
theorem cl_ok {α : Type} {l : List α} (h : l.length ≤ 1000000) : cl l = some l := by unfold cl; rw [if_pos (by omega)]
theorem free_ev : ∀ (n : GNode) (bound met : List ByteArray), bound.length + dS n ≤ 1000000 → met.length + idxF n ≤ 1000000 → Ev (fun k => m35 k n bound met) (freeA n bound met) := by
  apply GNode.ind
  intro n ih bound met hb hm
  rw [eS] at hb
  rw [idxF_eq] at hm
  have loop : ∀ (l : List GNode), (∀ x ∈ l, x ∈ n.L) → ∀ (b m : List ByteArray), b.length + eE l ≤ 1000000 → m.length + idxL l ≤ 1000000 → Ev (fun k => l35_1 k b m l) (freeL l b m) := by
    intro l
    induction l with
    | nil => intro _ b m _ _; refine Ev.step ?_; simp only [l35_1, freeL]; exact Ev.ret _
    | cons x l ihl =>
      intro hx b m h1 h2
      simp only [eE] at h1
      simp only [idxL] at h2
      have h3 := free_len x b m
      refine Ev.step ?_
      simp only [l35_1, freeL]
      exact Ev.bind (ih x (hx x (by simp)) b m (by omega) (by omega)) (ihl (fun y hy => hx y (by simp [hy])) b _ (by omega) (by omega))
  refine Ev.step ?_
  simp only [m35]
  rw [freeA_eq]
  by_cases h2 : n.Op = 2
  · rw [if_pos h2] at hm
    exact Ev.pos h2 ((met_ev bound n.Index met hm).congr (by rw [if_pos h2]))
  · rw [if_neg h2] at hm
    refine Ev.neg h2 (Ev.jn ?_)
    by_cases h7 : n.Op = 7
    · refine Ev.pos h7 (Ev.jn (Ev.bind (Ev.of (cl_ok (by omega))) (Ev.pos (by simp only [apl, List.length_singleton]; omega) ((loop n.L (fun _ h => h) (bound ++ [n.Name]) met (by simp; omega) hm).congr ?_))))
      rw [if_neg h2, if_pos h7]
    · exact Ev.neg h7 ((loop n.L (fun _ h => h) bound met (by omega) hm).congr (by rw [if_neg h2, if_neg h7]))
def freeF (n : GNode) : List ByteArray := freeA n [] []
theorem Free_ev (n : GNode) (h1 : dS n ≤ 1000000) (h2 : idxF n ≤ 1000000) : Ev (fun k => m18 k n) (freeF n) := by
  simp only [m18]
  exact Ev.bind (free_ev n [] [] (by simp; omega) (by simp; omega)) (Ev.ret _)
inductive Occ : GNode → ByteArray → Prop
  | ref (n : GNode) (x : ByteArray) (h : n.Op = 2) (hx : x ∈ n.Index) : Occ n x
  | sum (n c : GNode) (x : ByteArray) (h : n.Op = 7) (hc : c ∈ n.L) (hx : x ≠ n.Name) (ho : Occ c x) : Occ n x
  | other (n c : GNode) (x : ByteArray) (h2 : n.Op ≠ 2) (h7 : n.Op ≠ 7) (hc : c ∈ n.L) (ho : Occ c x) : Occ n x
theorem occ_inv {n : GNode} {x : ByteArray} (h : Occ n x) : (n.Op = 2 ∧ x ∈ n.Index) ∨ (n.Op = 7 ∧ x ≠ n.Name ∧ ∃ c ∈ n.L, Occ c x) ∨ (n.Op ≠ 2 ∧ n.Op ≠ 7 ∧ ∃ c ∈ n.L, Occ c x) := by
  cases h with
  | ref => exact .inl ⟨‹_›, ‹_›⟩
  | sum c => exact .inr (.inl ⟨‹_›, ‹_›, _, ‹_›, ‹_›⟩)
  | other c => exact .inr (.inr ⟨‹_›, ‹_›, _, ‹_›, ‹_›⟩)
theorem metF_mem (bound : List ByteArray) (x : ByteArray) : ∀ (ix met : List ByteArray), x ∈ metF bound ix met ↔ x ∈ met ∨ (x ∉ bound ∧ x ∈ ix)
  | [], met => by simp [metF]
  | y :: ix, met => by
    unfold metF
    rw [metF_mem bound x ix]
    by_cases h1 : hasF bound y = true
    · have := hasF_mem.1 h1
      rw [if_pos h1]
      constructor
      · rintro (h | ⟨h, h2⟩)
        · exact .inl h
        · exact .inr ⟨h, by simp [h2]⟩
      · rintro (h | ⟨h, h2⟩)
        · exact .inl h
        · rcases List.mem_cons.1 h2 with rfl | h2
          · exact absurd this h
          · exact .inr ⟨h, h2⟩
    · have hn : y ∉ bound := fun e => h1 (hasF_mem.2 e)
      rw [if_neg h1]
      by_cases h2 : hasF met y = true
      · have hm := hasF_mem.1 h2
        rw [if_pos h2]
        constructor
        · rintro (h | ⟨h, h2⟩)
          · exact .inl h
          · exact .inr ⟨h, by simp [h2]⟩
        · rintro (h | ⟨h, h2⟩)
          · exact .inl h
          · rcases List.mem_cons.1 h2 with rfl | h2
            · exact .inl hm
            · exact .inr ⟨h, h2⟩
      · rw [if_neg h2]
        constructor
        · rintro (h | ⟨h, h2⟩)
          · rcases List.mem_append.1 h with h | h
            · exact .inl h
            · obtain rfl := List.mem_singleton.1 h; exact .inr ⟨hn, by simp⟩
          · exact .inr ⟨h, by simp [h2]⟩
        · rintro (h | ⟨h, h2⟩)
          · exact .inl (List.mem_append.2 (.inl h))
          · rcases List.mem_cons.1 h2 with rfl | h2
            · exact .inl (by simp)
            · exact .inr ⟨h, h2⟩
theorem free_mem : ∀ (n : GNode) (bound met : List ByteArray) (x : ByteArray), x ∈ freeA n bound met ↔ x ∈ met ∨ (x ∉ bound ∧ Occ n x) := by
  apply GNode.ind
  intro n ih bound met x
  have hl : ∀ (l : List GNode), (∀ y ∈ l, y ∈ n.L) → ∀ (b m : List ByteArray), x ∈ freeL l b m ↔ x ∈ m ∨ (x ∉ b ∧ ∃ c ∈ l, Occ c x) := by
    intro l
    induction l with
    | nil => intro _ b m; simp [freeL]
    | cons y l ihl =>
      intro hy b m
      simp only [freeL]
      rw [ihl (fun z hz => hy z (by simp [hz])), ih y (hy y (by simp))]
      constructor
      · rintro ((h | ⟨h, h2⟩) | ⟨h, c, hc, h2⟩)
        · exact .inl h
        · exact .inr ⟨h, y, by simp, h2⟩
        · exact .inr ⟨h, c, by simp [hc], h2⟩
      · rintro (h | ⟨h, c, hc, h2⟩)
        · exact .inl (.inl h)
        · rcases List.mem_cons.1 hc with rfl | hc
          · exact .inl (.inr ⟨h, h2⟩)
          · exact .inr ⟨h, c, hc, h2⟩
  rw [freeA_eq]
  by_cases h2 : n.Op = 2
  · rw [if_pos h2, metF_mem]
    constructor
    · rintro (h | ⟨h, h3⟩)
      · exact .inl h
      · exact .inr ⟨h, .ref n x h2 h3⟩
    · rintro (h | ⟨h, h3⟩)
      · exact .inl h
      · rcases occ_inv h3 with ⟨_, hx⟩ | ⟨h7, _⟩ | ⟨hn, _⟩
        · exact .inr ⟨h, hx⟩
        · rw [h2] at h7; cases h7
        · exact absurd h2 hn
  · rw [if_neg h2]
    by_cases h7 : n.Op = 7
    · rw [if_pos h7, hl n.L (fun _ h => h)]
      constructor
      · rintro (h | ⟨h, c, hc, h3⟩)
        · exact .inl h
        · simp only [List.mem_append, List.mem_singleton, not_or] at h
          exact .inr ⟨h.1, .sum n c x h7 hc h.2 h3⟩
      · rintro (h | ⟨h, h3⟩)
        · exact .inl h
        · rcases occ_inv h3 with ⟨h2', _⟩ | ⟨_, hx, c, hc, ho⟩ | ⟨_, hn, _⟩
          · exact absurd h2' h2
          · exact .inr ⟨by simp [h, hx], c, hc, ho⟩
          · exact absurd h7 hn
    · rw [if_neg h7, hl n.L (fun _ h => h)]
      constructor
      · rintro (h | ⟨h, c, hc, h3⟩)
        · exact .inl h
        · exact .inr ⟨h, .other n c x h2 h7 hc h3⟩
      · rintro (h | ⟨h, h3⟩)
        · exact .inl h
        · rcases occ_inv h3 with ⟨h2', _⟩ | ⟨h7', _⟩ | ⟨_, _, c, hc, ho⟩
          · exact absurd h2' h2
          · exact absurd h7' h7
          · exact .inr ⟨h, c, hc, ho⟩
theorem freeF_mem (n : GNode) (x : ByteArray) : x ∈ freeF n ↔ Occ n x := by
  rw [freeF, free_mem]; simp
def wrapF (t : List ByteArray) (n : GNode) (fs : List ByteArray) : GNode := fs.foldl (fun n s => if hasF t s = true then n else ⟨7, 0, s, [], [n]⟩) n
mutual
def eI (t : List ByteArray) : GNode → GNode
  | ⟨op, n, nm, ix, l⟩ => if op = 3 ∨ op = 4 ∨ op = 6 then ⟨op, 0, ByteArray.empty, [], normL t l⟩ else wrapF t ⟨op, n, nm, ix, l⟩ (freeF ⟨op, n, nm, ix, l⟩).reverse
def normL (t : List ByteArray) : List GNode → List GNode
  | [] => []
  | x :: l => eI t x :: normL t l
end
theorem normF_eq (t : List ByteArray) (n : GNode) : eI t n = if n.Op = 3 ∨ n.Op = 4 ∨ n.Op = 6 then ⟨n.Op, 0, ByteArray.empty, [], normL t n.L⟩ else wrapF t n (freeF n).reverse := by
  cases n; simp [eI]
theorem normL_map (t : List ByteArray) : ∀ l : List GNode, normL t l = l.map (eI t)
  | [] => rfl
  | x :: l => by simp [normL, normL_map t l]
theorem GNode.eta_ (n : GNode) : (⟨n.Op, n.N, n.Name, n.Index, n.L⟩ : GNode) = n := by cases n; rfl
theorem wrap_ev (t : List ByteArray) : ∀ (fs : List ByteArray) (n : GNode), Ev (fun k => foldO (fun (s4 : Int × Int × ByteArray × (List ByteArray) × (List GNode)) (x1 : ByteArray) => (m28 k t x1).bind fun r5 => jn (fun (y1 : Int) (y2 : Int) (y3 : ByteArray) (y4 : (List ByteArray)) (y5 : (List GNode)) => some (y1, y2, y3, y4, y5)) fun j9 => if r5 = true then (j9 s4.1 s4.2.1 s4.2.2.1 s4.2.2.2.1 s4.2.2.2.2) else (j9 7 0 x1 ([] : (List ByteArray)) ([(⟨s4.1, s4.2.1, s4.2.2.1, s4.2.2.2.1, s4.2.2.2.2⟩ : GNode)] : List GNode))) (n.Op, n.N, n.Name, n.Index, n.L) fs)
    ((wrapF t n fs).Op, (wrapF t n fs).N, (wrapF t n fs).Name, (wrapF t n fs).Index, (wrapF t n fs).L)
  | [], n => by simp only [foldO, wrapF, List.foldl_nil]; exact Ev.ret _
  | s :: fs, n => by
    simp only [foldO]
    have ih := wrap_ev t fs (if hasF t s = true then n else ⟨7, 0, s, [], [n]⟩)
    refine Ev.bind (r := ((if hasF t s = true then n else ⟨7, 0, s, [], [n]⟩ : GNode).Op, (if hasF t s = true then n else ⟨7, 0, s, [], [n]⟩ : GNode).N, (if hasF t s = true then n else ⟨7, 0, s, [], [n]⟩ : GNode).Name, (if hasF t s = true then n else ⟨7, 0, s, [], [n]⟩ : GNode).Index, (if hasF t s = true then n else ⟨7, 0, s, [], [n]⟩ : GNode).L)) ?_ ih
    refine Ev.bind (contains_ev t s) (Ev.jn ?_)
    by_cases h : hasF t s = true
    · exact Ev.pos h ((Ev.ret _).congr (by simp only [if_pos h]))
    · exact Ev.neg h ((Ev.ret _).congr (by simp only [if_neg h, GNode.eta_]))
theorem in_place (t : List ByteArray) (f : Nat → List GNode → List GNode → Int → Option GNode) (op : Int)
    (hf : ∀ (k : Nat) (r l : List GNode) (i : Int), f (k + 1) r l i = if i < (r.length : Int) then ((idx l i).bind fun x => (m34 k x t).bind fun y => (idx l i).bind fun _ => f k r (l.set (i : Int).toNat y) (wr (i + 1))) else some ⟨op, 0, ByteArray.empty, [], l⟩) :
    ∀ (rest done r : List GNode), r.length = done.length + rest.length → r.length ≤ 1000000 → (∀ x ∈ rest, Ev (fun k => m34 k x t) (eI t x)) →
      Ev (fun k => f k r (done ++ rest) (done.length : Int)) ⟨op, 0, ByteArray.empty, [], done ++ normL t rest⟩
  | [], done, r, hr, _, _ => by
    refine Ev.step ?_
    simp only [hf]
    simp only [List.length_nil] at hr
    exact Ev.neg (by omega) ((Ev.ret _).congr (by simp [normL]))
  | x :: rest, done, r, hr, hb, hx => by
    refine Ev.step ?_
    simp only [hf]
    simp only [List.length_cons] at hr
    have hi : idx (done ++ x :: rest) (done.length : Int) = some x := idx_at (by omega) (by rw [Int.toNat_natCast]; simp)
    have hw : wr ((done.length : Int) + 1) = ((done.length + 1 : Nat) : Int) := by rw [wr_id (by omega) (by omega)]; omega
    rw [hi, hw]
    have ih := in_place t f op hf rest (done ++ [eI t x]) r (by simp; omega) hb (fun y hy => hx y (by simp [hy]))
    rw [List.length_append, List.length_singleton, List.append_assoc, List.singleton_append] at ih
    refine Ev.pos (by omega) (Ev.bind (Ev.ret x) (Ev.bind (hx x (by simp)) (Ev.bind (Ev.ret x) ?_)))
    have hset : (done ++ x :: rest).set ((done.length : Int) : Int).toNat (eI t x) = done ++ eI t x :: rest := by
      rw [Int.toNat_natCast, List.set_append_right _ _ (Nat.le_refl _)]; simp
    rw [hset]
    exact ih.congr (by simp [normL])
theorem nodesL_len : ∀ l : List GNode, l.length ≤ eE l
  | [] => by simp [eE]
  | x :: l => by
    have := nodesL_len l
    have h2 : 1 ≤ dS x := by rw [eS]; omega
    simp only [eE, List.length_cons]; omega
theorem nodesL_mem : ∀ (l : List GNode), ∀ x ∈ l, dS x ≤ eE l
  | [], x, h => by cases h
  | y :: l, x, h => by
    simp only [eE]
    rcases List.mem_cons.1 h with rfl | h
    · omega
    · have := nodesL_mem l x h; omega
theorem idxL_mem : ∀ (l : List GNode), ∀ x ∈ l, idxF x ≤ idxL l
  | [], x, h => by cases h
  | y :: l, x, h => by
    simp only [idxL]
    rcases List.mem_cons.1 h with rfl | h
    · omega
    · have := idxL_mem l x h; omega
theorem normal_ev (t : List ByteArray) : ∀ n : GNode, dS n ≤ 1000000 → idxF n ≤ 1000000 → Ev (fun k => m34 k n t) (eI t n) := by
  apply GNode.ind
  intro n ih h1 h2
  have h1' := h1
  rw [eS] at h1'
  have hlen := nodesL_len n.L
  have kids : n.Op ≠ 2 → ∀ x ∈ n.L, Ev (fun k => m34 k x t) (eI t x) := fun hn x hx => by
    rw [idxF_eq, if_neg hn] at h2
    have := nodesL_mem n.L x hx
    have := idxL_mem n.L x hx
    exact ih x hx (by omega) (by omega)
  refine Ev.step ?_
  simp only [m34]
  rw [normF_eq]
  by_cases h3 : n.Op = 3
  · refine Ev.pos h3 (Ev.bind (Ev.of (cl_ok (by omega))) ((in_place t (fun k r l i => l34_0 k n t r l i) n.Op (fun k r l i => by simp only [l34_0]) n.L [] n.L (by simp) (by omega) (kids (by omega))).congr ?_))
    simp [h3]
  refine Ev.neg h3 ?_
  by_cases h4 : n.Op = 4
  · refine Ev.pos h4 (Ev.bind (Ev.of (cl_ok (by omega))) ((in_place t (fun k r l i => l34_1 k n t r l i) n.Op (fun k r l i => by simp only [l34_1]) n.L [] n.L (by simp) (by omega) (kids (by omega))).congr ?_))
    simp [h4]
  refine Ev.neg h4 ?_
  by_cases h6 : n.Op = 6
  · refine Ev.pos h6 (Ev.bind (Ev.of (cl_ok (by omega))) ((in_place t (fun k r l i => l34_2 k n t r l i) n.Op (fun k r l i => by simp only [l34_2]) n.L [] n.L (by simp) (by omega) (kids (by omega))).congr ?_))
    simp [h6]
  refine Ev.neg h6 (Ev.bind (Free_ev n h1 h2) (Ev.bind (wrap_ev t (freeF n).reverse n) ((Ev.ret _).congr ?_)))
  simp [h3, h4, h6, GNode.eta_]
theorem wrapF_occ (t : List ByteArray) (x : ByteArray) : ∀ (fs : List ByteArray) (n : GNode), Occ (wrapF t n fs) x ↔ Occ n x ∧ (x ∈ fs → x ∈ t)
  | [], n => by simp [wrapF]
  | s :: fs, n => by
    have ih := wrapF_occ t x fs (if hasF t s = true then n else ⟨7, 0, s, [], [n]⟩)
    show Occ (wrapF t (if hasF t s = true then n else ⟨7, 0, s, [], [n]⟩) fs) x ↔ _
    rw [ih]
    by_cases h : hasF t s = true
    · rw [if_pos h]
      have hs := hasF_mem.1 h
      constructor
      · rintro ⟨h1, h2⟩
        exact ⟨h1, fun hx => by
          rcases List.mem_cons.1 hx with rfl | hx
          · exact hs
          · exact h2 hx⟩
      · rintro ⟨h1, h2⟩
        exact ⟨h1, fun hx => h2 (by simp [hx])⟩
    · rw [if_neg h]
      have hs : s ∉ t := fun e => h (hasF_mem.2 e)
      constructor
      · rintro ⟨h1, h2⟩
        rcases occ_inv h1 with ⟨e, _⟩ | ⟨_, hx, c, hc, ho⟩ | ⟨_, e, _⟩
        · cases e
        · obtain rfl := List.mem_singleton.1 hc
          exact ⟨ho, fun hm => by
            rcases List.mem_cons.1 hm with rfl | hm
            · exact absurd rfl hx
            · exact h2 hm⟩
        · exact absurd rfl e
      · rintro ⟨h1, h2⟩
        refine ⟨.sum _ n x rfl (by simp) (fun e => ?_) h1, fun hx => h2 (by simp [hx])⟩
        have e' : x = s := e
        exact hs (e' ▸ h2 (by simp [e']))
theorem norm_occ (t : List ByteArray) : ∀ (n : GNode) (x : ByteArray), Occ (eI t n) x → x ∈ t := by
  apply GNode.ind
  intro n ih x h
  rw [normF_eq] at h
  by_cases hop : n.Op = 3 ∨ n.Op = 4 ∨ n.Op = 6
  · rw [if_pos hop] at h
    rcases occ_inv h with ⟨e, _⟩ | ⟨e, _⟩ | ⟨_, _, c, hc, ho⟩
    · dsimp only at e; omega
    · dsimp only at e; omega
    · dsimp only at hc
      rw [normL_map] at hc
      obtain ⟨y, hy, rfl⟩ := List.mem_map.1 hc
      exact ih y hy x ho
  · rw [if_neg hop] at h
    obtain ⟨h1, h2⟩ := (wrapF_occ t x _ n).1 h
    exact h2 (List.mem_reverse.2 ((freeF_mem n x).2 h1))
theorem wrapF_refs (t : List ByteArray) : ∀ (fs : List ByteArray) (n : GNode), refsF (wrapF t n fs) = refsF n
  | [], n => rfl
  | s :: fs, n => by
    show refsF (wrapF t (if hasF t s = true then n else ⟨7, 0, s, [], [n]⟩) fs) = _
    rw [wrapF_refs t fs]
    by_cases h : hasF t s = true
    · rw [if_pos h]
    · rw [if_neg h, refsF_eq]; simp [refsL]
theorem norm_refs (t : List ByteArray) : ∀ n : GNode, refsF (eI t n) = refsF n := by
  apply GNode.ind
  intro n ih
  rw [normF_eq]
  by_cases hop : n.Op = 3 ∨ n.Op = 4 ∨ n.Op = 6
  · rw [if_pos hop, refsF_eq, refsF_eq n, if_neg (by dsimp only; omega), if_neg (by omega)]
    dsimp only
    have : ∀ l : List GNode, (∀ x ∈ l, x ∈ n.L) → refsL (normL t l) = refsL l := by
      intro l
      induction l with
      | nil => intro _; rfl
      | cons x l ihl => intro hx; simp only [normL, refsL]; rw [ih x (hx x (by simp)), ihl (fun y hy => hx y (by simp [hy]))]
    exact this n.L (fun _ h => h)
  · rw [if_neg hop, wrapF_refs]
theorem wrapF_same (t : List ByteArray) : ∀ (fs : List ByteArray) (n : GNode), (∀ x ∈ fs, x ∈ t) → wrapF t n fs = n
  | [], n, _ => rfl
  | s :: fs, n, h => by
    show wrapF t (if hasF t s = true then n else ⟨7, 0, s, [], [n]⟩) fs = n
    rw [if_pos (hasF_mem.2 (h s (by simp)))]
    exact wrapF_same t fs n (fun x hx => h x (by simp [hx]))
theorem wrapF_op (t : List ByteArray) : ∀ (fs : List ByteArray) (n : GNode), (wrapF t n fs).Op = n.Op ∨ (wrapF t n fs).Op = 7
  | [], n => .inl rfl
  | s :: fs, n => by
    show (wrapF t (if hasF t s = true then n else ⟨7, 0, s, [], [n]⟩) fs).Op = _ ∨ (wrapF t (if hasF t s = true then n else ⟨7, 0, s, [], [n]⟩) fs).Op = _
    rcases wrapF_op t fs (if hasF t s = true then n else ⟨7, 0, s, [], [n]⟩) with h | h
    · rw [h]
      by_cases h2 : hasF t s = true
      · rw [if_pos h2]; exact .inl rfl
      · rw [if_neg h2]; exact .inr rfl
    · exact .inr h
theorem norm_norm (t : List ByteArray) : ∀ n : GNode, eI t (eI t n) = eI t n := by
  apply GNode.ind
  intro n ih
  by_cases hop : n.Op = 3 ∨ n.Op = 4 ∨ n.Op = 6
  · have h1 : eI t n = ⟨n.Op, 0, ByteArray.empty, [], normL t n.L⟩ := by rw [normF_eq, if_pos hop]
    rw [h1, normF_eq, if_pos hop]
    dsimp only
    have : normL t (normL t n.L) = normL t n.L := by
      rw [normL_map t n.L, normL_map, List.map_map]
      exact List.map_congr_left (fun x hx => ih x hx)
    rw [this]
  · have h1 : eI t n = wrapF t n (freeF n).reverse := by rw [normF_eq, if_neg hop]
    have h2 := wrapF_op t (freeF n).reverse n
    rw [← h1] at h2
    rw [normF_eq t (eI t n), if_neg (by omega)]
    refine wrapF_same t _ _ (fun x hx => ?_)
    exact norm_occ t n x ((freeF_mem _ x).1 (List.mem_reverse.1 hx))
theorem wrapF_nodes (t : List ByteArray) : ∀ (fs : List ByteArray) (n : GNode), dS (wrapF t n fs) ≤ dS n + fs.length ∧ idxF (wrapF t n fs) = idxF n
  | [], n => ⟨Nat.le_refl _, rfl⟩
  | s :: fs, n => by
    have ih := wrapF_nodes t fs (if hasF t s = true then n else ⟨7, 0, s, [], [n]⟩)
    show dS (wrapF t (if hasF t s = true then n else ⟨7, 0, s, [], [n]⟩) fs) ≤ _ ∧ idxF (wrapF t (if hasF t s = true then n else ⟨7, 0, s, [], [n]⟩) fs) = _
    simp only [List.length_cons]
    by_cases h : hasF t s = true
    · rw [if_pos h] at ih ⊢; exact ⟨by omega, ih.2⟩
    · rw [if_neg h] at ih ⊢
      have e1 : dS (⟨7, 0, s, [], [n]⟩ : GNode) = 1 + dS n := by rw [eS]; simp [eE]
      have e2 : idxF (⟨7, 0, s, [], [n]⟩ : GNode) = idxF n := by rw [idxF_eq]; simp [idxL]
      rw [e1] at ih; rw [e2] at ih
      exact ⟨by omega, ih.2⟩
theorem norm_nodes (t : List ByteArray) : ∀ n : GNode, dS (eI t n) ≤ dS n + idxF n ∧ idxF (eI t n) = idxF n := by
  apply GNode.ind
  intro n ih
  rw [normF_eq]
  by_cases hop : n.Op = 3 ∨ n.Op = 4 ∨ n.Op = 6
  · rw [if_pos hop]
    have : ∀ l : List GNode, (∀ x ∈ l, x ∈ n.L) → eE (normL t l) ≤ eE l + idxL l ∧ idxL (normL t l) = idxL l := by
      intro l
      induction l with
      | nil => intro _; simp [normL, eE, idxL]
      | cons x l ihl =>
        intro hx
        have h1 := ih x (hx x (by simp))
        have h2 := ihl (fun y hy => hx y (by simp [hy]))
        simp only [normL, eE, idxL]
        omega
    have h := this n.L (fun _ h => h)
    have e1 := idxF_eq n
    rw [if_neg (by omega)] at e1
    have e2 := idxF_eq (⟨n.Op, 0, ByteArray.empty, [], normL t n.L⟩ : GNode)
    rw [if_neg (by dsimp only; omega)] at e2
    rw [eS, eS n, e1, e2]
    dsimp only
    omega
  · rw [if_neg hop]
    have h1 := wrapF_nodes t (freeF n).reverse n
    have h2 := free_len n [] []
    rw [List.length_reverse] at h1
    unfold freeF at h1 ⊢
    simp only [List.length_nil] at h2
    exact ⟨by omega, h1.2⟩
theorem idx_small : ∀ (d : Nat) (n : GNode), okN d n = true → idxF n ≤ 4 * dS n
  | 0, n, h => by simp [okN] at h
  | d + 1, n, h => by
    have hh := h
    simp only [okN, Bool.and_eq_true] at h
    rw [idxF_eq, eS]
    split
    · rename_i h2
      have := (refs_okN (d + 1) n hh n (by rw [refsF_eq, if_pos h2]; simp)).2.1
      omega
    · have : ∀ l : List GNode, (∀ x ∈ l, okN d x = true) → idxL l ≤ 4 * eE l := by
        intro l
        induction l with
        | nil => intro _; simp [idxL]
        | cons x l ihl =>
          intro hx
          have h1 := idx_small d x (hx x (by simp))
          have h2 := ihl (fun y hy => hx y (by simp [hy]))
          simp only [idxL, eE]; omega
      have := this n.L (List.all_eq_true.1 h.2)
      omega
theorem eqS_ev (a : List ByteArray) : ∀ (l pre : List ByteArray), a = pre ++ l → Ev (fun k => l36_0 k a pre.length l) true
  | [], pre, _ => by refine Ev.step ?_; simp only [l36_0]; exact Ev.ret _
  | x :: l, pre, h => by
    refine Ev.step ?_
    have hx : idx a (pre.length : Int) = some x := idx_at (by omega) (by rw [Int.toNat_natCast, h]; simp)
    simp only [l36_0, hx, Option.bind_some]
    have ih := eqS_ev a l (pre ++ [x]) (by rw [h]; simp)
    rw [List.length_append, List.length_singleton] at ih
    exact Ev.pos trivial ih
theorem same_ev : ∀ n : GNode, Ev (fun k => m20 k n n) true := by
  apply GNode.ind
  intro n ih
  have loop : ∀ (l pre : List GNode), n.L = pre ++ l → Ev (fun k => l37_0 k n.L pre.length l) true := by
    intro l
    induction l with
    | nil => intro pre _; refine Ev.step ?_; simp only [l37_0]; exact Ev.ret _
    | cons x l ihl =>
      intro pre h
      refine Ev.step ?_
      have hx : idx n.L (pre.length : Int) = some x := idx_at (by omega) (by rw [Int.toNat_natCast, h]; simp)
      simp only [l37_0, hx, Option.bind_some]
      have ih2 := ihl (pre ++ [x]) (by rw [h]; simp)
      rw [List.length_append, List.length_singleton] at ih2
      exact Ev.bind (ih x (by rw [h]; simp)) (Ev.pos rfl ih2)
  refine Ev.step ?_
  simp only [m20]
  refine Ev.jn (Ev.pos trivial (Ev.pos trivial (Ev.pos trivial (Ev.bind (r := true) ?_ (Ev.pos rfl (Ev.bind (r := true) (Ev.step ?_) (Ev.ret _)))))))
  · simp only [m36]
    exact Ev.pos trivial (eqS_ev n.Index n.Index [] rfl)
  · simp only [m37]
    exact Ev.pos trivial (loop n.L [] rfl)
theorem Normal_ev (s : GStmt) (h : stmtF s = true) : Ev (fun k => m17 k s) (eI s.Index s.E, 0) := by
  obtain ⟨_, _, h3, h4⟩ := stmt_parts h
  have h5 := idx_small 16 s.E h3
  have hc := check_ev ⟨[], [s]⟩
  rw [check1s, h] at hc
  simp only [m17]
  exact Ev.bind hc (Ev.pos (by simp) (Ev.bind (normal_ev s.Index s.E (by omega) (by omega)) (Ev.ret _)))
theorem Normal_bad (s : GStmt) (h : stmtF s = false) : Ev (fun k => m17 k s) (⟨0, 0, ByteArray.empty, [], []⟩, 1) := by
  have hc := check_ev ⟨[], [s]⟩
  rw [check1s, h] at hc
  simp only [m17]
  exact Ev.bind hc (Ev.neg (by simp) (Ev.ret _))
theorem refsame (a : List GNode) (s : GStmt) (r3 : GNode × Int) (next : Tot (fun k => (m17 k (⟨s.Name, s.Index, (⟨r3.1.Op, r3.1.N, r3.1.Name, r3.1.Index, r3.1.L⟩ : GNode)⟩ : GStmt)).bind fun r7 => jn (fun (y2 : Bool) => some y2) fun j7 => if true = true then (if r7.2 = 1 then ((m21 k r3.1).bind fun r8 => if r8 = true then (if r7.2 = 0 then ((m20 k r7.1 r3.1).bind fun r9 => j7 r9) else (j7 false)) else (j7 true)) else (if r7.2 = 0 then ((m20 k r7.1 r3.1).bind fun r10 => j7 r10) else (j7 false))) else (j7 false)) (· = true)) :
    ∀ (l pre : List GNode), a = pre ++ l → Tot (fun k => l6_1 k s true r3 a pre.length l) (· = true)
  | [], pre, _ => by refine Tot.step ?_; simp only [l6_1]; exact next
  | x :: l, pre, h => by
    refine Tot.step ?_
    have hx : idx a (pre.length : Int) = some x := idx_at (by omega) (by rw [Int.toNat_natCast, h]; simp)
    simp only [l6_1, hx, Option.bind_some]
    have ih := refsame a s r3 next l (pre ++ [x]) (by rw [h]; simp)
    rw [List.length_append, List.length_singleton] at ih
    refine Tot.bind (same_ev x).is (fun r hr => ?_)
    subst hr
    exact Tot.pos rfl ih
theorem ShapeNormal_ev (s : GStmt) : Tot (fun k => m6 k s) (· = true) := by
  simp only [m6]
  refine Tot.bind live_ev.is (fun r1 h1 => ?_)
  subst h1
  refine Tot.bind (fewProg_tot _) (fun r2 _ => Tot.ite (fun _ => ?_) (fun _ => Tot.ret rfl))
  cases hst : stmtF s with
  | false =>
    refine Tot.bind (Normal_bad s hst).is (fun r3 h3 => ?_)
    subst h3
    exact Tot.neg (by simp) (Tot.jn (Tot.pos rfl (Tot.ret (by simp))))
  | true =>
    obtain ⟨k1, k2, k3, k4⟩ := stmt_parts hst
    have k5 := idx_small 16 s.E k3
    obtain ⟨b1, b2⟩ := norm_nodes s.Index s.E
    refine Tot.bind (Normal_ev s hst).is (fun r3 h3 => ?_)
    subst h3
    refine Tot.pos rfl (Tot.bind (Free_ev (eI s.Index s.E) (by omega) (by omega)).is (fun r4 h4 => ?_))
    subst h4
    have next : Tot (fun k => (m17 k (⟨s.Name, s.Index, (⟨(eI s.Index s.E).Op, (eI s.Index s.E).N, (eI s.Index s.E).Name, (eI s.Index s.E).Index, (eI s.Index s.E).L⟩ : GNode)⟩ : GStmt)).bind fun r7 => jn (fun (y2 : Bool) => some y2) fun j7 => if true = true then (if r7.2 = 1 then ((m21 k (eI s.Index s.E)).bind fun r8 => if r8 = true then (if r7.2 = 0 then ((m20 k r7.1 (eI s.Index s.E)).bind fun r9 => j7 r9) else (j7 false)) else (j7 true)) else (if r7.2 = 0 then ((m20 k r7.1 (eI s.Index s.E)).bind fun r10 => j7 r10) else (j7 false))) else (j7 false)) (· = true) := by
      rw [GNode.eta_]
      have hm : stmtF ⟨s.Name, s.Index, eI s.Index s.E⟩ = mayF (eI s.Index s.E) := by simp [stmtF, k1, k2]
      cases hmay : mayF (eI s.Index s.E) with
      | false =>
        rw [hmay] at hm
        refine Tot.bind (Normal_bad _ hm).is (fun r7 h7 => ?_)
        subst h7
        refine Tot.jn (Tot.pos rfl (Tot.pos rfl (Tot.bind (may_ev _).is (fun r8 h8 => ?_))))
        subst h8
        rw [hmay]
        exact Tot.neg (by simp) (Tot.ret rfl)
      | true =>
        rw [hmay] at hm
        have hn := Normal_ev _ hm
        dsimp only at hn
        rw [norm_norm] at hn
        refine Tot.bind hn.is (fun r7 h7 => ?_)
        subst h7
        refine Tot.jn (Tot.pos rfl (Tot.neg (by simp) (Tot.pos rfl (Tot.bind (same_ev _).is (fun r h => Tot.ret h)))))
    have last : Tot (fun k => l6_0 k s true (eI s.Index s.E, 0) []) (· = true) := by
      refine Tot.step ?_
      simp only [l6_0]
      refine Tot.bind (refs_ev (eI s.Index s.E) (by omega)).is (fun r5 h5 => Tot.bind (refs_ev s.E (by omega)).is (fun r6 h6 => ?_))
      subst h5; subst h6
      refine Tot.pos (by rw [norm_refs]) ?_
      have := refsame (refsF s.E) s (eI s.Index s.E, 0) next (refsF s.E) [] rfl
      rw [norm_refs]; exact this
    have loop : ∀ l : List ByteArray, (∀ x ∈ l, x ∈ s.Index) → Tot (fun k => l6_0 k s true (eI s.Index s.E, 0) l) (· = true) := by
      intro l
      induction l with
      | nil => intro _; exact last
      | cons x l ihl =>
        intro hx
        refine Tot.step ?_
        simp only [l6_0, m19]
        refine Tot.bind (has_ev x s.Index).is (fun r h => ?_)
        subst h
        exact Tot.pos (hasF_mem.2 (hx x (by simp))) (ihl (fun y hy => hx y (by simp [hy])))
    exact loop _ (fun x hx => norm_occ s.Index s.E x ((freeF_mem _ x).1 hx))
theorem ShapeNormal_plain (s : GStmt) (_ : Wf.wf s) : ∃ k, m6 k s = some true := (ShapeNormal_ev s).run1
def stoOf (w : World) : Sto := fun b => w.heap[b]?
theorem stoOf_has (w : World) : Has (stoOf w) w := fun _ _ h => h
def Rd (α : Type) [GoTy α] [Wf α] (P : Program) (t : TypeId) (fuel : Nat) : Prop :=
  ∀ {H : Type} (enc : TypeId × Value → H) (w : World) (cs : List Value) (y : DataW H × List MemPlace),
    DataW.trod enc P w 0 (fun _ => true) true fuel t cs = some y → (∀ n ∈ y.1.weights P t, n ≤ reachBytes) → ∃ x : α, GoTy.rep (stoOf w) cs x ∧ Wf.wf x
theorem Rd.int {P : Program} {t n : Nat} (ht : P.underlying t = some (.int .i64)) : Rd Int P t n := by
  intro H enc w cs y h hs
  obtain ⟨m, rfl, rfl, hw⟩ := DataW.trod_int ht h
  refine ⟨m, rfl, ?_⟩
  simp only [Lit.wf, Bool.and_eq_true, decide_eq_true_eq] at hw
  exact hw
theorem Rd.bool {P : Program} {t n : Nat} (ht : P.underlying t = some .bool) : Rd Bool P t n := by
  intro H enc w cs y h hs
  obtain ⟨m, rfl, rfl⟩ := DataW.trod_bool ht h
  exact ⟨m, rfl, trivial⟩
theorem Rd.str {P : Program} {t n : Nat} (ht : P.underlying t = some .string) : Rd ByteArray P t n := by
  intro H enc w cs y h hs
  obtain ⟨s, rfl, rfl, hw⟩ := DataW.trod_string ht h
  refine ⟨s, rfl, ?_⟩
  have := hs s.data.toList.length (by simp [DataW.weights])
  rw [Array.length_toList] at this
  exact this
theorem mem_weightsAll {H : Type} {P : Program} {e : TypeId} : ∀ {l : List (DataW H)} {d : DataW H}, d ∈ l → ∀ n ∈ d.weights P e, n ∈ DataW.weightsAll P e l
  | x :: l, d, hd, n, hn => by
    simp only [DataW.weightsAll, List.mem_append]
    rcases List.mem_cons.1 hd with rfl | hd
    · exact .inl hn
    · exact .inr (mem_weightsAll hd n hn)
theorem Rd.slice {α : Type} [GoTy α] [Wf α] {P : Program} {t e n : Nat} (ht : P.underlying t = some (.slice e)) (hc : P.cellsOf e = GoTy.sz α) (hz : 0 < GoTy.sz α) (hb : 0 < P.bytesOf e) (ih : ∀ m, m < n → Rd α P e m) : Rd (List α) P t n := by
  intro H enc w cs y h hs
  rcases DataW.trod_slice ht h with ⟨rfl, rfl⟩ | ⟨a, len, cap, elems, rest, m, rfl, rfl, rfl, _, hl, hm, hlen, hel, hsp, hns⟩
  · exact ⟨[], ⟨none, 0, rfl, SlR.none _⟩, by simp [Wf.wf]⟩
  have hw := hs ((elems.length + rest.length) * P.bytesOf e) (by simp [DataW.weights, ht])
  have hlen2 : len ≤ 140737488351232 := by
    have h1 : elems.length + rest.length ≤ (elems.length + rest.length) * P.bytesOf e := Nat.le_mul_of_pos_right _ hb
    have h2 : reachBytes = 140737488351232 := rfl
    omega
  have each : ∀ i : Fin len, ∃ x : α, Wf.wf x ∧ ∃ vs, w.cells? 0 (a.add (i.1 * P.cellsOf e)) (P.cellsOf e) = some vs ∧ GoTy.rep (stoOf w) vs x := by
    intro ⟨i, hi⟩
    have h1 := hel i hi
    rw [List.getElem?_eq_getElem (by omega)] at h1
    obtain ⟨vs, h2, h3⟩ := Option.bind_eq_some_iff.1 h1
    obtain ⟨x, h4, h5⟩ := ih m (Nat.lt_succ_self m) enc w vs _ h3 (fun q hq => hs q (by
      simp only [DataW.weights, ht, List.mem_cons, List.mem_append]
      exact .inr (.inl (mem_weightsAll (List.mem_map.2 ⟨_, List.getElem_mem _, rfl⟩) q hq))))
    exact ⟨x, h5, vs, h2, h4⟩
  obtain ⟨f, hf⟩ := Classical.skolem.1 each
  have hll : (List.ofFn f).length = len := List.length_ofFn
  refine ⟨List.ofFn f, ⟨some a, cap, by rw [hll], ⟨by rw [hll]; exact hl, by rw [hll]; have : mxl = 140737488355328 := rfl; omega, (fun e => by cases e), fun A hA => ?_⟩⟩, ⟨by rw [hll]; exact hlen2, fun x hx => ?_⟩⟩
  · simp only [Option.some.injEq] at hA
    subst hA
    by_cases h0 : len = 0
    · exact .inl (List.length_eq_zero_iff.1 (by rw [hll]; exact h0))
    have pos : ∀ (i : Nat), i < len → ∀ q, q < GoTy.sz α → w.cell? ((a.add (i * GoTy.sz α)).add q) ≠ none := by
      intro i hi q hq
      obtain ⟨_, vs, h1, h2⟩ := hf ⟨i, hi⟩
      have h3 := World.cells?_some h1
      rw [← hc, h3.2.2 q (by rw [hc]; exact hq), List.getElem?_eq_getElem (by rw [h3.2.1, hc]; exact hq)]
      exact fun e => by cases e
    have p0 := pos 0 (by omega) 0 hz
    have e0 : (a.add (0 * GoTy.sz α)).add 0 = a := by simp [Addr.add]
    rw [e0] at p0
    obtain ⟨b, o, s⟩ := a
    simp only [World.cell?] at p0
    have hs0 : s = none := by
      cases s with
      | none => rfl
      | some _ => split at p0 <;> simp at p0
    subst hs0
    cases hh : w.heap[b]? with
    | none => rw [hh] at p0; simp at p0
    | some ob =>
      cases ob with
      | cells c T fr =>
        refine .inr ⟨rfl, c, T, fr, hh, fun j hj => ?_⟩
        rw [hll] at hj
        obtain ⟨_, vs, h1, h2⟩ := hf ⟨j, hj⟩
        refine ⟨vs, by simpa using h2, fun i hi => ?_⟩
        have h3 := (World.cells?_some h1).2.2 i (by rw [hc]; exact hi)
        rw [← h3, hc]
        have e1 : ((⟨b, o, none⟩ : Addr).add (j * GoTy.sz α)).add i = ⟨b, o + (j * GoTy.sz α + i), none⟩ := by
          unfold Addr.add; repeat' split
          all_goals simp_all [Nat.add_assoc]
        rw [e1, aR hh]
      | _ => rw [hh] at p0; simp at p0
  · obtain ⟨i, hi⟩ := List.mem_ofFn.1 hx
    subst hi; exact (hf i).1
theorem rd_parts {H : Type} {enc : TypeId × Value → H} {w : World} {P : Program} {t n : Nat} {fs : Array Field} {cs : List Value} {y : DataW H × List MemPlace} (ht : P.underlying t = some (.struct fs))
    (h : DataW.trod enc P w 0 (fun _ => true) true n t cs = some y) (hs : ∀ q ∈ y.1.weights P t, q ≤ reachBytes) :
    cs.length = P.cellsOf t ∧ ∃ m, m < n ∧ ∀ (i : Nat) (f : Field), fs[i]? = some f → ∀ (α : Type) [GoTy α] [Wf α], Rd α P f.type m → ∃ x : α, GoTy.rep (stoOf w) ((cs.drop f.offset).take (P.cellsOf f.type)) x ∧ Wf.wf x := by
  obtain ⟨xs, m, rfl, rfl, hl, hlen, hf⟩ := DataW.trod_struct ht h
  refine ⟨hl, m, Nat.lt_succ_self m, fun i f hi α _ _ hr => ?_⟩
  have hi2 := (Array.getElem?_eq_some_iff.1 hi).1
  have h1 := hf i f hi
  rw [List.getElem?_eq_getElem (by omega)] at h1
  refine hr enc w _ _ h1 (fun q hq => hs q ?_)
  simp only [DataW.weights, ht]
  refine DataW.weights_mem_each (j := i) (t := f.type) (d := xs[i].1) ?_ ?_ q hq
  · rw [List.getElem?_map, Array.getElem?_toList, hi]; rfl
  · rw [List.getElem?_map, List.getElem?_eq_getElem (by omega)]; rfl
theorem rd31 : ∀ n, Rd GNode Try.prog 31 n := by
  intro n
  induction n using Nat.strongRecOn with
  | ind n ih =>
  intro H enc w cs y h hs
  obtain ⟨hl, m, hm, hf⟩ := rd_parts Try.underlying31 h hs
  have hl : cs.length = 5 := hl
  obtain ⟨x0, r0, w0⟩ := hf 0 _ rfl Int (Rd.int Try.underlying3)
  obtain ⟨x1, r1, w1⟩ := hf 1 _ rfl Int (Rd.int Try.underlying2)
  obtain ⟨x2, r2, w2⟩ := hf 2 _ rfl ByteArray (Rd.str Try.underlying9)
  obtain ⟨x3, r3, w3⟩ := hf 3 _ rfl (List ByteArray) (Rd.slice Try.underlying28 (by kernel_rfl) (by decide) (of_decide_eq_true (by kernel_rfl)) (fun m hm => (Rd.str Try.underlying9)))
  obtain ⟨x4, r4, w4⟩ := hf 4 _ rfl (List GNode) (Rd.slice Try.underlying29 (by kernel_rfl) (by decide) (of_decide_eq_true (by kernel_rfl)) (fun m' hm' => ih m' (by omega)))
  obtain ⟨c0, c1, c2, c3, c4, rfl⟩ : ∃ c0 c1 c2 c3 c4, cs = [c0, c1, c2, c3, c4] := by
    match cs, hl with
    | [q0, q1, q2, q3, q4], _ => exact ⟨_, _, _, _, _, rfl⟩
  have e0 := r0
  have e0_0 : [c0] = _ := e0
  clear e0
  obtain ⟨g0_0, e0_1⟩ := List.cons.inj e0_0
  subst g0_0
  have e1 := r1
  have e1_0 : [c1] = _ := e1
  clear e1
  obtain ⟨g1_0, e1_1⟩ := List.cons.inj e1_0
  subst g1_0
  have e2 := r2
  have e2_0 : [c2] = _ := e2
  clear e2
  obtain ⟨g2_0, e2_1⟩ := List.cons.inj e2_0
  subst g2_0
  obtain ⟨a3, k3, e3, s3⟩ := r3
  have e3_0 : [c3] = _ := e3
  clear e3
  obtain ⟨g3_0, e3_1⟩ := List.cons.inj e3_0
  subst g3_0
  obtain ⟨a4, k4, e4, s4⟩ := r4
  have e4_0 : [c4] = _ := e4
  clear e4
  obtain ⟨g4_0, e4_1⟩ := List.cons.inj e4_0
  subst g4_0
  exact ⟨⟨x0, x1, x2, x3, x4⟩, GNode.into (x := ⟨x0, x1, x2, x3, x4⟩) s3 s4, .mk _ w0 w1 w2 w3 w4.1 w4.2⟩
theorem rd33 : ∀ n, Rd GStmt Try.prog 33 n := by
  intro n
  intro H enc w cs y h hs
  obtain ⟨hl, m, hm, hf⟩ := rd_parts Try.underlying33 h hs
  have hl : cs.length = 7 := hl
  obtain ⟨x0, r0, w0⟩ := hf 0 _ rfl ByteArray (Rd.str Try.underlying9)
  obtain ⟨x1, r1, w1⟩ := hf 1 _ rfl (List ByteArray) (Rd.slice Try.underlying28 (by kernel_rfl) (by decide) (of_decide_eq_true (by kernel_rfl)) (fun m hm => (Rd.str Try.underlying9)))
  obtain ⟨x2, r2, w2⟩ := hf 2 _ rfl GNode (rd31 _)
  obtain ⟨c0, c1, c2, c3, c4, c5, c6, rfl⟩ : ∃ c0 c1 c2 c3 c4 c5 c6, cs = [c0, c1, c2, c3, c4, c5, c6] := by
    match cs, hl with
    | [q0, q1, q2, q3, q4, q5, q6], _ => exact ⟨_, _, _, _, _, _, _, rfl⟩
  have e0 := r0
  have e0_0 : [c0] = _ := e0
  clear e0
  obtain ⟨g0_0, e0_1⟩ := List.cons.inj e0_0
  subst g0_0
  obtain ⟨a1, k1, e1, s1⟩ := r1
  have e1_0 : [c1] = _ := e1
  clear e1
  obtain ⟨g1_0, e1_1⟩ := List.cons.inj e1_0
  subst g1_0
  obtain ⟨a2_3, k2_3, a2_4, k2_4, e2, s2_3, s2_4⟩ := GNode.out r2
  have e2_0 : [c2, c3, c4, c5, c6] = _ := e2
  clear e2
  obtain ⟨g2_0, e2_1⟩ := List.cons.inj e2_0
  obtain ⟨g2_1, e2_2⟩ := List.cons.inj e2_1
  obtain ⟨g2_2, e2_3⟩ := List.cons.inj e2_2
  obtain ⟨g2_3, e2_4⟩ := List.cons.inj e2_3
  obtain ⟨g2_4, e2_5⟩ := List.cons.inj e2_4
  subst g2_0
  subst g2_1
  subst g2_2
  subst g2_3
  subst g2_4
  exact ⟨⟨x0, x1, x2⟩, GStmt.into (x := ⟨x0, x1, x2⟩) s1 s2_3 s2_4, ⟨w0, w1, w2⟩⟩
end Go.Proofs.Ytjdfoipnmbnkeaa
namespace Go.Proofs.Ytjdfoipnmbnkeaa.shapeNormal
open Go Go.ChangeShapes Go.WideShapes Go.ChangeAt Go.RowKit Go.Proofs.Ytjdfoipnmbnkeaa
open Go.ChangeMaps (open_string shut_string)
theorem own : ownKnob Try.prog.godebug = none := by kernel_rfl
theorem laidOut : laidOutB Try.prog = true := by kernel_rfl
theorem lifted (os : Os) (started : os.Started) (H : Type) (enc : TypeId × Value → H) :
    ReturnsInHanded {} Try.checked os 6 .any (Rows.shapeNormalSpec.pre6 enc Try.prog Try.f6 Rows.shapeNormalRow.domain false) (Rows.shapeNormalSpec.post enc Try.prog Try.f6 false true false false) := by
  refine returnsInHanded_of_change_sized (C := Try.checked) own started (by kernel_rfl) Try.func6
    (ChangeSpec.witness6 (enc := enc) (C := Try.checked) false ⟨#[], #[.agg #[.string ByteArray.empty, .slice none 0 0, .int .i64 0, .int .i64 0, .string ByteArray.empty, .slice none 0 0, .slice none 0 0]], []⟩ 8 (by kernel_rfl) (by kernel_rfl) (by kernel_rfl) (by kernel_rfl)) ?_
  intro W base args ds gs before hval0 hW hcnd hsz0 _
  have hsz : (DataW.weightsEach Try.prog (Try.f6.params.toList ++ Rows.shapeNormalSpec.plain.varTypes Try.prog) (ds ++ gs)).all (· ≤ reachBytes) = true := hsz0
  have hval : ∀ (j : Nat) t v, Try.f6.params[j]? = some t → args[j]? = some v → Value.okWide Try.prog W .any base t v := hval0
  have hW' := hW
  obtain ⟨p, q, hA0, hV, rfl, hfz, hnd⟩ := hW
  have hA : DataW.TrodAll enc Try.prog W 0 (fun _ => true) true Try.f6.params.toList args.toList ds p := hA0
  rw [Try.params6] at hA hval hsz
  obtain ⟨v0, vs0, d0, ds0, p0, q0, hargs, rfl, rfl, h0, r0⟩ := trodAll_cons hA
  obtain ⟨rfl, rfl, rfl⟩ := trodAll_nil r0
  obtain rfl : args = #[v0] := by cases args; simp_all
  obtain ⟨rfl, rfl⟩ := trodVars_none hV
  obtain ⟨cs0, rfl, _⟩ := okWide_struct Try.underlying33 (hval 0 33 v0 rfl rfl)
  have k0 := h0
  have lt0 : ∀ x ∈ p0, x.block < W.heap.size := by obtain ⟨m, hm⟩ := k0; exact DataW.trod_lt m _ _ _ hm
  obtain ⟨fuel0, hf0⟩ := h0
  obtain ⟨p0', rx0, w0⟩ := rd33 _ enc W _ _ hf0 (fun n hn => by have := List.all_eq_true.1 hsz n (DataW.weights_mem_each (j := 0) (t := 33) rfl rfl n hn); simpa using this)
  obtain ⟨a0_1, c0_1, a0_5, c0_5, a0_6, c0_6, hcs0, R0_1, R0_5, R0_6⟩ := GStmt.out rx0
  obtain rfl : cs0 = List.toArray [.string p0'.Name, .slice a0_1 p0'.Index.length c0_1, I p0'.E.Op, I p0'.E.N, .string p0'.E.Name, .slice a0_5 p0'.E.Index.length c0_5, .slice a0_6 p0'.E.L.length c0_6] := by apply Array.toList_inj.1; exact hcs0
  clear hA0 hval0 hsz0 hsz
  obtain ⟨k, hk⟩ := ShapeNormal_plain p0' w0
  refine (F6 k (stoOf_has W) R0_1 R0_5 R0_6 hk).mono fun e W' he => ?_
  cases e with
  | returned v =>
    obtain ⟨h', rfl, st⟩ := he
    have bel := st.sp.below
    exact ⟨_, rfl, _, _, _, [], _, [], hW', trodAll_mk1 (shut_bool Try.underlying4 _), (trodAll_cons_mk (Below.trod laidOut (by kernel_rfl) (of_decide_eq_true (by kernel_rfl)) k0 bel lt0) trodAll_mk0), rfl, bel.frame _, fun h => by cases h⟩
  | panicked _ => exact he.elim
  | outgrown => exact he.elim
theorem over : Rows.shapeNormalRow.holds Try.pinned (OpenSpec.ofChange Rows.shapeNormalSpec) :=
  OpenClaim.holds_of_wide 6 Try.f6 rfl rfl rfl rfl rfl rfl rfl ⟨rfl, rfl, rfl, rfl, rfl⟩ rfl rfl rfl rfl rfl (by kernel_rfl) Try.func6 (by kernel_rfl)
    (of_decide_eq_true (by kernel_rfl)) (by unfold Func.isWrapper; first | (rw [if_pos (by decide +kernel)]; kernel_rfl) | (rw [if_neg (by decide +kernel)]; exact ⟨rfl, rfl⟩))
    (fun os started H enc _ => lifted os started H enc)
end Go.Proofs.Ytjdfoipnmbnkeaa.shapeNormal
namespace Go.Proofs.Ytjdfoipnmbnkeaa
theorem shapeNormal_holds : Rows.ShapeNormalSaid := shapeNormal.over
end Go.Proofs.Ytjdfoipnmbnkeaa
