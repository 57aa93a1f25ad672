/- ShapePlaces holds: for every input the law returns true, and the input reads as it did. Part 1 of 6. No conditions. -/
import Derived.Calls
import Derived.AtR
import Derived.Tactics
import Derived.KernelRfl
import Derived.Laws.World
import Derived.Laws.Slices
import Derived.Laws.Strings
import Derived.Laws.Build
import Derived.Below
import Derived.Orders
import Derived.Laws.StructEq
import Derived.Lib.Bytealg
import Derived.RangeFuncIn
namespace Go.Proofs.Ytjdfoipnmbnkeaa
open Go
abbrev Env := Nat → Value
def upd (σ : Env) (d : Nat) (v : Value) : Env := fun t => bif Nat.beq t d then v else σ t
def ev (σ : Env) : Operand → Value
  | .tmp t => σ t
  | .const v => v
  | .global g => .pointer (some ⟨g, 0, none⟩)
  | .func f => .func (.func f) #[] #[]
def evs (σ : Env) : List Operand → List Value
  | [] => []
  | x :: l => ev σ x :: evs σ l
theorem evs_eq (σ : Env) (l : List Operand) : l.map (ev σ) = evs σ l := by
  induction l with
  | nil => rfl
  | cons x l ih => simp [evs, ih]
theorem upd_same (σ : Env) (d : Nat) (v : Value) : upd σ d v d = v := by simp [upd]
theorem upd_ne (σ : Env) {d t : Nat} (v : Value) (h : t ≠ d) : upd σ d v t = σ t := by
  have : Nat.beq t d = false := by
    cases e : Nat.beq t d with
    | false => rfl
    | true => exact absurd (Nat.eq_of_beq_eq_true e) h
  unfold upd; rw [this]; rfl
structure Sim (n : Nat) (ds : List Deferred) (σ : Env) (a : Act) : Prop where
  size : a.tmps.size = n
  get : ∀ t, a.tmps.getD t undef = σ t
  defs : a.defers = ds
theorem Sim.ev {n : Nat} {ds : List Deferred} {σ : Env} {a : Act} (h : Sim n ds σ a) : a.eval = ev σ := by
  funext x; cases x <;> simp [Act.eval, Proofs.Ytjdfoipnmbnkeaa.ev, h.get]
theorem Sim.put {n : Nat} {ds : List Deferred} {σ : Env} {a : Act} (h : Sim n ds σ a) {d : Nat} (hd : d < n) (v : Value) : Sim n ds (upd σ d v) (a.put (some d) v) := by
  refine ⟨by simp [Act.put, h.size], fun t => ?_, h.defs⟩
  by_cases e : t = d
  · subst e; simp [Act.put, Array.getD_eq_getD_getElem?, h.size, hd, upd]
  · have : d ≠ t := fun x => e x.symm
    rw [upd_ne _ _ e, ← h.get t]; simp [Act.put, Array.getD_eq_getD_getElem?, this]
inductive Post
  | fn (Q : Value → World → Prop)
  | round (K : World → Prop)
structure Fx where
  P : Program
  fn : Func
  ro : Option Nat
  dfs : List Deferred
def Fx.of (P : Program) (fn : Func) : Fx := ⟨P, fn, none, []⟩
def Done (X : Fx) (b : Frame) (cs : List Frame) (m : Machine) : Post → Prop
  | .fn Q => ∃ v w' a' todo', Q v w' ∧ m = lone { b.atR a' todo' with mode := .returning } cs w' ∧ a'.defers = [] ∧ (results X.fn a'.tmps).run X.P w' = .ok v w'
  | .round K => ∃ a' w', K w' ∧ m = lone (b.atR a' []) cs w'
def Run (X : Fx) (todo : List Item) (σ : Env) (w : World) (Q : Post) : Prop :=
  ∀ (b : Frame) (cs : List Frame) (a : Act), b.roundOf = X.ro → Sim X.fn.ntmps X.dfs σ a →
    ∃ m, Steps X.P (lone (b.atR a todo) cs w) m ∧ Done X b cs m Q
def Ret (Q : Value → World → Prop) : Ending → World → Prop
  | .returned v, w => Q v w
  | _, _ => False
def cK (f : Func) : Code := f.body.getD .skip
theorem aO {P : Program} {f : FuncId} {fn : Func} {args : List Value} {w : World} {Q : Value → World → Prop}
    (hf : P.funcs[f]? = some fn) (hb : fn.body.isSome = true) (hn : args.length ≤ fn.ntmps)
    (h : Run (Fx.of P fn) [.code (cK fn)] (fun t => args.getD t undef) w (.fn Q)) : Calls P f args.toArray w (Ret Q) := by
  intro cs
  obtain ⟨c, hc⟩ := Option.isSome_iff_exists.1 hb
  let b : Frame := { (default : Frame) with fn := f, kind := .normal, roundOf := none }
  have henter : Frame.enter P f args.toArray .normal =
      b.atR { tmps := args.toArray ++ Array.replicate (fn.ntmps - args.toArray.size) undef, defers := [] } [.code (cK fn)] := by
    simp [Frame.enter, Frame.atR, hf, hc, b, cK]
  obtain ⟨m, hs, v, w', a', todo', hq, rfl, hd, hr⟩ := h b cs { tmps := args.toArray ++ Array.replicate (fn.ntmps - args.toArray.size) undef, defers := [] } rfl ⟨by simp [Fx.of]; omega, fun t => by
      simp only [Array.getD_eq_getD_getElem?, Array.getElem?_append, List.getD_eq_getElem?_getD]
      by_cases ht : t < args.length
      · simp [ht]
      · simp only [List.size_toArray, ht, if_false, Array.getElem?_replicate, List.getElem?_eq_none (Nat.le_of_not_lt ht)]
        split <;> rfl, rfl⟩
  rw [← henter] at hs
  exact ⟨.returned v, w', _, hq, hs, rfl, rfl, hd, rfl, fn, hf, hr⟩
section rules
variable {X : Fx} {σ : Env} {w : World} {Q : Post} {k : List Item}
theorem eS {todo todo' : List Item} (hs : ∀ (b : Frame) (a : Act) (cs : List Frame), a.eval = ev σ → step X.P (lone (b.atR a todo) cs w) = .next (lone (b.atR a todo') cs w))
    (h : Run X todo' σ w Q) : Run X todo σ w Q := fun b cs a hb ha =>
  let ⟨m, hst, r⟩ := h b cs a hb ha
  ⟨m, .head (hs b a cs ha.ev) hst, r⟩
theorem aB {c x y : Code} (e : c = .seq x y) (h : Run X (.code x :: .code y :: k) σ w Q) : Run X (.code c :: k) σ w Q := by
  subst e; exact eS (fun _ _ _ _ => stepR_seq) h
theorem aM {c : Code} (e : c = .skip) (h : Run X k σ w Q) : Run X (.code c :: k) σ w Q := by
  subst e; exact eS (fun _ _ _ _ => stepR_skip) h
theorem run_label {c : Code} {l : Nat} (e : c = .label l) (h : Run X k σ w Q) : Run X (.code c :: k) σ w Q := by
  subst e; exact eS (fun _ _ _ _ => stepR_label) h
theorem aW {id : Nat} (h : Run X k σ w Q) : Run X (.inBlock id :: k) σ w Q := eS (fun _ _ _ _ => stepR_inBlock) h
theorem aT {c x : Code} {id : Nat} (e : c = .block id x) (h : Run X (.code x :: .inBlock id :: k) σ w Q) : Run X (.code c :: k) σ w Q := by
  subst e; exact eS (fun _ _ _ _ => stepR_block) h
theorem cB {c x : Code} (e : c = .loop x) (h : Run X (.code x :: .inLoop x :: k) σ w Q) : Run X (.code c :: k) σ w Q := by
  subst e; exact eS (fun _ _ _ _ => stepR_loop) h
theorem bF {x : Code} (h : Run X (.code x :: .inLoop x :: k) σ w Q) : Run X (.inLoop x :: k) σ w Q := eS (fun _ _ _ _ => stepR_inLoop) h
theorem bM {c : Code} {id : Nat} {k' : List Item} (e : c = .exit id) (hk : exitTo id k = some k') (h : Run X k' σ w Q) : Run X (.code c :: k) σ w Q := by
  subst e; exact eS (fun _ _ _ _ => stepR_exit hk) h
theorem run_scope {c x : Code} (e : c = .scope x) (h : Run X (.code x :: .inScope x :: k) σ w Q) : Run X (.code c :: k) σ w Q := by
  subst e; exact eS (fun _ _ _ _ => step_lone_go (by simp [stepG, stepG.exec, Frame.atR])) h
theorem cQ {c x y : Code} {o : Operand} {p : Bool} (e : c = .cond o x y) (ho : ev σ o = .bool p) (hp : p = true) (h : Run X (.code x :: k) σ w Q) : Run X (.code c :: k) σ w Q := by
  subst e; subst hp; exact eS (fun b a cs he => stepR_cond (t := true) (by rw [he]; exact ho)) h
theorem tr {c x y : Code} {o : Operand} {p : Bool} (e : c = .cond o x y) (hp : p = true) (ho : ev σ o = .bool p) (h : Run X (.code x :: k) σ w Q) : Run X (.code c :: k) σ w Q := cQ e ho hp h
theorem dJ {c x y : Code} {o : Operand} {p : Bool} (e : c = .cond o x y) (ho : ev σ o = .bool p) (hp : p = false) (h : Run X (.code y :: k) σ w Q) : Run X (.code c :: k) σ w Q := by
  subst e; subst hp; exact eS (fun b a cs he => stepR_cond (t := false) (by rw [he]; exact ho)) h
theorem fa {c x y : Code} {o : Operand} {p : Bool} (e : c = .cond o x y) (hp : p = false) (ho : ev σ o = .bool p) (h : Run X (.code y :: k) σ w Q) : Run X (.code c :: k) σ w Q := dJ e ho hp h
def rv (P : Program) (σ : Env) (w : World) : ResultVar → Value → Prop
  | .tmp t, v => σ t = v
  | .cell a t, v => ∃ p, σ a = .pointer (some p) ∧ (loadVar t p).run P w = .ok v w
theorem rv_tmp {P : Program} {σ : Env} {w : World} {t : Tmp} {v : Value} (h : rv P σ w (.tmp t) v) {n : Nat} {ds : List Deferred} {a : Act} (ha : Sim n ds σ a) : a.tmps[t]?.getD undef = v := by
  have := ha.get t; rw [Array.getD_eq_getD_getElem?] at this; rw [this]; exact h
theorem rv_cell {P : Program} {σ : Env} {w : World} {q : Tmp} {t : TypeId} {v : Value} (h : rv P σ w (.cell q t) v) {n : Nat} {ds : List Deferred} {a : Act} (ha : Sim n ds σ a) :
    ∃ p, a.tmps[q]?.getD undef = .pointer (some p) ∧ (loadVar t p).run P w = .ok v w := by
  obtain ⟨p, hp, hl⟩ := h
  have := ha.get q; rw [Array.getD_eq_getD_getElem?] at this; rw [this]; exact ⟨p, hp, hl⟩
theorem ret_core {Q : Value → World → Prop} (hr : ∀ (n : Nat) (ds : List Deferred) (a : Act), Sim n ds σ a → ∃ v, (results X.fn a.tmps).run X.P w = .ok v w ∧ Q v w) (hro : X.ro = none) (hds : X.dfs = [])
    (hs : ∀ (b : Frame) (a : Act) (cs : List Frame), b.roundOf = none → step X.P (lone (b.atR a k) cs w) = .next (lone { b.atR a k with mode := .returning } cs w)) : Run X k σ w (.fn Q) := fun b cs a hb ha =>
  let ⟨v, h1, h2⟩ := hr _ _ a ha
  ⟨_, .one (hs b a cs (hb.trans hro)), v, w, a, k, h2, rfl, ha.defs.trans hds, h1⟩
section res
variable {Q : Value → World → Prop}
theorem res0 (hr : X.fn.results = #[]) (hq : Q (.tuple #[]) w) (n : Nat) (ds : List Deferred) (a : Act) (_ : Sim n ds σ a) : ∃ v, (results X.fn a.tmps).run X.P w = .ok v w ∧ Q v w :=
  ⟨_, by simp [results, hr], hq⟩
theorem cG {r1 : ResultVar} {v1 : Value} (hr : X.fn.results = #[r1]) (h1 : rv X.P σ w r1 v1) (hq : Q v1 w) (n : Nat) (ds : List Deferred) (a : Act) (ha : Sim n ds σ a) : ∃ v, (results X.fn a.tmps).run X.P w = .ok v w ∧ Q v w :=
  ⟨v1, by
    rcases (by cases r1 with | tmp t => exact .inl ⟨t, rfl, rv_tmp h1 ha⟩ | cell q t => exact .inr ⟨q, t, rfl, rv_cell h1 ha⟩ : (∃ t, r1 = .tmp t ∧ a.tmps[t]?.getD undef = v1) ∨ (∃ q t, r1 = .cell q t ∧ ∃ p, a.tmps[q]?.getD undef = .pointer (some p) ∧ (loadVar t p).run X.P w = .ok v1 w)) with ⟨t1, rfl, e1⟩ | ⟨q1, t1, rfl, p1, e1, f1⟩
    all_goals clear h1
    all_goals simp [results, asAddr, *], hq⟩
theorem eK {r1 r2 : ResultVar} {v1 v2 : Value} (hr : X.fn.results = #[r1, r2]) (h1 : rv X.P σ w r1 v1) (h2 : rv X.P σ w r2 v2) (hq : Q (.tuple #[v1, v2]) w) (n : Nat) (ds : List Deferred) (a : Act) (ha : Sim n ds σ a) : ∃ v, (results X.fn a.tmps).run X.P w = .ok v w ∧ Q v w :=
  ⟨.tuple #[v1, v2], by
    rcases (by cases r1 with | tmp t => exact .inl ⟨t, rfl, rv_tmp h1 ha⟩ | cell q t => exact .inr ⟨q, t, rfl, rv_cell h1 ha⟩ : (∃ t, r1 = .tmp t ∧ a.tmps[t]?.getD undef = v1) ∨ (∃ q t, r1 = .cell q t ∧ ∃ p, a.tmps[q]?.getD undef = .pointer (some p) ∧ (loadVar t p).run X.P w = .ok v1 w)) with ⟨t1, rfl, e1⟩ | ⟨q1, t1, rfl, p1, e1, f1⟩
    all_goals clear h1
    all_goals rcases (by cases r2 with | tmp t => exact .inl ⟨t, rfl, rv_tmp h2 ha⟩ | cell q t => exact .inr ⟨q, t, rfl, rv_cell h2 ha⟩ : (∃ t, r2 = .tmp t ∧ a.tmps[t]?.getD undef = v2) ∨ (∃ q t, r2 = .cell q t ∧ ∃ p, a.tmps[q]?.getD undef = .pointer (some p) ∧ (loadVar t p).run X.P w = .ok v2 w)) with ⟨t2, rfl, e2⟩ | ⟨q2, t2, rfl, p2, e2, f2⟩
    all_goals clear h2
    all_goals simp [results, asAddr, *], hq⟩
theorem res3 {r1 r2 r3 : ResultVar} {v1 v2 v3 : Value} (hr : X.fn.results = #[r1, r2, r3]) (h1 : rv X.P σ w r1 v1) (h2 : rv X.P σ w r2 v2) (h3 : rv X.P σ w r3 v3) (hq : Q (.tuple #[v1, v2, v3]) w) (n : Nat) (ds : List Deferred) (a : Act) (ha : Sim n ds σ a) : ∃ v, (results X.fn a.tmps).run X.P w = .ok v w ∧ Q v w :=
  ⟨.tuple #[v1, v2, v3], by
    rcases (by cases r1 with | tmp t => exact .inl ⟨t, rfl, rv_tmp h1 ha⟩ | cell q t => exact .inr ⟨q, t, rfl, rv_cell h1 ha⟩ : (∃ t, r1 = .tmp t ∧ a.tmps[t]?.getD undef = v1) ∨ (∃ q t, r1 = .cell q t ∧ ∃ p, a.tmps[q]?.getD undef = .pointer (some p) ∧ (loadVar t p).run X.P w = .ok v1 w)) with ⟨t1, rfl, e1⟩ | ⟨q1, t1, rfl, p1, e1, f1⟩
    all_goals clear h1
    all_goals rcases (by cases r2 with | tmp t => exact .inl ⟨t, rfl, rv_tmp h2 ha⟩ | cell q t => exact .inr ⟨q, t, rfl, rv_cell h2 ha⟩ : (∃ t, r2 = .tmp t ∧ a.tmps[t]?.getD undef = v2) ∨ (∃ q t, r2 = .cell q t ∧ ∃ p, a.tmps[q]?.getD undef = .pointer (some p) ∧ (loadVar t p).run X.P w = .ok v2 w)) with ⟨t2, rfl, e2⟩ | ⟨q2, t2, rfl, p2, e2, f2⟩
    all_goals clear h2
    all_goals rcases (by cases r3 with | tmp t => exact .inl ⟨t, rfl, rv_tmp h3 ha⟩ | cell q t => exact .inr ⟨q, t, rfl, rv_cell h3 ha⟩ : (∃ t, r3 = .tmp t ∧ a.tmps[t]?.getD undef = v3) ∨ (∃ q t, r3 = .cell q t ∧ ∃ p, a.tmps[q]?.getD undef = .pointer (some p) ∧ (loadVar t p).run X.P w = .ok v3 w)) with ⟨t3, rfl, e3⟩ | ⟨q3, t3, rfl, p3, e3, f3⟩
    all_goals clear h3
    all_goals simp [results, asAddr, *], hq⟩
theorem aJ {c : Code} (e : c = .ret) (hr : ∀ (n : Nat) (ds : List Deferred) (a : Act), Sim n ds σ a → ∃ v, (results X.fn a.tmps).run X.P w = .ok v w ∧ Q v w) (hro : X.ro = none := by rfl) (hds : X.dfs = [] := by rfl) : Run X (.code c :: k) σ w (.fn Q) := by
  subst e; exact ret_core hr hro hds (fun _ _ _ hb => stepR_ret hb)
theorem run_end (hr : ∀ (n : Nat) (ds : List Deferred) (a : Act), Sim n ds σ a → ∃ v, (results X.fn a.tmps).run X.P w = .ok v w ∧ Q v w) (hro : X.ro = none := by rfl) (hds : X.dfs = [] := by rfl) : Run X [] σ w (.fn Q) :=
  ret_core hr hro hds (fun _ _ _ hb => stepR_end hb)
theorem run_round {K : World → Prop} (hK : K w) : Run X [] σ w (.round K) := fun _ _ a _ _ => ⟨_, Steps.refl _ _, a, w, hK, rfl⟩
end res
end rules
structure COp where
  g : Option (Nat × Bool)
  d : Option Nat
  op : Op
  ty : TypeId
abbrev oo (d : Nat) (op : Op) (ty : TypeId) : COp := ⟨none, some d, op, ty⟩
abbrev OA := Option Addr
def ex (σ : Env) (op : Op) (ty : TypeId) : Sem Next := execOp (ev σ) { dst := none, op, type := ty, pos := "", after := #[], guard := none }
theorem ex_eq (ρ : Operand → Value) (o : Oper) : execOp ρ o = execOp ρ { dst := none, op := o.op, type := o.type, pos := "", after := #[], guard := none } := by
  cases o; rfl
def cOp (ops : Array Oper) (o : Oper) : Option COp :=
  match o.guard with
  | none => some ⟨none, o.dst, o.op, o.type⟩
  | some (j, b) => match (ops[j]?).bind (·.dst) with
    | some t => some ⟨some (t, b), o.dst, o.op, o.type⟩
    | none => none
def cOpsL (ops : Array Oper) : List Oper → Option (List COp)
  | [] => some []
  | o :: l => match cOp ops o, cOpsL ops l with
    | some c, some cs => some (c :: cs)
    | _, _ => none
def aI : Code → Option (List COp)
  | .region _ ops false => cOpsL ops ops.toList
  | _ => none
def dQ (σ : Env) : Option (Nat × Bool) → Bool
  | none => true
  | some (t, b) => match σ t with
    | .bool x => x == b
    | _ => false
theorem wanted_of {ops : Array Oper} {o : Oper} {c : COp} (hc : cOp ops o = some c) {n : Nat} {ds : List Deferred} {σ : Env} {a : Act} (ha : Sim n ds σ a) : Region.wanted o (yielded ops a.tmps) = dQ σ c.g := by
  unfold cOp at hc
  cases hg : o.guard with
  | none => rw [hg] at hc; simp only [Option.some.injEq] at hc; subst hc; simp [Region.wanted, hg, dQ]
  | some p =>
    obtain ⟨j, b⟩ := p
    rw [hg] at hc
    simp only at hc
    cases hd : (ops[j]?).bind (·.dst) with
    | none => rw [hd] at hc; simp at hc
    | some t =>
      rw [hd] at hc; simp only [Option.some.injEq] at hc; subst hc
      simp only [Region.wanted, hg, yielded, hd, dQ, Option.bind_some]
      have h := ha.get t
      rw [Array.getD_eq_getD_getElem?] at h
      cases hq : a.tmps[t]? with
      | none => rw [hq] at h; simp at h; rw [← h]; simp [undef]
      | some v => rw [hq] at h; simp at h; rw [← h]; cases v <;> simp
def RunR (X : Fx) (l : List COp) (k : List Item) (σ : Env) (w : World) (Q : Post) : Prop :=
  ∀ (ops : Array Oper) (i : Nat), cOpsL ops (ops.toList.drop i) = some l → Run X (.inRegion ops (List.range' i (ops.size - i)) :: k) σ w Q
section regions
variable {X : Fx} {σ : Env} {w : World} {Q : Post} {k : List Item} {os : List COp}
theorem aA {c : Code} (hc : aI c = some os) (h : RunR X os k σ w Q) : Run X (.code c :: k) σ w Q := by
  cases c with
  | region id ops draw =>
    cases draw with
    | true => simp [aI] at hc
    | false =>
      refine eS (todo' := .inRegion ops (List.range ops.size) :: k) (fun _ _ _ _ => stepR_region) ?_
      rw [List.range_eq_range']
      exact h ops 0 (by simpa [aI] using hc)
  | _ => simp [aI] at hc
theorem aD (h : Run X k σ w Q) : RunR X [] k σ w Q := by
  intro ops i hi
  have : ops.size - i = 0 := by
    cases hl : ops.toList.drop i with
    | nil => have := List.drop_eq_nil_iff.1 hl; simp at this; omega
    | cons o l =>
      rw [hl] at hi; simp only [cOpsL] at hi
      cases h1 : cOp ops o <;> cases h2 : cOpsL ops l <;> simp [h1, h2] at hi
  rw [this]
  exact eS (fun _ _ _ _ => stepR_region_end) h
theorem cops_cons {ops : Array Oper} {i : Nat} {c : COp} {os : List COp} (hi : cOpsL ops (ops.toList.drop i) = some (c :: os)) :
    ∃ o, ops[i]? = some o ∧ cOp ops o = some c ∧ cOpsL ops (ops.toList.drop (i + 1)) = some os ∧ List.range' i (ops.size - i) = i :: List.range' (i + 1) (ops.size - (i + 1)) := by
  cases hl : ops.toList.drop i with
  | nil => rw [hl] at hi; simp [cOpsL] at hi
  | cons o l =>
    rw [hl] at hi; simp only [cOpsL] at hi
    have hlt : i < ops.toList.length := by
      rcases Nat.lt_or_ge i ops.toList.length with h | h
      · exact h
      · rw [List.drop_eq_nil_iff.2 h] at hl; simp at hl
    have he := List.drop_eq_getElem_cons hlt
    rw [hl] at he
    simp only [List.cons.injEq] at he
    cases h1 : cOp ops o with
    | none => simp [h1] at hi
    | some c' =>
      cases h2 : cOpsL ops l with
      | none => simp [h1, h2] at hi
      | some os' =>
        simp only [h1, h2, Option.some.injEq, List.cons.injEq] at hi
        obtain ⟨rfl, rfl⟩ := hi
        refine ⟨o, ?_, h1, ?_, ?_⟩
        · rw [he.1]; simp
        · rw [← he.2]; exact h2
        · have : ops.size - i = (ops.size - (i + 1)) + 1 := by simp at hlt; omega
          rw [this, List.range'_succ]
theorem rr_core {c : COp} {σ' : Env} {w' : World}
    (hs : ∀ (ops : Array Oper) (i : Nat) (rest : List Nat) (o : Oper) (b : Frame) (a : Act) (cs : List Frame), ops[i]? = some o → cOp ops o = some c → Sim X.fn.ntmps X.dfs σ a →
      ∃ a', Sim X.fn.ntmps X.dfs σ' a' ∧ step X.P (lone (b.atR a (.inRegion ops (i :: rest) :: k)) cs w) = .next (lone (b.atR a' (.inRegion ops rest :: k)) cs w'))
    (h : RunR X os k σ' w' Q) : RunR X (c :: os) k σ w Q := by
  intro ops i hi b cs a hb ha
  obtain ⟨o, ho, hco, hrest, hr⟩ := cops_cons hi
  rw [hr]
  obtain ⟨a', ha', hst⟩ := hs ops i _ o b a cs ho hco ha
  obtain ⟨m, hs2, r⟩ := h ops (i + 1) hrest b cs a' hb ha'
  exact ⟨m, .head hst hs2, r⟩
theorem cOp_parts {ops : Array Oper} {o : Oper} {c : COp} (h : cOp ops o = some c) : o.dst = c.d ∧ o.op = c.op ∧ o.type = c.ty := by
  unfold cOp at h
  split at h
  · simp only [Option.some.injEq] at h; subst h; exact ⟨rfl, rfl, rfl⟩
  · split at h
    · simp only [Option.some.injEq] at h; subst h; exact ⟨rfl, rfl, rfl⟩
    · cases h
def dOk (n : Nat) : Option Nat → Bool
  | none => true
  | some d => Nat.ble (d + 1) n
def put (σ : Env) : Option Nat → Value → Env
  | none, _ => σ
  | some d, v => upd σ d v
theorem Sim.put' {n : Nat} {ds : List Deferred} {σ : Env} {a : Act} (h : Sim n ds σ a) {d : Option Nat} (hd : dOk n d = true) (v : Value) : Sim n ds (Proofs.Ytjdfoipnmbnkeaa.put σ d v) (a.put d v) := by
  cases d with
  | none => exact h
  | some d => exact h.put (Nat.le_of_ble_eq_true hd) v
theorem exec_defer {P : Program} {w w' : World} {ρ : Operand → Value} {o : Oper} {c : Call} {nx : Next} (h : o.op = .defer c) (he : (execOp ρ o).run P w = .ok nx w') : ∃ d, nx = .defer d := by
  unfold execOp at he
  rw [h] at he
  simp only [Sem.run_bind] at he
  generalize (resolve ρ c o.type).run P w = r at he
  cases r with
  | ok d w2 => simp only [Result.andThen_ok, Sem.run_pure, Result.ok.injEq] at he; exact ⟨d, he.1.symm⟩
  | halt x w2 => simp [Result.andThen] at he
theorem op_any {P : Program} {b : Frame} {a : Act} {k : List Item} {cs : List Frame} {w w' : World} {ops : Array Oper} {i : Nat} {rest : List Nat} {o : Oper} {nx : Next} (ho : ops[i]? = some o) (hw : Region.wanted o (yielded ops a.tmps) = true)
    (he : (execOp a.eval o).run P w = .ok nx w') (hn : ∀ d, nx ≠ .defer d) :
    stepG P true { frame := b.atR a (.inRegion ops (i :: rest) :: k), callers := cs, status := .running, dying := none } w = stepG.apply P true (b.atR a (.inRegion ops (i :: rest) :: k)) cs none (execOp a.eval o) w := by
  rw [stepGR_op ho hw, Oper.semAt_eq]
  intro c hc
  obtain ⟨d, hd⟩ := exec_defer hc he
  exact hn d hd
theorem rr_skip' {g : Option (Nat × Bool)} {d : Option Nat} {op : Op} {ty : TypeId} (hg : dQ σ g = false) (hd : dOk X.fn.ntmps d = true) (h : RunR X os k (put σ d undef) w Q) : RunR X (⟨g, d, op, ty⟩ :: os) k σ w Q := by
  refine rr_core (fun ops i rest o b a cs ho hco ha => ⟨a.put d undef, ha.put' hd _, ?_⟩) h
  have hw := wanted_of hco ha
  have hp := (cOp_parts hco).1
  have := stepR_op_skip (P := X.P) (b := b) (a := a) (k := k) (cs := cs) (w := w) (ops := ops) (i := i) (rest := rest) (by simp [ho, hw, hg])
  simp only [ho, Option.bind_some, hp] at this
  exact this
theorem rr_value' {g : Option (Nat × Bool)} {d : Option Nat} {op : Op} {ty : TypeId} {v : Value} {w' : World} (hg : dQ σ g = true) (hd : dOk X.fn.ntmps d = true)
    (he : (ex σ op ty).run X.P w = .ok (.value v) w') (h : RunR X os k (put σ d v) w' Q) : RunR X (⟨g, d, op, ty⟩ :: os) k σ w Q := by
  refine rr_core (fun ops i rest o b a cs ho hco ha => ⟨a.put d v, ha.put' hd _, ?_⟩) h
  obtain ⟨hp, hop, hty⟩ := cOp_parts hco
  have hw := wanted_of hco ha
  have heo := (show (execOp a.eval o).run X.P w = (ex σ op ty).run X.P w by rw [ex_eq, hop, hty, ha.ev]; rfl).trans he
  have hgs := op_any (P := X.P) (b := b) (k := k) (cs := cs) (w := w) (rest := rest) ho (by rw [hw]; exact hg) heo (by intro d h; cases h)
  have hfin : (b.atR a (.inRegion ops (i :: rest) :: k)).finish v = b.atR (a.put d v) (.inRegion ops rest :: k) := by
    rw [Frame.finish_atR, ho]; simp [hp]
  refine step_lone_go ?_
  rw [hgs, ← hfin, ex_eq, hop, hty, ha.ev]
  have he' : (execOp (ev σ) { dst := none, op := op, type := ty, pos := "", after := #[], guard := none }).run X.P w = .ok (.value v) w' := he
  simp [stepG.apply, he']
theorem rr_unit' {g : Option (Nat × Bool)} {d : Option Nat} {op : Op} {ty : TypeId} {w' : World} (hg : dQ σ g = true) (hd : dOk X.fn.ntmps d = true)
    (he : (ex σ op ty).run X.P w = .ok .skip w') (h : RunR X os k (put σ d undef) w' Q) : RunR X (⟨g, d, op, ty⟩ :: os) k σ w Q := by
  refine rr_core (fun ops i rest o b a cs ho hco ha => ⟨a.put d undef, ha.put' hd _, ?_⟩) h
  obtain ⟨hp, hop, hty⟩ := cOp_parts hco
  have hw := wanted_of hco ha
  have heo := (show (execOp a.eval o).run X.P w = (ex σ op ty).run X.P w by rw [ex_eq, hop, hty, ha.ev]; rfl).trans he
  have hgs := op_any (P := X.P) (b := b) (k := k) (cs := cs) (w := w) (rest := rest) ho (by rw [hw]; exact hg) heo (by intro d h; cases h)
  have hfin : (b.atR a (.inRegion ops (i :: rest) :: k)).finish undef = b.atR (a.put d undef) (.inRegion ops rest :: k) := by
    rw [Frame.finish_atR, ho]; simp [hp]
  refine step_lone_go ?_
  rw [hgs, ← hfin, ex_eq, hop, hty, ha.ev]
  have he' : (execOp (ev σ) { dst := none, op := op, type := ty, pos := "", after := #[], guard := none }).run X.P w = .ok .skip w' := he
  simp [stepG.apply, he']
theorem rr_call' {g : Option (Nat × Bool)} {d : Option Nat} {op : Op} {ty : TypeId} {f : FuncId} {args : Array Value} {R : Value → World → Prop} (hg : dQ σ g = true) (hd : dOk X.fn.ntmps d = true)
    (he : (ex σ op ty).run X.P w = .ok (.enter f args) w) (hc : Calls X.P f args w (Ret R)) (h : ∀ v w', R v w' → RunR X os k (put σ d v) w' Q) : RunR X (⟨g, d, op, ty⟩ :: os) k σ w Q := by
  intro ops i hi b cs a hb ha
  obtain ⟨o, ho, hco, hrest, hr⟩ := cops_cons hi
  rw [hr]
  obtain ⟨hp, hop, hty⟩ := cOp_parts hco
  have hw := wanted_of hco ha
  have heo := (show (execOp a.eval o).run X.P w = (ex σ op ty).run X.P w by rw [ex_eq, hop, hty, ha.ev]; rfl).trans he
  have hgs := op_any (P := X.P) (b := b) (k := k) (cs := cs) (w := w) (rest := List.range' (i + 1) (ops.size - (i + 1))) ho (by rw [hw]; exact hg) heo (by intro d h; cases h)
  obtain ⟨e, w'', fr, hR, hsteps, _, hleave⟩ := hc (b.atR a (.inRegion ops (i :: List.range' (i + 1) (ops.size - (i + 1))) :: k) :: cs)
  have he' : (execOp (ev σ) { dst := none, op := op, type := ty, pos := "", after := #[], guard := none }).run X.P w = .ok (.enter f args) w := he
  have henter : step X.P (lone (b.atR a (.inRegion ops (i :: List.range' (i + 1) (ops.size - (i + 1))) :: k)) cs w) =
      .next (lone (Frame.enter X.P f args .normal) (b.atR a (.inRegion ops (i :: List.range' (i + 1) (ops.size - (i + 1))) :: k) :: cs) w) :=
    step_lone_go (by rw [hgs, ex_eq, hop, hty, ha.ev]; simp [stepG.apply, he', Frame.atR])
  cases e with
  | returned v =>
    have hfin : (b.atR a (.inRegion ops (i :: List.range' (i + 1) (ops.size - (i + 1))) :: k)).finish v = b.atR (a.put d v) (.inRegion ops (List.range' (i + 1) (ops.size - (i + 1))) :: k) := by
      rw [Frame.finish_atR, ho]; simp [hp]
    obtain ⟨m, hs2, r⟩ := h v w'' hR ops (i + 1) hrest b cs (a.put d v) hb (ha.put' hd _)
    refine ⟨m, .head henter (Steps.trans hsteps (.head (step_leave_returned hleave) ?_)), r⟩
    rw [hfin]; exact hs2
  | panicked chain => exact hR.elim
  | outgrown => exact hR.elim
end regions
theorem dF {p : Prop} [Decidable p] (h : ¬ p) : decide p = false := decide_eq_false h
theorem dT {p : Prop} [Decidable p] (h : p) : decide p = true := decide_eq_true h
def wr (n : Int) : Int := (n + 9223372036854775808) % 18446744073709551616 - 9223372036854775808
def bR (n : Int) : Int := n % 18446744073709551616
def wru8 (n : Int) : Int := n % 256
theorem wr_id {n : Int} (h0 : -9223372036854775808 ≤ n) (h1 : n ≤ 9223372036854775807) : wr n = n := by unfold wr; omega
def or8 (a b : Int) : Int := ((BitVec.ofInt 8 a ||| BitVec.ofInt 8 b).toNat : Int)
def and8 (a b : Int) : Int := ((BitVec.ofInt 8 a &&& BitVec.ofInt 8 b).toNat : Int)
def or64 (a b : Int) : Int := ((BitVec.ofInt 64 a ||| BitVec.ofInt 64 b).toNat : Int)
def bQ (a b : Int) : Int := ((BitVec.ofInt 64 a &&& BitVec.ofInt 64 b).toNat : Int)
def bt (s : ByteArray) (i : Int) : Int := ((s.data.toList.getD i.toNat 0).toNat : Int)
def idx {α : Type} (l : List α) (i : Int) : Option α := if 0 ≤ i then l[i.toNat]? else none
theorem dB {α : Type} {l : List α} {i : Int} {x : α} (h : idx l i = some x) : 0 ≤ i ∧ i < l.length ∧ l[i.toNat]? = some x := by
  unfold idx at h
  split at h
  · rename_i h0
    have := (List.getElem?_eq_some_iff.1 h).1
    exact ⟨h0, by omega, h⟩
  · cases h
def jn {J R : Type} (j : J) (b : J → R) : R := b j
theorem dE {J R : Type} {j : J} {b : J → Option R} {r : R} (H : jn j b = some r) : ∃ j', j' = j ∧ b j' = some r := ⟨j, rfl, H⟩
theorem aK {α β : Type} {o : Option α} {f : α → Option β} {r : β} (H : o.bind f = some r) : ∃ x, o = some x ∧ f x = some r := Option.bind_eq_some_iff.1 H
theorem cD {α : Type} {c : Prop} [Decidable c] {m : Option α} {r : α} (H : (if c then m else none) = some r) : c ∧ m = some r := by
  split at H
  · exact ⟨‹c›, H⟩
  · cases H
theorem aN {α : Type} {c : Prop} [Decidable c] {a b : Option α} {r : α} (H : (if c then a else b) = some r) : (c ∧ a = some r) ∨ (¬ c ∧ b = some r) := by
  split at H
  · exact .inl ⟨‹c›, H⟩
  · exact .inr ⟨‹¬ c›, H⟩
def ibL : List UInt8 → UInt8 → Nat → Int
  | [], _, _ => -1
  | b :: l, c, i => if b = c then (i : Int) else ibL l c (i + 1)
def ib (s : ByteArray) (c : Int) : Int := ibL s.data.toList c.toNat.toUInt8 0
def cl {α : Type} (l : List α) : Option (List α) := if l.length ≤ 274877906944 then some l else none
def foldO {σ α : Type} (f : σ → α → Option σ) : σ → List α → Option σ
  | s, [] => some s
  | s, x :: l => (f s x).bind fun s' => foldO f s' l
theorem foldO_step {σ α : Type} {f : σ → α → Option σ} {s r : σ} {l : List α} {j : Nat} {x : α} (hx : l[j]? = some x) (h : foldO f s ((l.take (j + 1)).reverse) = some r) :
    ∃ s', f s x = some s' ∧ foldO f s' ((l.take j).reverse) = some r := by
  rw [List.take_add_one, hx] at h
  simp only [Option.toList_some, List.reverse_append, List.reverse_cons, List.reverse_nil, List.nil_append, List.singleton_append, foldO] at h
  exact Option.bind_eq_some_iff.1 h
def dV {κ ν : Type} [DecidableEq κ] : List (κ × ν) → κ → Option ν
  | [], _ => none
  | p :: l, k => if k = p.1 then some p.2 else dV l k
def cC {κ ν : Type} [DecidableEq κ] : List (κ × ν) → κ → ν → List (κ × ν)
  | [], k, v => [(k, v)]
  | p :: l, k, v => if k = p.1 then (k, v) :: l else p :: cC l k v
abbrev apl : Nat := 274877906944
abbrev mxl : Nat := 140737488355328
abbrev I (n : Int) : Value := .int .i64 n
def Sc (P : Program) (T : TypeId) : Prop := ∀ w, (isAgg T).run P w = .ok false w
def Ag (P : Program) (T : TypeId) : Prop := ∀ w, (isAgg T).run P w = .ok true w
def Sz (P : Program) (T : TypeId) (n : Nat) : Prop := ∀ w, (sizeOf T).run P w = .ok n w
def Zr (P : Program) (T : TypeId) (v : Value) : Prop := ∀ w, (zeroValue T).run P w = .ok v w
def By (P : Program) (T : TypeId) (n : Nat) : Prop := ∃ i : TypeInfo, i.bytes = n ∧ ∀ w, (typeInfo T).run P w = .ok i w
def descNo : TypeDesc → Bool
  | .struct _ | .array _ _ => false
  | _ => true
theorem sc_of {P : Program} {T : TypeId} {d : TypeDesc} (h : P.underlying T = some d) (hd : descNo d = true) : Sc P T := by
  intro w; simp [isAgg, underlying, program, h, Sem.run]; cases d <;> simp_all [descNo]
theorem ag_of {P : Program} {T : TypeId} {d : TypeDesc} (h : P.underlying T = some d) (hd : descNo d = false) : Ag P T := by
  intro w; simp [isAgg, underlying, program, h, Sem.run]; cases d <;> simp_all [descNo]
theorem sz_of {P : Program} {T : TypeId} {n : Nat} (h : (P.info? T).map (·.size) = some n) : Sz P T n := by
  intro w
  cases hi : P.info? T with
  | none => rw [hi] at h; cases h
  | some i => rw [hi] at h; simp only [Option.map_some, Option.some.injEq] at h; simp [sizeOf, typeInfo, program, Sem.run, hi, h]
theorem zr_of {P : Program} {T : TypeId} {v : Value} (h : (P.info? T).bind (·.zero) = some v) : Zr P T v := by
  intro w
  cases hi : P.info? T with
  | none => rw [hi] at h; cases h
  | some i => rw [hi] at h; simp only [Option.bind_some] at h; simp [zeroValue, typeInfo, program, Sem.run, hi, h]
theorem by_of {P : Program} {T : TypeId} {n : Nat} (h : (P.info? T).map (·.bytes) = some n) : By P T n := by
  cases hi : P.info? T with
  | none => rw [hi] at h; cases h
  | some i => rw [hi] at h; simp only [Option.map_some, Option.some.injEq] at h; exact ⟨i, h, fun w => by simp [typeInfo, program, Sem.run, hi]⟩
def Fl (P : Program) (T : TypeId) (i off : Nat) : Prop :=
  ∃ fs f, P.underlying T = some (.struct fs) ∧ fs[i]? = some f ∧ f.offset = off ∧ ∃ n, Sz P f.type n ∧ n ≠ 0
def flB (P : Program) (T : TypeId) (i off : Nat) : Bool :=
  match P.underlying T with
  | some (.struct fs) => match fs[i]? with
    | some f => Nat.beq f.offset off && (match P.info? f.type with | some j => !(Nat.beq j.size 0) | none => false)
    | none => false
  | _ => false
theorem fI {P : Program} {T : TypeId} {i off : Nat} (h : flB P T i off = true) : Fl P T i off := by
  unfold flB at h
  split at h
  · rename_i fs hu
    split at h
    · rename_i f hf
      simp only [Bool.and_eq_true] at h
      obtain ⟨h1, h2⟩ := h
      split at h2
      · rename_i j hj
        exact ⟨fs, f, hu, hf, Nat.eq_of_beq_eq_true h1, j.size, sz_of (by rw [hj]; rfl), fun e => by rw [e] at h2; cases h2⟩
      · cases h2
    · cases h
  · cases h
def Bd (P : Program) (T : TypeId) (zs : List Value) (ps : List (Nat × Nat)) : Prop :=
  Zr P T (.agg zs.toArray) ∧ ∃ fs, P.underlying T = some (.struct fs) ∧ ∀ w, (fs.mapM fun f => do pure (f.offset, ← sizeOf f.type) : Sem (Array (Nat × Nat))).run P w = .ok ps.toArray w
def placesB (P : Program) (fs : List Field) : Option (List (Nat × Nat)) :=
  match fs with
  | [] => some []
  | f :: l => match P.info? f.type, placesB P l with
    | some i, some ps => some ((f.offset, i.size) :: ps)
    | _, _ => none
theorem places_run {P : Program} (fs : List Field) : ∀ (ps : List (Nat × Nat)), placesB P fs = some ps → ∀ w, (fs.mapM fun f => do pure (f.offset, ← sizeOf f.type) : Sem (List (Nat × Nat))).run P w = .ok ps w := by
  induction fs with
  | nil => intro ps h w; simp only [placesB, Option.some.injEq] at h; subst h; rfl
  | cons f l ih =>
    intro ps h w
    simp only [placesB] at h
    split at h
    · rename_i i ps' h1 h2
      simp only [Option.some.injEq] at h; subst h
      have h3 := sz_of (P := P) (T := f.type) (n := i.size) (by rw [h1]; rfl)
      have h4 := ih _ h2 w
      simp only [bind_pure_comp] at h4
      simp [List.mapM_cons, h3 w, h4]
    · cases h
def fieldsOf (P : Program) (T : TypeId) : List Field := match P.underlying T with | some (.struct fs) => fs.toList | _ => []
def isStruct (P : Program) (T : TypeId) : Bool := match P.underlying T with | some (.struct _) => true | _ => false
theorem bd_of {P : Program} {T : TypeId} {zs : List Value} {ps : List (Nat × Nat)} (hz : Zr P T (.agg zs.toArray)) (hs : isStruct P T = true) (hp : placesB P (fieldsOf P T) = some ps) : Bd P T zs ps := by
  refine ⟨hz, ?_⟩
  unfold isStruct at hs
  split at hs
  · rename_i fs hu
    refine ⟨fs, hu, fun w => ?_⟩
    have h4 := places_run _ _ (by simpa [fieldsOf, hu] using hp) w
    simp only [bind_pure_comp] at h4
    rw [Array.mapM_eq_mapM_toList]
    simp [h4]
  · cases hs
def wrk : IntKind → Int → Int
  | .i64, n => wr n
  | .u64, n => bR n
  | .u8, n => wru8 n
  | k, n => k.wrap n
theorem wrap_eq (k : IntKind) (n : Int) : k.wrap n = wrk k n := by
  cases k <;> simp only [wrk] <;> first | rfl | (simp [IntKind.wrap, wr, IntKind.bits, IntKind.signed] <;> omega)
section ops
variable {P : Program} {σ : Env} {w : World} {ty : TypeId} {x y z : Operand}
theorem aE (v : Value) (hx : ev σ x = v) : (ex σ (.move x) ty).run P w = .ok (.value v) w := by subst hx; rfl
theorem aC (v : Value) (hx : ev σ x = v) : (ex σ (.assign x) ty).run P w = .ok (.value v) w := by subst hx; rfl
theorem x_pickT (v : Value) {p : Bool} (hx : ev σ x = .bool p) (hp : p = true) (hy : ev σ y = v) : (ex σ (.pick x y z) ty).run P w = .ok (.value v) w := by
  subst hp; subst hy; simp [ex, execOp, hx, asBool]
theorem cI (v : Value) {p : Bool} (hx : ev σ x = .bool p) (hp : p = false) (hy : ev σ z = v) : (ex σ (.pick x y z) ty).run P w = .ok (.value v) w := by
  subst hp; subst hy; simp [ex, execOp, hx, asBool]
theorem dH (v : Value) {p : Bool} (hp : p = true) (hx : ev σ x = .bool p) (hy : ev σ y = v) : (ex σ (.pick x y z) ty).run P w = .ok (.value v) w := x_pickT v hx hp hy
theorem dI (v : Value) {p : Bool} (hp : p = false) (hx : ev σ x = .bool p) (hy : ev σ z = v) : (ex σ (.pick x y z) ty).run P w = .ok (.value v) w := cI v hx hp hy
theorem bJ (v : Value) {vs : Array Value} {i : Nat} (hx : ev σ x = .tuple vs) (hv : vs[i]? = some v) : (ex σ (.extract x i) ty).run P w = .ok (.value v) w := by
  simp [ex, execOp, hx, Instr.extract, hv]
theorem bG (a : Addr) (hx : ev σ x = .pointer (some a)) : (ex σ (.nilCheck x) ty).run P w = .ok (.value (.pointer (some a))) w := by
  simp [ex, execOp, hx]
theorem eT (v : Value) {fn : Fn} {f1 c1 : Array Operand} (hv : Value.func fn (f1.map (ev σ)) (c1.map (ev σ)) = v) : (ex σ (.makeFunc fn f1 c1) ty).run P w = .ok (.value v) w := by
  subst hv; simp [ex, execOp, Instr.makeFunc]
theorem eA (b : Bool) (T : TypeId) (hx : ev σ x = .bool b) : (ex σ (.unOp .not T x) ty).run P w = .ok (.value (.bool (!b))) w := by
  simp [ex, execOp, hx, Op.unary]
def binI : BinOp → IntKind → Int → Int → Option Value
  | .add, k, a, b => some (.int k (wrk k (a + b)))
  | .sub, k, a, b => some (.int k (wrk k (a - b)))
  | .mul, k, a, b => some (.int k (wrk k (a * b)))
  | .eql, _, a, b => some (.bool (decide (a = b)))
  | .neq, _, a, b => some (.bool (!decide (a = b)))
  | .lss, _, a, b => some (.bool (decide (a < b)))
  | .leq, _, a, b => some (.bool (decide (a ≤ b)))
  | .gtr, _, a, b => some (.bool (decide (b < a)))
  | .geq, _, a, b => some (.bool (decide (b ≤ a)))
  | .or, .u8, a, b => some (.int .u8 (or8 a b))
  | .and, .u8, a, b => some (.int .u8 (and8 a b))
  | .or, .u64, a, b => some (.int .u64 (or64 a b))
  | .and, .u64, a, b => some (.int .u64 (bQ a b))
  | _, _, _, _ => none
theorem wrapb8 (x : BitVec 8) : IntKind.u8.wrap (x.toNat : Int) = (x.toNat : Int) := by
  have := x.isLt; simp [IntKind.wrap, IntKind.bits, IntKind.signed]; omega
theorem wrapb64 (x : BitVec 64) : IntKind.u64.wrap (x.toNat : Int) = (x.toNat : Int) := by
  have := x.isLt; simp [IntKind.wrap, IntKind.bits, IntKind.signed]; omega
theorem eqGuard_int (op : BinOp) (T : TypeId) (k k' : IntKind) (a b : Int) : (eqGuard op T x y (.int k a) (.int k' b)).run P w = .ok () w := by
  cases op <;> simp [eqGuard]
theorem binOp_int (op : BinOp) (k : IntKind) (a b : Int) (v : Value) (T : TypeId) (hv : binI op k a b = some v) : (binOp op T (.int k a) (.int k b)).run P w = .ok v w := by
  cases op <;> simp [binI] at hv
  case or => cases k <;> simp at hv <;> subst hv <;> simp [binOp, Op.intBits] <;> first | exact wrapb8 (BitVec.ofInt 8 a ||| BitVec.ofInt 8 b) | exact wrapb64 (BitVec.ofInt 64 a ||| BitVec.ofInt 64 b)
  case and => cases k <;> simp at hv <;> subst hv <;> simp [binOp, Op.intBits] <;> first | exact wrapb8 (BitVec.ofInt 8 a &&& BitVec.ofInt 8 b) | exact wrapb64 (BitVec.ofInt 64 a &&& BitVec.ofInt 64 b)
  all_goals subst hv; simp [binOp, Op.intArith, Op.intCmp, wrap_eq] <;> rfl
theorem aP (op : BinOp) (k : IntKind) (a b : Int) (v : Value) (T T' : TypeId) (hx : ev σ x = .int k a) (hy : ev σ y = .int k b) (hv : binI op k a b = some v) :
    (ex σ (.binOp op T x y T') ty).run P w = .ok (.value v) w := by
  have h1 := binOp_int (P := P) (w := w) op k a b v T hv
  have h2 := eqGuard_int (P := P) (w := w) (x := x) (y := y) op T k k a b
  simp [ex, execOp, hx, hy, h1, h2]
def divI : BinOp → IntKind → Int → Int → Option Value
  | .quo, k, a, b => some (.int k (wrk k (a.tdiv b)))
  | .rem, k, a, b => some (.int k (a.tmod b))
  | _, _, _, _ => none
theorem x_div (op : BinOp) (k : IntKind) (a b : Int) (v : Value) (T T' : TypeId) (hx : ev σ x = .int k a) (hy : ev σ y = .int k b) (hb : b ≠ 0) (hv : divI op k a b = some v) :
    (ex σ (.binOp op T x y T') ty).run P w = .ok (.value v) w := by
  have h2 := eqGuard_int (P := P) (w := w) (x := x) (y := y) op T k k a b
  cases op <;> simp [divI] at hv <;> subst hv <;> simp [ex, execOp, hx, hy, h2, binOp, Op.intDiv, hb, wrap_eq]
theorem x_conv (k k' : IntKind) (a : Int) {src dst : TypeId} (hT : P.underlying dst = some (.int k')) (hS : P.underlying src = some (.int k)) (hx : ev σ x = .int k a) : (ex σ (.convert src dst x) ty).run P w = .ok (.value (.int k' (wrk k' a))) w := by
  simp [ex, execOp, hx, convert, underlying, program, Sem.run, hT, hS, Conv.intToInt, wrap_eq]
theorem bytes_eq (a b : ByteArray) : (a.toList == b.toList) = decide (a = b) := by
  rw [ByteArray.toList_eq, ByteArray.toList_eq]
  by_cases h : a = b
  · subst h; simp
  · simp only [h, decide_false, beq_eq_false_iff_ne, ne_eq]
    intro e; apply h
    cases a; cases b; simp only [ByteArray.mk.injEq]; exact Array.toList_inj.1 e
theorem x_strEq (a b : ByteArray) (T T' : TypeId) (hx : ev σ x = .string a) (hy : ev σ y = .string b) : (ex σ (.binOp .eql T x y T') ty).run P w = .ok (.value (.bool (decide (a = b)))) w := by
  simp [ex, execOp, hx, hy, eqGuard, binOp, Op.stringOp, bytes_eq]
theorem x_strNe (a b : ByteArray) (T T' : TypeId) (hx : ev σ x = .string a) (hy : ev σ y = .string b) : (ex σ (.binOp .neq T x y T') ty).run P w = .ok (.value (.bool (!decide (a = b)))) w := by
  simp [ex, execOp, hx, hy, eqGuard, binOp, Op.stringOp, bytes_eq]
theorem equalIn_bool (d : Nat) {a b : Bool} {T : TypeId} (hT : P.underlying T = some .bool) : (Op.equalIn (d + 1) T (.bool a) (.bool b)).run P w = .ok (a == b) w := by
  simp [Op.equalIn, underlying, program, Sem.run, hT]
theorem x_boolEq {a b : Bool} {T T' : TypeId} (hT : P.underlying T = some .bool) (hx : ev σ x = .bool a) (hy : ev σ y = .bool b) : (ex σ (.binOp .eql T x y T') ty).run P w = .ok (.value (.bool (a == b))) w := by
  have h := equalIn_bool (P := P) (w := w) 9999 (a := a) (b := b) hT
  simp only [ex, execOp, hx, hy, eqGuard, binOp, Op.equal, Op.maxDepth]
  simp [h]
theorem bN {a : Option Addr} {n c : Nat} {T E : TypeId} (hT : P.underlying T = some (.slice E)) (hx : ev σ x = .slice a n c) : (ex σ (.call ⟨.builtin .len, #[x], #[T]⟩) ty).run P w = .ok (.value (I n)) w := by
  simp [ex, execOp, resolve, invoke, builtin, Builtin.len_, hx, underlying, program, Sem.run, hT, goInt]
theorem eB {s : ByteArray} {T : TypeId} (hT : P.underlying T = some .string) (hx : ev σ x = .string s) : (ex σ (.call ⟨.builtin .len, #[x], #[T]⟩) ty).run P w = .ok (.value (I s.size)) w := by
  simp [ex, execOp, resolve, invoke, builtin, Builtin.len_, hx, underlying, program, Sem.run, hT, goInt]
theorem aF {T : TypeId} {i off : Nat} {b o : Nat} (hF : Fl P T i off) (hx : ev σ x = .pointer (some ⟨b, o, none⟩)) : (ex σ (.fieldAddr T x i) ty).run P w = .ok (.value (.pointer (some ⟨b, o + off, none⟩))) w := by
  obtain ⟨fs, f, hu, hf, ho, n, hn, hn0⟩ := hF
  subst ho
  simp [ex, execOp, hx, Instr.fieldAt, underlying, program, Sem.run, hu, hf, Instr.sureAddr, fieldPlace, hn w, hn0]
  unfold Addr.add; split <;> simp_all
theorem aX {T E : TypeId} {n len cap b o : Nat} {k : IntKind} {i : Int} {a : Option Addr} (hT : P.underlying T = some (.slice E)) (hn : Sz P E n) (hx : ev σ x = .slice a len cap) (hy : ev σ y = .int k i)
    (ha : a = some ⟨b, o, none⟩) (h0 : 0 ≤ i) (h1 : i < len) : (ex σ (.indexAddr T x y) ty).run P w = .ok (.value (.pointer (some ⟨b, o + i.toNat * n, none⟩))) w := by
  subst ha
  simp [ex, execOp, hx, hy, Instr.indexAt, asIntOf, underlying, program, Sem.run, hT, h0, h1, hn w]
  unfold Addr.add; split <;> simp_all
theorem fR {T : TypeId} {s : ByteArray} {k : IntKind} {i : Int} (hT : P.underlying T = some .string) (hx : ev σ x = .string s) (hy : ev σ y = .int k i) (h0 : 0 ≤ i) (h1 : i < s.size) :
    (ex σ (.index T x y) ty).run P w = .ok (.value (.int .u8 (bt s i))) w := by
  have hlt : i.toNat < s.size := by omega
  have e : s[i.toNat]? = some s[i.toNat] := ByteArray.getElem?_lt' _ _ hlt
  simp [ex, execOp, hx, hy, Instr.index, asIntOf, underlying, program, Sem.run, hT, h0, e, bt]
  have : i.toNat < s.data.size := hlt
  rw [Array.getElem?_eq_getElem this]; rfl
theorem x_sliceStr {T : TypeId} {s : ByteArray} {lo hi : Option Operand} {l h : Int} {kl kh : IntKind} (hT : P.underlying T = some .string) (hx : ev σ x = .string s)
    (hl : match lo with | some y => ev σ y = .int kl l | none => l = 0) (hh : match hi with | some y => ev σ y = .int kh h | none => h = s.size) (h0 : 0 ≤ l) (h1 : l ≤ h) (h2 : h ≤ s.size) :
    (ex σ (.slice T x lo hi none) ty).run P w = .ok (.value (.string (s.extract l.toNat h.toNat))) w := by
  obtain ⟨l, rfl⟩ := Int.eq_ofNat_of_zero_le h0
  obtain ⟨h, rfl⟩ := Int.eq_ofNat_of_zero_le (Int.le_trans h0 h1)
  have a1 : l ≤ h := by omega
  have a2 : h ≤ s.size := by omega
  clear h0 h1 h2
  cases lo <;> cases hi <;> simp only [] at hl hh <;> (try simp only [Int.natCast_eq_zero] at hl) <;> (try simp only [Int.ofNat_inj] at hh) <;> (try subst hl) <;> (try subst hh) <;>
    simp [ex, execOp, *, Instr.sliceAt, Instr.slice, Instr.sliceBounds, Instr.sliceBound, asIntOf, underlying, program, Sem.run]
theorem x_sliceSl {T E : TypeId} {a : Option Addr} {n c z : Nat} {lo hi : Option Operand} {l h : Int} {kl kh : IntKind} (hT : P.underlying T = some (.slice E)) (hz : Sz P E z) (hx : ev σ x = .slice a n c)
    (hl : match lo with | some y => ev σ y = .int kl l | none => l = 0) (hh : match hi with | some y => ev σ y = .int kh h | none => h = n) (h0 : 0 ≤ l) (h1 : l ≤ h) (h2 : h ≤ c) :
    (ex σ (.slice T x lo hi none) ty).run P w = .ok (.value (.slice (if c = l.toNat then a else a.map (·.add (l.toNat * z))) (h.toNat - l.toNat) (c - l.toNat))) w := by
  obtain ⟨l, rfl⟩ := Int.eq_ofNat_of_zero_le h0
  obtain ⟨h, rfl⟩ := Int.eq_ofNat_of_zero_le (Int.le_trans h0 h1)
  have a1 : l ≤ h := by omega
  have a2 : h ≤ c := by omega
  clear h0 h1 h2
  cases lo <;> cases hi <;> simp only [] at hl hh <;> (try simp only [Int.natCast_eq_zero] at hl) <;> (try simp only [Int.ofNat_inj] at hh) <;> (try subst hl) <;> (try subst hh) <;>
    simp [ex, execOp, hz w, *, Instr.sliceAt, Instr.slice, Instr.sliceBounds, Instr.sliceBound, asIntOf, underlying, program, Sem.run]
theorem aL {T : TypeId} (v : Value) {b o : Nat} (hT : Sc P T) (hx : ev σ x = .pointer (some ⟨b, o, none⟩)) (hc : w.cell? ⟨b, o, none⟩ = some v) : (ex σ (.load T x) ty).run P w = .ok (.value v) w := by
  simp [ex, execOp, hx, Instr.loadAt, Instr.sureAddr, loadVar, hT w, load, Sem.run, hc]
theorem eO (b o : Nat) : ∀ (n i : Nat) (acc : Array Value) (vs : List Value), vs.length = n → (∀ j, j < n → w.cell? ⟨b, o + (i + j), none⟩ = vs[j]?) →
    (loadCellsFrom ⟨b, o, none⟩ i n acc).run P w = .ok (acc ++ vs.toArray) w
  | 0, i, acc, vs, hl, _ => by
    have : vs = [] := List.length_eq_zero_iff.1 hl
    subst this; simp [loadCellsFrom]
  | n + 1, i, acc, [], hl, _ => by cases hl
  | n + 1, i, acc, v :: vs, hl, hc => by
    have h0 := hc 0 (by omega)
    have he : (⟨b, o, none⟩ : Addr).add i = ⟨b, o + i, none⟩ := by unfold Addr.add; split <;> simp_all
    simp only [loadCellsFrom, load]
    have ih := eO b o n (i + 1) (acc.push v) vs (by simpa using hl) (fun j hj => by
      have := hc (j + 1) (by omega)
      simp only [List.getElem?_cons_succ] at this
      rw [← this]; congr 2; omega)
    show Sem.run P (Sem.bind (Sem.load Mode.plain ((⟨b, o, none⟩ : Addr).add i) .pure) _) w = _
    simp only [Nat.add_zero, List.getElem?_cons_zero] at h0
    simp only [Sem.bind, Sem.run, he, h0]
    rw [ih]; simp
theorem bH {T : TypeId} {n : Nat} (vs : List Value) {b o : Nat} (hT : Ag P T) (hn : Sz P T n) (hx : ev σ x = .pointer (some ⟨b, o, none⟩)) (hl : vs.length = n) (hc : ∀ j, j < n → w.cell? ⟨b, o + j, none⟩ = vs[j]?) :
    (ex σ (.load T x) ty).run P w = .ok (.value (.agg vs.toArray)) w := by
  have h1 := eO (P := P) (w := w) b o n 0 #[] vs hl (fun j hj => by simpa using hc j hj)
  simp [ex, execOp, hx, Instr.loadAt, Instr.sureAddr, loadVar, hT w, hn w, loadCells, h1]
theorem aQ {b o : Nat} {cs : Array Value} {T : TypeId} {fr : Nat × Nat} (h : w.heap[b]? = some (.cells cs T fr)) : w.cell? ⟨b, o, none⟩ = cs[o]? := by
  simp [World.cell?, h]
def cut (cs : List Value) (o n : Nat) : List Value := (cs.drop o).take n
theorem aY {b o n : Nat} {cs vs : List Value} {T : TypeId} {fr : Nat × Nat} (h : w.heap[b]? = some (.cells cs.toArray T fr)) (hv : cut cs o n = vs) (j : Nat) (hj : j < n) : w.cell? ⟨b, o + j, none⟩ = vs[j]? := by
  rw [aQ h, ← hv, cut, List.getElem?_take_of_lt hj, List.getElem?_drop]; simp
def fillL (ps : List (Nat × Nat)) (cells : List Value) : List (Nat × Value) → Option (List Value)
  | [] => some cells
  | (i, v) :: rest => match ps[i]? with
    | none => none
    | some (off, size) =>
      if v.cells.size ≠ size || off + v.cells.size > cells.length then none
      else fillL ps (v.cells.zipIdx.foldl (fun cs (c, j) => cs.set (off + j) c) cells) rest
end ops
structure Sp (m : Nat → Prop) (w w' : World) : Prop where
  size : w.heap.size ≤ w'.heap.size
  keep : ∀ b, b < w.heap.size → ¬ m b → w'.heap[b]? = w.heap[b]?
  os : w'.os = w.os
  tape : w'.tape = w.tape
  output : w'.output = w.output
def noM : Nat → Prop := fun _ => False
theorem Sp.refl (m : Nat → Prop) (w : World) : Sp m w w := ⟨Nat.le_refl _, fun _ _ _ => rfl, rfl, rfl, rfl⟩
theorem Sp.trans {m m' : Nat → Prop} {w w1 w2 : World} (h : Sp m w w1) (h' : Sp m' w1 w2) (hm : ∀ b, m' b → w.heap.size ≤ b ∨ m b) : Sp m w w2 :=
  ⟨Nat.le_trans h.size h'.size, fun b hb hn => by
    rw [h'.keep b (Nat.lt_of_lt_of_le hb h.size) (fun hm' => by rcases hm b hm' with h1 | h1; omega; exact hn h1), h.keep b hb hn],
    h'.os.trans h.os, h'.tape.trans h.tape, h'.output.trans h.output⟩
theorem Sp.below {w w' : World} (h : Sp noM w w') : RowKit.Below w.heap.size w w' := ⟨h.os, h.tape, h.output, h.size, fun b hb => h.keep b hb (fun x => x)⟩
theorem lt_of_get {w : World} {b : Nat} {o : Obj} (h : w.heap[b]? = some o) : b < w.heap.size := (Array.getElem?_eq_some_iff.1 h).1
structure Al (w : World) (o : Obj) (b : Nat) (w' : World) : Prop where
  at_ : b = w.heap.size
  heap : w'.heap = w.heap.push o
  os : w'.os = w.os
  tape : w'.tape = w.tape
  output : w'.output = w.output
theorem Al.new {w w' : World} {o : Obj} {b : Nat} (h : Al w o b w') : w'.heap[b]? = some o := by rw [h.heap, h.at_]; simp
theorem Al.sp {w w' : World} {o : Obj} {b : Nat} (h : Al w o b w') : Sp noM w w' :=
  ⟨by rw [h.heap]; simp, fun x hx _ => by rw [h.heap, Array.getElem?_push, if_neg (by omega)], h.os, h.tape, h.output⟩
structure Wr (w : World) (b : Nat) (o : Obj) (w' : World) : Prop where
  new : w'.heap[b]? = some o
  size : w'.heap.size = w.heap.size
  keep : ∀ x, x ≠ b → w'.heap[x]? = w.heap[x]?
  os : w'.os = w.os
  tape : w'.tape = w.tape
  output : w'.output = w.output
theorem Wr.sp {w w' : World} {o : Obj} {b : Nat} (h : Wr w b o w') : Sp (fun x => x = b) w w' :=
  ⟨by rw [h.size]; exact Nat.le_refl _, fun x _ hx => h.keep x hx, h.os, h.tape, h.output⟩
abbrev Sto := Nat → Option Obj
def Le (h h' : Sto) : Prop := ∀ b o, h b = some o → h' b = some o
theorem Le.refl (h : Sto) : Le h h := fun _ _ x => x
theorem Le.trans {a b c : Sto} (h : Le a b) (h' : Le b c) : Le a c := fun x o hx => h' x o (h x o hx)
def Sto.put (h : Sto) (b : Nat) (o : Obj) : Sto := fun x => bif Nat.beq x b then some o else h x
theorem Sto.put_same (h : Sto) (b : Nat) (o : Obj) : h.put b o b = some o := by simp [Sto.put]
theorem Sto.put_ne (h : Sto) {b x : Nat} (o : Obj) (hx : x ≠ b) : h.put b o x = h x := by
  have : Nat.beq x b = false := by
    cases e : Nat.beq x b with
    | false => rfl
    | true => exact absurd (Nat.eq_of_beq_eq_true e) hx
  unfold Sto.put; rw [this]; rfl
theorem Sto.le_put {h : Sto} {b : Nat} (o : Obj) (hn : h b = none) : Le h (h.put b o) := fun x o' hx => by
  rw [Sto.put_ne]; exact hx; intro e; rw [e, hn] at hx; cases hx
def Has (h : Sto) (w : World) : Prop := ∀ b o, h b = some o → w.heap[b]? = some o
structure St (w0 : World) (m : Nat → Prop) (h0 h : Sto) (w : World) : Prop where
  has : Has h w
  sp : Sp m w0 w
  le : Le h0 h
  fresh : ∀ b, h b ≠ none → h0 b = none → w0.heap.size ≤ b
theorem St.init {w : World} {h : Sto} (hh : Has h w) (m : Nat → Prop) : St w m h h w := ⟨hh, Sp.refl m w, Le.refl h, fun _ h1 h2 => absurd h2 h1⟩
theorem Has.none {h : Sto} {w : World} (hh : Has h w) {b : Nat} (hb : w.heap.size ≤ b) : h b = Option.none := by
  cases e : h b with
  | none => rfl
  | some o => have := lt_of_get (hh b o e); omega
section st
variable {w0 w w' : World} {m m' : Nat → Prop} {h0 h h' : Sto} {b : Nat} {o : Obj}
theorem St.al (st : St w0 m h0 h w) (al : Al w o b w') : St w0 m h0 h w' :=
  ⟨fun x ox hx => by have e := st.has x ox hx; rw [al.sp.keep x (lt_of_get e) (fun z => z)]; exact e, st.sp.trans al.sp (fun _ hx => hx.elim), st.le, st.fresh⟩
theorem St.frz (st : St w0 m h0 h w) (hb : w.heap[b]? = some o) (hn : h b = none) (h0b : w0.heap.size ≤ b) : St w0 m h0 (h.put b o) w :=
  ⟨fun x ox hx => by
    by_cases e : x = b
    · subst e; rw [Sto.put_same] at hx; rw [hb, hx]
    · rw [Sto.put_ne _ _ e] at hx; exact st.has x ox hx,
   st.sp, st.le.trans (Sto.le_put o hn), fun x hx hx0 => by
    by_cases e : x = b
    · subst e; exact h0b
    · rw [Sto.put_ne _ _ e] at hx; exact st.fresh x hx hx0⟩
theorem St.alN (st : St w0 m h0 h w) (al : Al w o b w') : h b = none := st.has.none (by rw [al.at_]; exact Nat.le_refl _)
theorem St.alB (st : St w0 m h0 h w) (al : Al w o b w') : w0.heap.size ≤ b := by rw [al.at_]; exact st.sp.size
theorem St.alF (st : St w0 m h0 h w) (al : Al w o b w') : St w0 m h0 (h.put b o) w' := (st.al al).frz al.new (st.alN al) (st.alB al)
theorem St.wr (st : St w0 m h0 h w) (wr : Wr w b o w') (hn : h b = none) (hm : w0.heap.size ≤ b ∨ m b) : St w0 m h0 h w' :=
  ⟨fun x ox hx => by
    rw [wr.keep x (fun e => by rw [e, hn] at hx; cases hx)]; exact st.has x ox hx, st.sp.trans wr.sp (fun x hx => by rw [hx]; exact hm), st.le, st.fresh⟩
theorem St.call (st : St w0 m h0 h w) (st' : St w m' h h' w') (hm : ∀ b, m' b → w0.heap.size ≤ b ∨ m b) : St w0 m h0 h' w' :=
  ⟨st'.has, st.sp.trans st'.sp hm, st.le.trans st'.le, fun x hx hx0 => by
    by_cases e : h x = none
    · exact Nat.le_trans st.sp.size (st'.fresh x hx e)
    · exact st.fresh x e hx0⟩
theorem St.call0 (st : St w0 m h0 h w) (st' : St w noM h h' w') : St w0 m h0 h' w' := st.call st' (fun _ hx => hx.elim)
theorem St.weak (st : St w0 m h0 h w) (hm : ∀ b, m b → m' b) : St w0 m' h0 h w :=
  ⟨st.has, ⟨st.sp.size, fun b hb hn => st.sp.keep b hb (fun hx => hn (hm b hx)), st.sp.os, st.sp.tape, st.sp.output⟩, st.le, st.fresh⟩
theorem Al.st (al : Al w o b w') (hh : Has h w) : St w noM h h w' := (St.init hh noM).al al
theorem Al.stF (al : Al w o b w') (hh : Has h w) : St w noM h (h.put b o) w' := (St.init hh noM).alF al
theorem Wr.st (wr : Wr w b o w') (hh : Has h w) (hn : h b = none) : St w (fun x => x = b) h h w' := (St.init hh _).wr wr hn (.inr rfl)
structure Mut (h : Sto) (w : World) (b : Nat) (o : Obj) : Prop where
  none : h b = none
  get : w.heap[b]? = some o
theorem Mut.lt (mu : Mut h w b o) : b < w.heap.size := lt_of_get mu.get
theorem Mut.call (mu : Mut h w b o) (st : St w m h h' w') (hm : ¬ m b) : Mut h' w' b o :=
  ⟨by
    cases e : h' b with
    | none => rfl
    | some x => have := st.fresh b (by rw [e]; exact fun z => by cases z) mu.none; have := mu.lt; omega,
   by rw [st.sp.keep b mu.lt hm]; exact mu.get⟩
theorem Mut.call0 (mu : Mut h w b o) (st : St w noM h h' w') : Mut h' w' b o := mu.call st (fun x => x)
theorem Mut.al {b' : Nat} {o' : Obj} (mu : Mut h w b o) (al : Al w o' b' w') : Mut h w' b o := ⟨mu.none, by rw [al.sp.keep b mu.lt (fun z => z)]; exact mu.get⟩
theorem Mut.ne_al {b' : Nat} {o' : Obj} (mu : Mut h w b o) (al : Al w o' b' w') : b ≠ b' := by have := mu.lt; rw [al.at_]; omega
theorem Mut.alF {b' : Nat} {o' : Obj} (mu : Mut h w b o) (al : Al w o' b' w') : Mut (h.put b' o') w' b o := ⟨by rw [Sto.put_ne _ _ (mu.ne_al al)]; exact mu.none, (mu.al al).get⟩
theorem Mut.wr {b' : Nat} {o' : Obj} (mu : Mut h w b o) (wr : Wr w b' o' w') (hb : b ≠ b') : Mut h w' b o := ⟨mu.none, by rw [wr.keep b hb]; exact mu.get⟩
theorem Mut.frz {b' : Nat} (o' : Obj) (mu : Mut h w b o) (hb : b ≠ b') : Mut (h.put b' o') w b o := ⟨by rw [Sto.put_ne _ _ hb]; exact mu.none, mu.get⟩
theorem Mut.new (st : St w0 m h0 h w) (al : Al w o b w') : Mut h w' b o := ⟨st.alN al, al.new⟩
theorem Mut.ne_ty {b' : Nat} {cs cs' : Array Value} {T T' : TypeId} {fr fr' : Nat × Nat} (mu : Mut h w b (.cells cs T fr)) (mu' : Mut h w b' (.cells cs' T' fr')) (hT : T ≠ T') : b ≠ b' := by
  intro e; subst e; have := mu.get.symm.trans mu'.get; simp at this; exact hT this.2.1
end st
def one1 : Value → Bool
  | .agg _ | .tuple _ => false
  | _ => true
def ones : List Value → Bool
  | [] => true
  | v :: vs => one1 v && ones vs
theorem ones_all : ∀ {vs : List Value}, ones vs = true → ∀ v ∈ vs, one1 v = true
  | [], _, _, hm => by cases hm
  | v :: vs, h, u, hm => by
    simp only [ones, Bool.and_eq_true] at h
    rcases List.mem_cons.1 hm with rfl | h2
    · exact h.1
    · exact ones_all h.2 u h2
class GoTy (α : Type) where
  sz : Nat
  rep : Sto → List Value → α → Prop
  mono : ∀ {h h' : Sto} {vs : List Value} {x : α}, Le h h' → rep h vs x → rep h' vs x
  len : ∀ {h : Sto} {vs : List Value} {x : α}, rep h vs x → vs.length = sz
  one : ∀ {h : Sto} {vs : List Value} {x : α}, rep h vs x → ones vs = true
structure SlR {α : Type} [GoTy α] (h : Sto) (a : Option Addr) (c : Nat) (l : List α) : Prop where
  lc : l.length ≤ c
  mx : l.length ≤ mxl
  nil : a = none → c = 0
  el : ∀ A, a = some A → l = [] ∨ (A.spot = none ∧ ∃ cs T fr, h A.block = some (.cells cs T fr) ∧ ∀ j (hj : j < l.length), ∃ vs, GoTy.rep h vs l[j] ∧ ∀ i, i < GoTy.sz α → cs[A.off + (j * GoTy.sz α + i)]? = vs[i]?)
theorem SlR.mono {α : Type} [GoTy α] {h h' : Sto} {a : Option Addr} {c : Nat} {l : List α} (hl : Le h h') (r : SlR h a c l) : SlR h' a c l :=
  ⟨r.lc, r.mx, r.nil, fun A hA => by
    rcases r.el A hA with h2 | ⟨h1, cs, T, fr, hb, hj⟩
    · exact .inl h2
    · exact .inr ⟨h1, cs, T, fr, hl _ _ hb, fun j hj' => by obtain ⟨vs, r1, r2⟩ := hj j hj'; exact ⟨vs, GoTy.mono hl r1, r2⟩⟩⟩
theorem SlR.none {α : Type} [GoTy α] (h : Sto) : SlR h none 0 ([] : List α) := ⟨Nat.zero_le _, Nat.zero_le _, fun _ => rfl, fun _ hA => by cases hA⟩
theorem SlR.at {α : Type} [GoTy α] {h : Sto} {a : Option Addr} {c : Nat} {l : List α} (r : SlR h a c l) {j : Nat} {x : α} (hx : l[j]? = some x) :
    ∃ b o vs, a = some ⟨b, o, Option.none⟩ ∧ GoTy.rep h vs x ∧ ∀ w, Has h w → ∀ i, i < GoTy.sz α → w.cell? ⟨b, o + j * GoTy.sz α + i, Option.none⟩ = vs[i]? := by
  obtain ⟨hj, rfl⟩ := List.getElem?_eq_some_iff.1 hx
  cases a with
  | none => have := r.nil rfl; have := r.lc; omega
  | some A =>
    rcases r.el A rfl with h2 | ⟨h1, cs, T, fr, hb, he⟩
    · subst h2; simp at hj
    · obtain ⟨vs, r1, r2⟩ := he j hj
      obtain ⟨b, o, s⟩ := A
      simp only at h1; subst h1
      exact ⟨b, o, vs, rfl, r1, fun w hw i hi => by rw [aQ (hw _ _ hb), ← r2 i hi, Nat.add_assoc]⟩
instance : GoTy Int where
  sz := 1
  rep _ vs x := vs = [.int .i64 x]
  mono _ r := r
  len r := by rw [r]; rfl
  one r := by rw [r]; rfl
instance : GoTy Bool where
  sz := 1
  rep _ vs x := vs = [.bool x]
  mono _ r := r
  len r := by rw [r]; rfl
  one r := by rw [r]; rfl
instance : GoTy ByteArray where
  sz := 1
  rep _ vs x := vs = [.string x]
  mono _ r := r
  len r := by rw [r]; rfl
  one r := by rw [r]; rfl
instance {α : Type} [GoTy α] : GoTy (List α) where
  sz := 1
  rep h vs l := ∃ a c, vs = [.slice a l.length c] ∧ SlR h a c l
  mono hl r := by obtain ⟨a, c, h1, h2⟩ := r; exact ⟨a, c, h1, h2.mono hl⟩
  len r := by obtain ⟨a, c, h1, h2⟩ := r; rw [h1]; rfl
  one r := by obtain ⟨a, c, h1, h2⟩ := r; rw [h1]; rfl
def Elems {α : Type} [GoTy α] (h : Sto) (cs : Array Value) (l : List α) : Prop :=
  ∀ j (hj : j < l.length), ∃ vs, GoTy.rep h vs l[j] ∧ ∀ i, i < GoTy.sz α → cs[j * GoTy.sz α + i]? = vs[i]?
structure OwnB {α : Type} [GoTy α] (T : TypeId) (h : Sto) (w : World) (b : Nat) (c : Nat) (cs : Array Value) (l : List α) : Prop where
  mu : Mut h w b (.cells cs T (0, 0))
  sz : cs.size = c * GoTy.sz α
  lc : l.length ≤ c
  mx : l.length ≤ mxl
  el : Elems h cs l
def Own {α : Type} [GoTy α] (T : TypeId) (B : Nat) (h : Sto) (w : World) (a : Option Addr) (c : Nat) (l : List α) : Prop :=
  (a = none ∧ c = 0 ∧ l = []) ∨ ∃ b cs, a = some ⟨b, 0, none⟩ ∧ B ≤ b ∧ OwnB T h w b c cs l
def blk (a : Option Addr) : Nat → Prop := fun b => ∃ A, a = some A ∧ A.block = b
section own
variable {α : Type} [GoTy α] {T : TypeId} {B b c : Nat} {h h' h0 : Sto} {w w' w0 : World} {m : Nat → Prop} {a : Option Addr} {l : List α} {o : Obj}
theorem Elems.mono {cs : Array Value} (hl : Le h h') (e : Elems h cs l) : Elems h' cs l := fun j hj => by
  obtain ⟨vs, h1, h2⟩ := e j hj; exact ⟨vs, GoTy.mono hl h1, h2⟩
theorem Own.nil (T : TypeId) (B : Nat) (h : Sto) (w : World) : Own T B h w none 0 ([] : List α) := .inl ⟨rfl, rfl, rfl⟩
theorem Own.lc (ow : Own T B h w a c l) : l.length ≤ c := by
  rcases ow with ⟨_, rfl, rfl⟩ | ⟨b, cs, _, _, o⟩
  · exact Nat.le_refl _
  · exact o.lc
theorem Own.mx (ow : Own T B h w a c l) : l.length ≤ mxl := by
  rcases ow with ⟨_, rfl, rfl⟩ | ⟨b, cs, _, _, o⟩
  · exact Nat.zero_le _
  · exact o.mx
theorem Own.call (ow : Own T B h w a c l) (st : St w m h h' w') (hm : ∀ b, blk a b → ¬ m b) : Own T B h' w' a c l := by
  rcases ow with h1 | ⟨b, cs, ha, hB, o⟩
  · exact .inl h1
  · exact .inr ⟨b, cs, ha, hB, o.mu.call st (hm b ⟨_, ha, rfl⟩), o.sz, o.lc, o.mx, o.el.mono st.le⟩
theorem Own.call0 (ow : Own T B h w a c l) (st : St w noM h h' w') : Own T B h' w' a c l := ow.call st (fun _ _ x => x)
theorem Own.low {B' : Nat} (ow : Own T B h w a c l) (hB : B' ≤ B) : Own T B' h w a c l := by
  rcases ow with h1 | ⟨b, cs, ha, hb, o⟩
  · exact .inl h1
  · exact .inr ⟨b, cs, ha, Nat.le_trans hB hb, o⟩
theorem Own.frz (ow : Own T B h w a c l) (st : St w0 m h0 h w) (hB : w0.heap.size ≤ B) :
    ∃ h', Le h h' ∧ St w0 m h0 h' w ∧ SlR h' a c l ∧ ∀ x, ¬ blk a x → h' x = h x := by
  rcases ow with ⟨rfl, rfl, rfl⟩ | ⟨b, cs, rfl, hb, o⟩
  · exact ⟨h, Le.refl h, st, SlR.none h, fun _ _ => rfl⟩
  · have hle := Sto.le_put (.cells cs T (0, 0)) o.mu.none
    refine ⟨h.put b (.cells cs T (0, 0)), hle, st.frz o.mu.get o.mu.none (Nat.le_trans hB hb), ⟨o.lc, o.mx, (fun e => by cases e), fun A hA => ?_⟩, fun x hx => Sto.put_ne _ _ (fun e => hx ⟨_, rfl, e.symm⟩)⟩
    simp only [Option.some.injEq] at hA
    subst hA
    refine .inr ⟨rfl, cs, T, (0, 0), Sto.put_same _ _ _, fun j hj => ?_⟩
    obtain ⟨vs, h1, h2⟩ := o.el j hj
    exact ⟨vs, GoTy.mono hle h1, fun i hi => by rw [← h2 i hi]; simp⟩
inductive Lits (h : Sto) : List (List Value) → List α → Prop
  | nil : Lits h [] []
  | cons {vs : List Value} {x : α} {vss : List (List Value)} {l : List α} : GoTy.rep h vs x → Lits h vss l → Lits h (vs :: vss) (x :: l)
theorem Lits.elems {vss : List (List Value)} (hl : Lits h vss l) : vss.flatten.length = l.length * GoTy.sz α ∧
    ∀ j (hj : j < l.length), ∃ vs, GoTy.rep h vs l[j] ∧ ∀ i, i < GoTy.sz α → vss.flatten[j * GoTy.sz α + i]? = vs[i]? := by
  induction hl with
  | nil => exact ⟨by simp, fun j hj => by simp at hj⟩
  | @cons vs x vss l hr hl ih =>
    have hlen := GoTy.len hr
    refine ⟨by simp [ih.1, hlen, Nat.add_mul, Nat.add_comm], fun j hj => ?_⟩
    cases j with
    | zero => exact ⟨vs, hr, fun i hi => by simp [List.getElem?_append_left, hlen, hi]⟩
    | succ j =>
      obtain ⟨vs', h1, h2⟩ := ih.2 j (by simpa using hj)
      refine ⟨vs', h1, fun i hi => ?_⟩
      rw [← h2 i hi, List.flatten_cons, List.getElem?_append_right (by rw [hlen, Nat.add_mul]; omega)]
      congr 1; rw [hlen, Nat.add_mul]; omega
theorem Lits.sl {vss : List (List Value)} {cs : List Value} {fr : Nat × Nat} {n : Nat} (hl : Lits h vss l) (hc : vss.flatten = cs) (hn : l.length = n) (hm : n ≤ mxl) (hb : h b = some (.cells cs.toArray T fr)) : SlR h (some ⟨b, 0, none⟩) n l := by
  subst hc; subst hn
  refine ⟨Nat.le_refl _, hm, (fun e => by cases e), fun A hA => ?_⟩
  simp only [Option.some.injEq] at hA
  subst hA
  refine .inr ⟨rfl, _, T, fr, hb, fun j hj => ?_⟩
  obtain ⟨vs, h1, h2⟩ := hl.elems.2 j hj
  exact ⟨vs, h1, fun i hi => by rw [← h2 i hi]; simp⟩
theorem Lits.own {vss : List (List Value)} {cs : List Value} {n : Nat} (hl : Lits h vss l) (hc : vss.flatten = cs) (hn : l.length = n) (hm : n ≤ mxl) (hb : Mut h w b (.cells cs.toArray T (0, 0))) (hB : B ≤ b) : Own T B h w (some ⟨b, 0, none⟩) n l := by
  subst hc; subst hn
  refine .inr ⟨b, _, rfl, hB, hb, by simpa using hl.elems.1, Nat.le_refl _, hm, fun j hj => ?_⟩
  obtain ⟨vs, h1, h2⟩ := hl.elems.2 j hj
  exact ⟨vs, h1, fun i hi => by rw [← h2 i hi]; simp⟩
theorem Lits.mono {vss : List (List Value)} (hle : Le h h') (hl : Lits h vss l) : Lits h' vss l := by
  induction hl with
  | nil => exact .nil
  | cons hr _ ih => exact .cons (GoTy.mono hle hr) ih
end own
section ops
variable {X : Fx} {σ : Env} {w : World} {Q : Post} {k : List Item} {os : List COp} {g : Option (Nat × Bool)} {d : Option Nat} {ty : TypeId} {x y : Operand}
theorem fV (w : World) (o : Obj) : Al w o w.heap.size (w.alloc o) := ⟨rfl, rfl, rfl, rfl, rfl⟩
theorem eF {T : TypeId} (v : Value) (hg : dQ σ g = true) (hd : dOk X.fn.ntmps d = true) (hx : ev σ x = v)
    (h : ∀ b w', Al w (.cells v.cells T (0, 0)) b w' → RunR X os k (put σ d (.pointer (some ⟨b, 0, none⟩))) w' Q) : RunR X (⟨g, d, .box T x, ty⟩ :: os) k σ w Q :=
  rr_value' (v := .pointer (some ⟨w.heap.size, 0, none⟩)) (w' := w.alloc (.cells v.cells T (0, 0))) hg hd (by
    simp [ex, execOp, hx, Instr.box, newVar, newRow, newObj, Sem.run]) (h _ _ (fV w _))
theorem cF {T : TypeId} (z : Value) (hz : Zr X.P T z) (hg : dQ σ g = true) (hd : dOk X.fn.ntmps d = true)
    (h : ∀ b w', Al w (.cells z.cells T (0, 0)) b w' → RunR X os k (put σ d (.pointer (some ⟨b, 0, none⟩))) w' Q) : RunR X (⟨g, d, .alloc T, ty⟩ :: os) k σ w Q :=
  rr_value' (v := .pointer (some ⟨w.heap.size, 0, none⟩)) (w' := w.alloc (.cells z.cells T (0, 0))) hg hd (by
    simp [ex, execOp, Instr.alloc, newVar, newRow, newObj, Sem.run, hz w]) (h _ _ (fV w _))
def eU (cs : List Value) (o : Nat) : List Value → List Value
  | [] => cs
  | v :: vs => eU (cs.set o v) (o + 1) vs
theorem wr_set {w : World} {b : Nat} {cs : Array Value} {T : TypeId} {fr : Nat × Nat} {o : Nat} {v : Value} (hb : w.heap[b]? = some (.cells cs T fr)) : Wr w b (.cells (cs.setIfInBounds o v) T fr) (w.setCell ⟨b, o, none⟩ v) :=
  ⟨by simp [World.setCell, Array.getElem?_modify, hb], by simp, fun x hx => by simp [World.setCell, Array.getElem?_modify]; intro e; exact absurd e.symm hx, rfl, rfl, rfl⟩
theorem fQ {P : Program} {b o : Nat} {T : TypeId} : ∀ (vs : List Value) (i : Nat) (cs : List Value) (w : World), w.heap[b]? = some (.cells cs.toArray T (0, 0)) → (∀ v ∈ vs, one1 v = true) → o + i + vs.length ≤ cs.length →
    ∃ w', (storeCells ⟨b, o, none⟩ vs i).run P w = .ok () w' ∧ Wr w b (.cells (eU cs (o + i) vs).toArray T (0, 0)) w'
  | [], i, cs, w, hb, _, _ => ⟨w, rfl, hb, rfl, fun _ _ => rfl, rfl, rfl, rfl⟩
  | v :: vs, i, cs, w, hb, hv, hl => by
    have he : (⟨b, o, none⟩ : Addr).add i = ⟨b, o + i, none⟩ := by unfold Addr.add; split <;> simp_all
    have hlt : o + i < cs.length := by simp at hl; omega
    have hc : w.cell? ⟨b, o + i, none⟩ = some cs[o + i] := by rw [aQ hb]; simp [hlt]
    have hf : w.frozen? ⟨b, o + i, none⟩ = false := by simp [World.frozen?, hb]
    have w1 := wr_set (w := w) (o := o + i) (v := v) hb
    have e1 : (cs.toArray.setIfInBounds (o + i) v) = (cs.set (o + i) v).toArray := by simp
    rw [e1] at w1
    obtain ⟨w', h1, h2⟩ := fQ (P := P) (o := o) vs (i + 1) (cs.set (o + i) v) (w.setCell ⟨b, o + i, none⟩ v) w1.new (fun u hu => hv u (List.mem_cons_of_mem _ hu)) (by simp at hl ⊢; omega)
    refine ⟨w', ?_, ?_⟩
    · have hv1 := hv v List.mem_cons_self
      show Sem.run P (Sem.bind (Sem.store Mode.plain ((⟨b, o, none⟩ : Addr).add i) v (.pure ())) _) w = _
      rw [he]
      cases v <;> simp only [one1, Bool.false_eq_true] at hv1 <;> simp only [Sem.bind, Sem.run, hc, hf, Bool.false_eq_true, if_false] <;> exact h1
    · exact ⟨h2.new, h2.size.trans w1.size, fun x hx => (h2.keep x hx).trans (w1.keep x hx), h2.os.trans w1.os, h2.tape.trans w1.tape, h2.output.trans w1.output⟩
theorem aV {T U : TypeId} {n b o : Nat} {h0 : Sto} {cs : List Value} (vs cs' : List Value) (v : Value) (hz : Sz X.P T n) (hg : dQ σ g = true) (hd : dOk X.fn.ntmps d = true) (hx : ev σ x = .pointer (some ⟨b, o, none⟩)) (hy : ev σ y = v)
    (mu : Mut h0 w b (.cells cs.toArray U (0, 0))) (hv : v.cells = vs.toArray) (hn : vs.length = n) (h1 : ones vs = true) (hl : Nat.ble (o + n) cs.length = true) (hc : eU cs o vs = cs')
    (h : ∀ w', Wr w b (.cells cs'.toArray U (0, 0)) w' → Mut h0 w' b (.cells cs'.toArray U (0, 0)) → RunR X os k (put σ d undef) w' Q) : RunR X (⟨g, d, .store T x y, ty⟩ :: os) k σ w Q := by
  obtain ⟨w', h2, h3⟩ := fQ (P := X.P) (b := b) (o := o) (T := U) vs 0 cs w mu.get (ones_all h1) (by have := Nat.le_of_ble_eq_true hl; omega)
  rw [Nat.add_zero, hc] at h3
  refine rr_unit' hg hd (w' := w') ?_ (h w' h3 ⟨mu.none, h3.new⟩)
  have hs : v.cells.size = n := by rw [hv]; simpa using hn
  simp [ex, execOp, hx, hy, Instr.storeAt, Instr.sureAddr, storeVar, hz w, hs]
  rw [hv]; simp [h2]
theorem fill_run (ps : List (Nat × Nat)) : ∀ (parts : List (Nat × Value)) (cells out : List Value), fillL ps cells parts = some out → Instr.fill (fun x => ps[x]?) cells.toArray parts = some out.toArray
  | [], cells, out, h => by simp only [fillL, Option.some.injEq] at h; subst h; rfl
  | (i, v) :: rest, cells, out, h => by
    simp only [fillL] at h
    simp only [Instr.fill]
    cases hp : ps[i]? with
    | none => rw [hp] at h; cases h
    | some q =>
      obtain ⟨off, size⟩ := q
      rw [hp] at h
      simp only at h ⊢
      split at h
      · cases h
      · rename_i hc
        have hc2 : ¬ ((decide (v.cells.size ≠ size) || decide (off + v.cells.size > cells.toArray.size)) = true) := by simpa using hc
        rw [if_neg hc2]
        have ih := fill_run ps rest _ out h
        rw [← ih]
        congr 1
        have hz : (v.cells.zipIdx).toList = v.cells.toList.zipIdx := by simp
        rw [← Array.foldl_toList, ← Array.foldl_toList, hz]
        have gen : ∀ (l : List (Value × Nat)) (cs : List Value), l.foldl (fun cs (p : Value × Nat) => cs.setIfInBounds (off + p.2) p.1) cs.toArray = (l.foldl (fun cs (p : Value × Nat) => cs.set (off + p.2) p.1) cs).toArray := by
          intro l
          induction l with
          | nil => intro cs; rfl
          | cons p l ih2 => intro cs; simp only [List.foldl_cons, List.setIfInBounds_toArray]; exact ih2 _
        exact gen v.cells.toList.zipIdx cells
def mapP (σ : Env) (l : List (Nat × Operand)) : List (Nat × Value) := match l with
  | [] => []
  | (i, x) :: l => (i, ev σ x) :: mapP σ l
theorem mapP_eq (σ : Env) (l : List (Nat × Operand)) : l.map (fun p => (p.1, ev σ p.2)) = mapP σ l := by
  induction l with
  | nil => rfl
  | cons p l ih => simp [mapP, ih]
theorem dK {P : Program} {T : TypeId} {zs vs : List Value} {ps : List (Nat × Nat)} {parts : List (Nat × Operand)} (l : List (Nat × Value)) (hB : Bd P T zs ps) (hp : mapP σ parts = l) (hf : fillL ps zs l = some vs) :
    (ex σ (.build T parts.toArray) ty).run P w = .ok (.value (.agg vs.toArray)) w := by
  obtain ⟨hz, fs, hu, hm⟩ := hB
  have h1 := fill_run ps _ _ _ hf
  have h2 := hm w
  simp only [bind_pure_comp] at h2
  have h3 : (parts.map fun (p : Nat × Operand) => (p.1, ev σ p.2)) = l := by rw [mapP_eq, hp]
  simp [ex, execOp, Instr.build, hz w, underlying, program, Sem.run, hu, h2, Value.cells]
  rw [h3, h1]; simp
end ops
section more
variable {X : Fx} {σ : Env} {w : World} {Q : Post} {k : List Item} {os : List COp} {g : Option (Nat × Bool)} {d : Option Nat} {ty : TypeId} {x y : Operand}
def En (P : Program) (f : FuncId) : Prop := ∃ fn, P.funcs[f]? = some fn ∧ (fn.name == "runtime.NumGoroutine") = false ∧ fn.body.isNone = false
theorem cO {P : Program} {f : FuncId} {fn : Func} (h : P.funcs[f]? = some fn) (h1 : (fn.name == "runtime.NumGoroutine") = false) (h2 : fn.body.isNone = false) : En P f := ⟨fn, h, h1, h2⟩
theorem callFunc_run {P : Program} {f : FuncId} (h : En P f) (args : Array Value) (w : World) : (callFunc f args).run P w = .ok (.enter f args) w := by
  obtain ⟨fn, h1, h2, h3⟩ := h
  have h2' : ¬ fn.name = "runtime.NumGoroutine" := by simpa using h2
  have h3' : ¬ fn.body = none := by intro e; rw [e] at h3; cases h3
  simp [callFunc, program, Sem.run, h1, h2', h3']
theorem x_call {P : Program} {f : FuncId} {as : List Operand} {ts : Array TypeId} (vs : List Value) (h : En P f) (ha : evs σ as = vs) :
    (ex σ (.call ⟨.value (.func f), as.toArray, ts⟩) ty).run P w = .ok (.enter f vs.toArray) w := by
  have h1 := callFunc_run h vs.toArray w
  have h2 : as.map (ev σ) = vs := by rw [evs_eq, ha]
  simp [ex, execOp, resolve, ev, Deferred.ofValue, invoke, h2, h1]
theorem x_callV {P : Program} {f : FuncId} {o : Operand} {as : List Operand} {ts : Array TypeId} (fs cs vs us : List Value) (h : En P f) (ho : ev σ o = .func (.func f) fs.toArray cs.toArray) (ha : evs σ as = vs) (hu : fs ++ vs ++ cs = us) :
    (ex σ (.call ⟨.value o, as.toArray, ts⟩) ty).run P w = .ok (.enter f us.toArray) w := by
  have h1 := callFunc_run h us.toArray w
  have h2 : as.map (ev σ) = vs := by rw [evs_eq, ha]
  subst hu
  simp only [List.append_assoc] at h1
  simp [ex, execOp, resolve, ho, Deferred.ofValue, invoke, h2, h1]
theorem aU {f : FuncId} {as : List Operand} {ts : Array TypeId} {R : Value → World → Prop} (vs : List Value) (hE : En X.P f) (hg : dQ σ g = true) (hd : dOk X.fn.ntmps d = true) (ha : evs σ as = vs)
    (hc : Calls X.P f vs.toArray w (Ret R)) (h : ∀ v w', R v w' → RunR X os k (put σ d v) w' Q) : RunR X (⟨g, d, .call ⟨.value (.func f), as.toArray, ts⟩, ty⟩ :: os) k σ w Q :=
  rr_call' hg hd (x_call vs hE ha) hc h
theorem dR {f : FuncId} {o : Operand} {as : List Operand} {ts : Array TypeId} {R : Value → World → Prop} (fs cs vs us : List Value) (hE : En X.P f) (hg : dQ σ g = true) (hd : dOk X.fn.ntmps d = true) (ho : ev σ o = .func (.func f) fs.toArray cs.toArray)
    (ha : evs σ as = vs) (hu : fs ++ vs ++ cs = us) (hc : Calls X.P f us.toArray w (Ret R)) (h : ∀ v w', R v w' → RunR X os k (put σ d v) w' Q) : RunR X (⟨g, d, .call ⟨.value o, as.toArray, ts⟩, ty⟩ :: os) k σ w Q :=
  rr_call' hg hd (x_callV fs cs vs us hE ho ha hu) hc h
def zrow (zs : List Value) (n : Nat) : List Value := (List.range n).map fun i => zs[i % zs.length]?.getD default
def fillS (n : Nat) (cells : List Value) : List (Nat × Value) → Option (List Value)
  | [] => some cells
  | (i, v) :: rest =>
      if v.cells.size ≠ n || i * n + v.cells.size > cells.length then none
      else fillS n (v.cells.zipIdx.foldl (fun cs (c, j) => cs.set (i * n + j) c) cells) rest
theorem fillS_run (n : Nat) : ∀ (parts : List (Nat × Value)) (cells out : List Value), fillS n cells parts = some out → Instr.fill (fun i => some (i * n, n)) cells.toArray parts = some out.toArray
  | [], cells, out, h => by simp only [fillS, Option.some.injEq] at h; subst h; rfl
  | (i, v) :: rest, cells, out, h => by
    simp only [fillS] at h
    simp only [Instr.fill]
    split at h
    · cases h
    · rename_i hc
      have hc2 : ¬ ((decide (v.cells.size ≠ n) || decide (i * n + v.cells.size > cells.toArray.size)) = true) := by simpa using hc
      rw [if_neg hc2]
      have ih := fillS_run n rest _ out h
      rw [← ih]
      congr 1
      have hz : (v.cells.zipIdx).toList = v.cells.toList.zipIdx := by simp
      rw [← Array.foldl_toList, ← Array.foldl_toList, hz]
      have gen : ∀ (l : List (Value × Nat)) (cs : List Value), l.foldl (fun cs (p : Value × Nat) => cs.setIfInBounds (i * n + p.2) p.1) cs.toArray = (l.foldl (fun cs (p : Value × Nat) => cs.set (i * n + p.2) p.1) cs).toArray := by
        intro l
        induction l with
        | nil => intro cs; rfl
        | cons p l ih2 => intro cs; simp only [List.foldl_cons, List.setIfInBounds_toArray]; exact ih2 _
      exact gen v.cells.toList.zipIdx cells
theorem buildSlice_run {P : Program} {T E : TypeId} {len n : Nat} {z : Value} {cells vs : List Value} {A : Array (Nat × Value)} (hT : P.underlying T = some (.slice E)) (hn : Sz P E n) (hz : Zr P E z)
    (hm : Nat.ble (len * n) 1000000 = true) (h0 : Nat.beq (len * n) 0 = false) (hc : zrow z.cells.toList (len * n) = cells) (hf : fillS n cells A.toList = some vs) (w : World) :
    (Instr.buildSlice T len A).run P w = .ok (.slice (some ⟨w.heap.size, 0, none⟩) len len) (w.alloc (.cells vs.toArray E (0, 0))) := by
  have h1 := fillS_run n _ _ _ hf
  have h4 : ¬ len * n > 2 ^ 24 := by have := Nat.le_of_ble_eq_true hm; omega
  have h5 : ¬ len * n = 0 := fun e => by rw [e] at h0; cases h0
  have h6 : ((Array.range (len * n)).map fun i => z.cells[i % z.cells.size]!) = cells.toArray := by
    rw [← hc, zrow]
    apply Array.toList_inj.1
    simp only [Array.toList_map, Array.toList_range, Array.length_toList, Array.getElem?_toList]
    congr 1; funext i; exact getElem!_def ..
  have e1 : (underlying T).run P w = .ok (.slice E) w := by simp [underlying, program, Sem.run, hT]
  simp only [Instr.buildSlice]
  simp [e1, hn w, h4, h5, hz w, h6, h1, newRow, newObj, Sem.run]
theorem cH {T E : TypeId} {len n : Nat} {parts : List (Nat × Operand)} {z : Value} (cells vs : List Value) (l : List (Nat × Value)) (hT : X.P.underlying T = some (.slice E)) (hn : Sz X.P E n) (hz : Zr X.P E z)
    (hg : dQ σ g = true) (hd : dOk X.fn.ntmps d = true) (hm : Nat.ble (len * n) 1000000 = true) (h0 : Nat.beq (len * n) 0 = false) (hc : zrow z.cells.toList (len * n) = cells) (hp : mapP σ parts = l) (hf : fillS n cells l = some vs)
    (h : ∀ b w', Al w (.cells vs.toArray E (0, 0)) b w' → RunR X os k (put σ d (.slice (some ⟨b, 0, none⟩) len len)) w' Q) : RunR X (⟨g, d, .buildSlice T len parts.toArray, ty⟩ :: os) k σ w Q := by
  refine rr_value' (v := .slice (some ⟨w.heap.size, 0, none⟩) len len) (w' := w.alloc (.cells vs.toArray E (0, 0))) hg hd ?_ (h _ _ (fV w _))
  have h3 : ((parts.toArray.map fun (p : Nat × Operand) => (p.1, ev σ p.2))).toList = l := by simp [mapP_eq, hp]
  have h4 := buildSlice_run hT hn hz hm h0 hc (h3 ▸ hf) w
  simp only [List.map_toArray] at h4
  simp [ex, execOp, h4]
theorem setCells_length : ∀ (vs cs : List Value) (o : Nat), (eU cs o vs).length = cs.length
  | [], _, _ => rfl
  | v :: vs, cs, o => by simp [eU, setCells_length vs]
theorem fU : ∀ (vs cs : List Value) (o i : Nat), o + vs.length ≤ cs.length → (eU cs o vs)[i]? = if o ≤ i ∧ i < o + vs.length then vs[i - o]? else cs[i]?
  | [], cs, o, i, _ => by simp [eU]; omega
  | v :: vs, cs, o, i, h => by
    simp only [List.length_cons] at h ⊢
    rw [eU, fU vs (cs.set o v) (o + 1) i (by simp; omega)]
    by_cases h1 : i = o
    · subst h1
      rw [if_neg (by omega), if_pos (by omega), List.getElem?_set_self (by omega)]
      simp
    · by_cases h2 : o + 1 ≤ i ∧ i < o + 1 + vs.length
      · rw [if_pos h2, if_pos (by omega)]
        have : i - o = (i - (o + 1)) + 1 := by omega
        rw [this, List.getElem?_cons_succ]
      · rw [if_neg h2, if_neg (by omega)]
        simp [Ne.symm h1]
theorem growBy_le (need : Nat) : ∀ (r c : Nat), c ≤ need → Builtin.growBy need r c ≤ 2 * need + 768
  | 0, c, h => by simp [Builtin.growBy]; omega
  | r + 1, c, h => by
    simp only [Builtin.growBy]
    split
    · omega
    · by_cases h2 : c + (c + 768) / 4 ≤ need
      · exact growBy_le need r _ h2
      · have : Builtin.growBy need r (c + (c + 768) / 4) = c + (c + 768) / 4 := by
          cases r with
          | zero => rfl
          | succ r => simp only [Builtin.growBy]; rw [if_pos (by omega)]
        rw [this]; omega
theorem nextcap_le (need cap : Nat) (h : cap < need) : Builtin.nextslicecap need cap ≤ 2 * need + 768 := by
  unfold Builtin.nextslicecap
  split
  · omega
  · split
    · omega
    · exact growBy_le need 4 cap (by omega)
theorem SlR.holds {α : Type} [GoTy α] {h : Sto} {a : Option Addr} {c : Nat} {l : List α} (r : SlR h a c l) (hw : Has h w) :
    ∃ vs : List Value, vs.length = l.length * GoTy.sz α ∧ (∀ (P : Program) (c' : Nat), (Builtin.firstCells (GoTy.sz α) l.length (.slice a l.length c')).run P w = .ok vs.toArray w) ∧
      ∀ j (hj : j < l.length), ∃ es, GoTy.rep h es l[j] ∧ ∀ i, i < GoTy.sz α → vs[j * GoTy.sz α + i]? = es[i]? := by
  cases a with
  | none =>
    have h1 := r.nil rfl
    have h2 := r.lc
    have h3 : l = [] := List.length_eq_zero_iff.1 (by omega)
    subst h3
    exact ⟨[], by simp, fun P c' => rfl, fun j hj => by simp at hj⟩
  | some A =>
    rcases r.el A rfl with h2 | ⟨h1, cs, T, fr, hb, he⟩
    · subst h2
      exact ⟨[], by simp, fun P c' => by simp [Builtin.firstCells, loadCells, loadCellsFrom], fun j hj => by simp at hj⟩
    · obtain ⟨b, o, s⟩ := A
      simp only at h1; subst h1
      refine ⟨(cs.toList.drop o).take (l.length * GoTy.sz α), ?_, fun P c' => ?_, fun j hj => ?_⟩
      · rw [List.length_take, List.length_drop]
        by_cases hz : l.length * GoTy.sz α = 0
        · rw [hz]; simp
        · -- the last cell lies in the block
          have hl : 0 < l.length := Nat.pos_of_ne_zero (fun e => by rw [e] at hz; simp at hz)
          have hs : 0 < GoTy.sz α := Nat.pos_of_ne_zero (fun e => by rw [e] at hz; simp at hz)
          obtain ⟨vs, r1, r2⟩ := he (l.length - 1) (by omega)
          have h3 := r2 (GoTy.sz α - 1) (by omega)
          have h4 := GoTy.len r1
          rw [List.getElem?_eq_getElem (by omega)] at h3
          have h5 := (Array.getElem?_eq_some_iff.1 h3).1
          simp only at h5
          have h6 : (l.length - 1) * GoTy.sz α + GoTy.sz α = l.length * GoTy.sz α := by
            rw [← Nat.succ_mul]; congr 1; omega
          simp only [Array.length_toList]; omega
      · have hc : ∀ j, j < l.length * GoTy.sz α → w.cell? ⟨b, o + j, Option.none⟩ = ((cs.toList.drop o).take (l.length * GoTy.sz α))[j]? := fun j hj => by
          rw [aQ (hw _ _ hb), List.getElem?_take_of_lt hj, List.getElem?_drop]; simp
        have hlen : ((cs.toList.drop o).take (l.length * GoTy.sz α)).length = l.length * GoTy.sz α := by
          rw [List.length_take, List.length_drop]
          by_cases hz : l.length * GoTy.sz α = 0
          · rw [hz]; simp
          · have hl : 0 < l.length := Nat.pos_of_ne_zero (fun e => by rw [e] at hz; simp at hz)
            have hs : 0 < GoTy.sz α := Nat.pos_of_ne_zero (fun e => by rw [e] at hz; simp at hz)
            obtain ⟨vs, r1, r2⟩ := he (l.length - 1) (by omega)
            have h3 := r2 (GoTy.sz α - 1) (by omega)
            have h4 := GoTy.len r1
            rw [List.getElem?_eq_getElem (by omega)] at h3
            have h5 := (Array.getElem?_eq_some_iff.1 h3).1
            simp only at h5
            have h6 : (l.length - 1) * GoTy.sz α + GoTy.sz α = l.length * GoTy.sz α := by
              rw [← Nat.succ_mul]; congr 1; omega
            simp only [Array.length_toList]; omega
        have := eO (P := P) (w := w) b o (l.length * GoTy.sz α) 0 #[] _ hlen (fun j hj => by simpa using hc j hj)
        simp [Builtin.firstCells, loadCells, this]
      · obtain ⟨vs, r1, r2⟩ := he j hj
        refine ⟨vs, r1, fun i hi => ?_⟩
        have : j * GoTy.sz α + i < l.length * GoTy.sz α := by
          have : j * GoTy.sz α + GoTy.sz α ≤ l.length * GoTy.sz α := by rw [← Nat.succ_mul]; exact Nat.mul_le_mul_right _ hj
          omega
        rw [List.getElem?_take_of_lt this, List.getElem?_drop, ← r2 i hi]; simp
theorem elems_append {α : Type} [GoTy α] {h : Sto} {cs cs' : Array Value} {l l2 : List α} {vs : List Value} (e : Elems h cs l)
    (e2 : ∀ j (hj : j < l2.length), ∃ es, GoTy.rep h es l2[j] ∧ ∀ i, i < GoTy.sz α → vs[j * GoTy.sz α + i]? = es[i]?)
    (h1 : ∀ i, i < l.length * GoTy.sz α → cs'[i]? = cs[i]?) (h2 : ∀ i, i < l2.length * GoTy.sz α → cs'[l.length * GoTy.sz α + i]? = vs[i]?) : Elems h cs' (l ++ l2) := by
  intro j hj
  by_cases hlt : j < l.length
  · obtain ⟨es, r1, r2⟩ := e j hlt
    refine ⟨es, by rw [List.getElem_append_left hlt]; exact r1, fun i hi => ?_⟩
    have : j * GoTy.sz α + GoTy.sz α ≤ l.length * GoTy.sz α := by rw [← Nat.succ_mul]; exact Nat.mul_le_mul_right _ hlt
    rw [h1 _ (by omega), r2 i hi]
  · have hj2 : j - l.length < l2.length := by simp at hj; omega
    obtain ⟨es, r1, r2⟩ := e2 (j - l.length) hj2
    refine ⟨es, by rw [List.getElem_append_right (by omega)]; exact r1, fun i hi => ?_⟩
    have h3 : (j - l.length) * GoTy.sz α + GoTy.sz α ≤ l2.length * GoTy.sz α := by rw [← Nat.succ_mul]; exact Nat.mul_le_mul_right _ hj2
    have h4 : j * GoTy.sz α + i = l.length * GoTy.sz α + ((j - l.length) * GoTy.sz α + i) := by
      have : j = l.length + (j - l.length) := by omega
      conv => lhs; rw [this, Nat.add_mul]
      omega
    rw [h4, h2 _ (by omega), r2 i hi]
theorem firstCells_own {α : Type} [GoTy α] {T : TypeId} {B c : Nat} {h : Sto} {a : Option Addr} {l : List α} (ow : Own T B h w a c l) :
    ∃ vs : List Value, vs.length = l.length * GoTy.sz α ∧ (∀ P : Program, (Builtin.firstCells (GoTy.sz α) l.length (.slice a l.length c)).run P w = .ok vs.toArray w) ∧
      ∀ j (hj : j < l.length), ∃ es, GoTy.rep h es l[j] ∧ ∀ i, i < GoTy.sz α → vs[j * GoTy.sz α + i]? = es[i]? := by
  rcases ow with ⟨rfl, rfl, rfl⟩ | ⟨b, cs, rfl, hB, o⟩
  · exact ⟨[], by simp, fun P => rfl, fun j hj => by simp at hj⟩
  · have hle : l.length * GoTy.sz α ≤ cs.size := by rw [o.sz]; exact Nat.mul_le_mul_right _ o.lc
    have hlen : (cs.toList.take (l.length * GoTy.sz α)).length = l.length * GoTy.sz α := by rw [List.length_take]; simp; omega
    refine ⟨cs.toList.take (l.length * GoTy.sz α), hlen, fun P => ?_, fun j hj => ?_⟩
    · have := eO (P := P) (w := w) b 0 (l.length * GoTy.sz α) 0 #[] _ hlen (fun j hj => by
        rw [aQ o.mu.get, List.getElem?_take_of_lt hj]; simp)
      simp [Builtin.firstCells, loadCells, this]
    · obtain ⟨vs, r1, r2⟩ := o.el j hj
      refine ⟨vs, r1, fun i hi => ?_⟩
      have : j * GoTy.sz α + GoTy.sz α ≤ l.length * GoTy.sz α := by rw [← Nat.succ_mul]; exact Nat.mul_le_mul_right _ hj
      rw [List.getElem?_take_of_lt (by omega), ← r2 i hi]; simp
theorem ones_of {α : Type} [GoTy α] {h : Sto} {vs : List Value} {l : List α} (hl : vs.length = l.length * GoTy.sz α)
    (e : ∀ j (hj : j < l.length), ∃ es, GoTy.rep h es l[j] ∧ ∀ i, i < GoTy.sz α → vs[j * GoTy.sz α + i]? = es[i]?) : ∀ v ∈ vs, one1 v = true := by
  intro v hv
  obtain ⟨q, hq⟩ := List.getElem?_of_mem hv
  have hlt : q < l.length * GoTy.sz α := by
    have := (List.getElem?_eq_some_iff.1 hq).1; omega
  have hs : 0 < GoTy.sz α := Nat.pos_of_ne_zero (fun e => by rw [e] at hlt; simp at hlt)
  have hj : q / GoTy.sz α < l.length := (Nat.div_lt_iff_lt_mul hs).2 hlt
  obtain ⟨es, r1, r2⟩ := e (q / GoTy.sz α) hj
  have h2 := r2 (q % GoTy.sz α) (Nat.mod_lt _ hs)
  rw [Nat.mul_comm, Nat.div_add_mod, hq] at h2
  exact ones_all (GoTy.one r1) v (List.mem_of_getElem? h2.symm)
structure ApT (P : Program) (E n by_ : Nat) (z : Value) : Prop where
  sz : Sz P E n
  zr : Zr P E z
  by' : By P E by_
  pos : 0 < by_
  le : by_ ≤ 256
  zn : z.cells.size = n
theorem append_run {α : Type} [GoTy α] {P : Program} {sT E xT by_ : Nat} {z : Value} {B c c2 : Nat} {h : Sto} {a a2 : Option Addr} {l l2 : List α} {n : Nat}
    (hT : P.underlying sT = some (.slice E)) (hX : P.underlying xT = some (.slice E)) (hA : ApT P E (GoTy.sz α) by_ z)
    (hw : Has h w) (hB : B ≤ w.heap.size) (ow : Own E B h w a c l) (r2 : SlR h a2 c2 l2) (hn : l2.length = n) (hl : l.length + n ≤ apl) :
    ∃ a' c' w', (Builtin.append_ #[sT, xT] ty #[.slice a l.length c, .slice a2 n c2]).run P w = .ok (.slice a' (l ++ l2).length c') w' ∧
      Own E B h w' a' c' (l ++ l2) ∧ St w (blk a) h h w' ∧ ∀ b, blk a' b → blk a b ∨ w.heap.size ≤ b := by
  subst hn
  obtain ⟨old, ho1, ho2, ho3⟩ := firstCells_own ow
  obtain ⟨new, hn1, hn2, hn3⟩ := r2.holds hw
  have hu : (underlying sT).run P w = .ok (.slice E) w := by simp [underlying, program, Sem.run, hT]
  have hu2 : (underlying xT).run P w = .ok (.slice E) w := by simp [underlying, program, Sem.run, hX]
  have hsz := hA.sz w
  obtain ⟨ti, hby, hti⟩ := hA.by'
  have hnew := hn2 P c2
  have hold := ho2 P
  have ea : apl = 274877906944 := rfl
  have em : mxl = 140737488355328 := rfl
  have hmx : (l ++ l2).length ≤ mxl := by rw [List.length_append]; omega
  by_cases hc : l.length + l2.length ≤ c
  · rcases ow with ⟨rfl, rfl, rfl⟩ | ⟨b, cs, rfl, hb, o⟩
    · have e2 : l2 = [] := List.length_eq_zero_iff.1 (by simpa using hc)
      subst e2
      refine ⟨none, 0, w, ?_, Own.nil _ _ _ _, St.init hw _, fun b hb => by obtain ⟨A, hA, _⟩ := hb; cases hA⟩
      simp at hnew
      simp [Builtin.append_, hu, hu2, hsz, Builtin.lenOf, hnew]
    · have hlen : (0 : Nat) + l.length * GoTy.sz α + new.length ≤ cs.toList.length := by
        have h9 : (l.length + l2.length) * GoTy.sz α ≤ c * GoTy.sz α := Nat.mul_le_mul_right _ hc
        rw [Nat.add_mul] at h9
        have h8 := o.sz
        rw [hn1]; simp only [Array.length_toList]; omega
      obtain ⟨w', h2, h3⟩ := fQ (P := P) (b := b) (o := l.length * GoTy.sz α) (T := E) new 0 cs.toList w (by simpa using o.mu.get) (ones_of hn1 hn3) (by omega)
      rw [Nat.add_zero] at h3
      refine ⟨some ⟨b, 0, none⟩, c, w', ?_, .inr ⟨b, _, rfl, hb, ⟨o.mu.none, h3.new⟩, ?_, by simpa using hc, hmx, ?_⟩, (h3.st hw o.mu.none).weak (fun x hx => ⟨_, rfl, hx.symm⟩), fun x hx => .inl hx⟩
      · have he : (⟨b, 0, none⟩ : Addr).add (l.length * GoTy.sz α) = ⟨b, l.length * GoTy.sz α, none⟩ := by unfold Addr.add; split <;> simp_all
        simp [Builtin.append_, hu, hu2, hsz, Builtin.lenOf, hnew, hc, he, h2]
      · simp [setCells_length, o.sz]
      · refine elems_append o.el hn3 (fun i hi => ?_) (fun i hi => ?_)
        · have := fU new cs.toList (l.length * GoTy.sz α) i (by omega)
          rw [if_neg (by omega)] at this
          simpa using this
        · have := fU new cs.toList (l.length * GoTy.sz α) (l.length * GoTy.sz α + i) (by omega)
          rw [if_pos (by omega), Nat.add_sub_cancel_left] at this
          simpa using this
  · have hlc := ow.lc
    have hnc := nextcap_le (l.length + l2.length) c (by omega)
    have hbig : ¬ (2 : Nat) ^ 48 < Builtin.nextslicecap (l.length + l2.length) c * by_ := by
      have h5 : Builtin.nextslicecap (l.length + l2.length) c * by_ ≤ (2 * (l.length + l2.length) + 768) * 256 := Nat.mul_le_mul hnc hA.le
      omega
    obtain ⟨t, ht⟩ : ∃ t, t = w.tape w.drawn (.appendCap (l.length + l2.length) c E) := ⟨_, rfl⟩
    have hpos := hA.pos
    subst hby
    have hb0 : ¬ ti.bytes = 0 := by omega
    have hwd : Has h w.drew := hw
    have owd : Own E B h w.drew a c l := by
      rcases ow with h1 | ⟨b, cs, ha, hb, o⟩
      · exact .inl h1
      · exact .inr ⟨b, cs, ha, hb, ⟨o.mu.none, o.mu.get⟩, o.sz, o.lc, o.mx, o.el⟩
    obtain ⟨old, ho1, ho2, ho3⟩ := firstCells_own owd
    obtain ⟨new, hn1, hn2, hn3⟩ := r2.holds hwd
    have hnew := hn2 P c2
    have hold := ho2 P
    have hz := hA.zr w.drew
    have hf : (Question.appendCap (l.length + l2.length) c E).forced = false := rfl
    have hrest : ∀ m : Nat, (Builtin.zeroCells z.cells m).size = m * GoTy.sz α := by intro m; simp [Builtin.zeroCells, hA.zn]
    have hcut : ∀ t : Nat, (Question.appendCap (l.length + l2.length) c E).cut t = l.length + l2.length + t % (2 ^ 63 - (l.length + l2.length)) := fun _ => rfl
    obtain ⟨ex, hex⟩ : ∃ ex, ex = w.tape w.drawn (Question.appendCap (l.length + l2.length) c E) % (2 ^ 63 - (l.length + l2.length)) := ⟨_, rfl⟩
    have hr : (Builtin.append_ #[sT, xT] ty #[.slice a l.length c, .slice a2 l2.length c2]).run P w = .ok (.slice (some ⟨w.heap.size, 0, none⟩) (l ++ l2).length (l.length + l2.length + ex)) (w.drew.alloc (.cells (old ++ (new ++ (Builtin.zeroCells z.cells ex).toList)).toArray E (0, 0))) := by
      simp [Builtin.append_, hu, hu2, hsz, Builtin.lenOf, hc, hti, hb0, hbig, hf, hold, hnew, hz, hcut, newRow, newObj, Sem.run, ← hex]
      congr 2
      apply Array.toList_inj.1; simp
    refine ⟨_, _, _, hr, .inr ⟨w.heap.size, (old ++ (new ++ (Builtin.zeroCells z.cells ex).toList)).toArray, rfl, hB, ⟨hw.none (Nat.le_refl _), ?_⟩, ?_, by rw [List.length_append]; omega, hmx, ?_⟩, ?_, fun b hb => .inr ?_⟩
    · show (w.heap.push _)[w.heap.size]? = _; simp
    · simp [hn1, ho1, hrest, Nat.add_mul, Nat.add_assoc]
    · refine elems_append (vs := new) (cs := old.toArray) (fun j hj => ?_) hn3 (fun i hi => ?_) (fun i hi => ?_)
      · obtain ⟨es, r1, r3⟩ := ho3 j hj
        exact ⟨es, r1, fun i hi => by rw [← r3 i hi]; simp⟩
      · simp [List.getElem?_append_left (by rw [ho1]; exact hi : i < old.length)]
      · have e1 : ¬ l.length * GoTy.sz α + i < old.length := by rw [ho1]; omega
        have e2 : i < new.length := by rw [hn1]; exact hi
        simp only [List.getElem?_toArray]
        rw [List.getElem?_append_right (by omega), List.getElem?_append_left (by omega)]
        congr 1; omega
    · have al : Al w.drew (.cells (old ++ (new ++ (Builtin.zeroCells z.cells ex).toList)).toArray E (0, 0)) w.heap.size (w.drew.alloc (.cells (old ++ (new ++ (Builtin.zeroCells z.cells ex).toList)).toArray E (0, 0))) := fV w.drew _
      have st := al.st hwd
      exact ⟨st.has, ⟨st.sp.size, fun x hx _ => st.sp.keep x hx (fun z => z), rfl, rfl, rfl⟩, Le.refl h, fun x h1 h2 => absurd h2 h1⟩
    · obtain ⟨A, hA, hAb⟩ := hb
      simp only [Option.some.injEq] at hA
      subst hA; rw [← hAb]; exact Nat.le_refl _
theorem eG {α : Type} [GoTy α] {sT E xT by_ : Nat} {z : Value} {B c c2 : Nat} {h : Sto} {a a2 : Option Addr} {l l2 : List α} {n n2 : Nat}
    (hT : X.P.underlying sT = some (.slice E)) (hX : X.P.underlying xT = some (.slice E)) (hA : ApT X.P E (GoTy.sz α) by_ z) (hg : dQ σ g = true) (hd : dOk X.fn.ntmps d = true)
    (hx : ev σ x = .slice a n2 c) (hy : ev σ y = .slice a2 n c2) (hw : Has h w) (hB : B ≤ w.heap.size) (ow : Own E B h w a c l) (r2 : SlR h a2 c2 l2) (hn2 : l.length = n2) (hn : l2.length = n) (hl : l.length + l2.length ≤ apl)
    (hk : ∀ a' c' w', Own E B h w' a' c' (l ++ l2) → St w (blk a) h h w' → (∀ b, blk a' b → blk a b ∨ w.heap.size ≤ b) → RunR X os k (put σ d (.slice a' (l ++ l2).length c')) w' Q) :
    RunR X (⟨g, d, .call ⟨.builtin .append, #[x, y], #[sT, xT]⟩, ty⟩ :: os) k σ w Q := by
  subst hn2
  obtain ⟨a', c', w', h1, h2, h3, h4⟩ := append_run (ty := ty) hT hX hA hw hB ow r2 hn (by rw [hn] at hl; exact hl)
  refine rr_value' (v := .slice a' (l ++ l2).length c') (w' := w') hg hd ?_ (hk a' c' w' h2 h3 h4)
  simp [ex, execOp, resolve, invoke, builtin, hx, hy, h1]
end more
section words
variable {X : Fx} {P : Program} {σ : Env} {w w' w0 : World} {Q : Post} {k : List Item} {os : List COp} {g : Option (Nat × Bool)} {d : Option Nat} {ty : TypeId} {x y : Operand} {h h' h0 : Sto} {b : Nat} {o : Obj} {m m' : Nat → Prop}
theorem aZ {op : Op} {v : Value} {w' : World} (hg : dQ σ g = true) (hd : dOk X.fn.ntmps d = true)
    (he : (ex σ op ty).run X.P w = .ok (.value v) w') (h : RunR X os k (put σ d v) w' Q) : RunR X (⟨g, d, op, ty⟩ :: os) k σ w Q := rr_value' hg hd he h
theorem aR {op : Op} (hg : dQ σ g = false) (hd : dOk X.fn.ntmps d = true) (h : RunR X os k (put σ d undef) w Q) : RunR X (⟨g, d, op, ty⟩ :: os) k σ w Q := rr_skip' hg hd h
theorem wt {t : Nat} {c p : Bool} (hs : σ t = .bool p) (hp : p = c) : dQ σ (some (t, c)) = true := by simp [dQ, hs, hp]
theorem wf {t : Nat} {c p : Bool} (hs : σ t = .bool p) (hp : p = !c) : dQ σ (some (t, c)) = false := by subst hp; simp [dQ, hs]
theorem evs_c {a : Value} {l : List Operand} {vs : List Value} (ha : ev σ x = a) (hb : evs σ l = vs) : evs σ (x :: l) = a :: vs := by simp [evs, ha, hb]
theorem eI {a : Tmp} {T : TypeId} {n : Nat} (vs : List Value) {b o : Nat} (hT : Ag P T) (hn : Sz P T n) (hx : σ a = .pointer (some ⟨b, o, none⟩)) (hl : vs.length = n) (hc : ∀ j, j < n → w.cell? ⟨b, o + j, none⟩ = vs[j]?) : rv P σ w (.cell a T) (.agg vs.toArray) := by
  have h1 := eO (P := P) (w := w) b o n 0 #[] vs hl (fun j hj => by simpa using hc j hj)
  exact ⟨_, hx, by simp [loadVar, hT w, hn w, loadCells, h1]⟩
theorem Al.fz (al : Al w o b w') (hh : Has h w) : ∃ h', Le h h' ∧ h' b = some o ∧ St w noM h h' w' := by
  have st := al.stF hh
  exact ⟨h.put b o, st.le, Sto.put_same _ _ _, st⟩
theorem Mut.fz (mu : Mut h w b o) (st : St w0 m h0 h w) (lb : w0.heap.size ≤ b) : ∃ h', Le h h' ∧ h' b = some o ∧ St w0 m h0 h' w ∧ ∀ x, x ≠ b → h' x = h x :=
  ⟨h.put b o, Sto.le_put _ mu.none, Sto.put_same _ _ _, st.frz mu.get mu.none lb, fun _ hx => Sto.put_ne _ _ hx⟩
theorem Mut.fr {b' : Nat} {o' : Obj} (mu : Mut h w b' o') (hk : ∀ x, x ≠ b → h' x = h x) (ne : b' ≠ b) : Mut h' w b' o' := ⟨by rw [hk _ ne]; exact mu.none, mu.get⟩
theorem Mut.frB {b' : Nat} {o' : Obj} {a : Option Addr} (mu : Mut h w b' o') (hk : ∀ x, ¬ blk a x → h' x = h x) (ne : ¬ blk a b') : Mut h' w b' o' := ⟨by rw [hk _ ne]; exact mu.none, mu.get⟩
theorem Own.fr {α : Type} [GoTy α] {T : TypeId} {B c : Nat} {a : Option Addr} {l : List α} (ow : Own T B h w a c l) (le : Le h h') (hk : ∀ x, x ≠ b → h' x = h x) (ne : ¬ blk a b) : Own T B h' w a c l := by
  rcases ow with h1 | ⟨b', cs, ha, hB, o⟩
  · exact .inl h1
  · exact .inr ⟨b', cs, ha, hB, o.mu.fr hk (fun e => ne ⟨_, ha, e⟩), o.sz, o.lc, o.mx, o.el.mono le⟩
theorem Own.frB {α : Type} [GoTy α] {T : TypeId} {B c : Nat} {a a' : Option Addr} {l : List α} (ow : Own T B h w a c l) (le : Le h h') (hk : ∀ x, ¬ blk a' x → h' x = h x) (ne : ∀ x, blk a x → ¬ blk a' x) : Own T B h' w a c l := by
  rcases ow with h1 | ⟨b', cs, ha, hB, o⟩
  · exact .inl h1
  · exact .inr ⟨b', cs, ha, hB, o.mu.frB hk (ne _ ⟨_, ha, rfl⟩), o.sz, o.lc, o.mx, o.el.mono le⟩
theorem Own.ne_mut {α : Type} [GoTy α] {T T' : TypeId} {B c : Nat} {a : Option Addr} {l : List α} {cs : Array Value} {fr : Nat × Nat} (ow : Own T B h w a c l) (mu : Mut h w b (.cells cs T' fr)) (hT : T ≠ T') : ¬ blk a b := by
  rintro ⟨A, hA, e⟩
  rcases ow with ⟨rfl, _, _⟩ | ⟨b', cs', ha, hB, o⟩
  · cases hA
  · rw [ha] at hA; simp only [Option.some.injEq] at hA; subst hA; simp only at e; subst e
    exact Mut.ne_ty o.mu mu hT rfl
theorem Own.ne_own {α β : Type} [GoTy α] [GoTy β] {T T' : TypeId} {B c B' c' : Nat} {a a' : Option Addr} {l : List α} {l' : List β} (ow : Own T B h w a c l) (ow' : Own T' B' h w a' c' l') (hT : T ≠ T') : ∀ x, blk a x → ¬ blk a' x := by
  rintro x ⟨A, hA, e⟩ hx
  rcases ow with ⟨rfl, _, _⟩ | ⟨b', cs', ha, hB, o⟩
  · cases hA
  · rw [ha] at hA; simp only [Option.some.injEq] at hA; subst hA; simp only at e; subst e
    exact ow'.ne_mut o.mu (Ne.symm hT) hx
theorem wt2 {t : Nat} {c p : Bool} (hp : p = c) (hs : σ t = .bool p) : dQ σ (some (t, c)) = true := wt hs hp
theorem wf2 {t : Nat} {c p : Bool} (hp : p = !c) (hs : σ t = .bool p) : dQ σ (some (t, c)) = false := wf hs hp
theorem vv {op : Op} {v : Value} {w' : World} {d : Option Nat} (hd : dOk X.fn.ntmps d = true) (he : (ex σ op ty).run X.P w = .ok (.value v) w') (h : RunR X os k (put σ d v) w' Q) : RunR X (⟨none, d, op, ty⟩ :: os) k σ w Q := aZ rfl hd he h
theorem wu {t : Nat} {c : Bool} (hs : σ t = undef) : dQ σ (some (t, c)) = false := by simp [dQ, hs, undef]
theorem mf {fn : Fn} {f1 c1 : List Operand} {vs us : List Value} (h1 : evs σ f1 = vs) (h2 : evs σ c1 = us) : Value.func fn (f1.toArray.map (ev σ)) (c1.toArray.map (ev σ)) = .func fn vs.toArray us.toArray := by
  simp [evs_eq, h1, h2]
theorem Own.lbs {α : Type} [GoTy α] {T : TypeId} {B c : Nat} {a : Option Addr} {l : List α} (ow : Own T B h w a c l) : ∀ x, blk a x → B ≤ x := by
  rintro x ⟨A, hA, e⟩
  rcases ow with ⟨rfl, _, _⟩ | ⟨b', cs', ha, hB, o⟩
  · cases hA
  · rw [ha] at hA; simp only [Option.some.injEq] at hA; subst hA; simp only at e; subst e; exact hB
theorem Has.le (le : Le h h') (hh : Has h' w) : Has h w := fun b o hx => hh b o (le b o hx)
theorem el_one {b o s off : Nat} {vs : List Value} {v : Value} (cl : ∀ i, i < s → w.cell? ⟨b, o + i, none⟩ = vs[i]?) (hn : off < s) (hv : vs[off]? = some v) : w.cell? ⟨b, o + off, none⟩ = some v := by
  rw [cl _ hn, hv]
theorem SlR.slice {α : Type} [GoTy α] {a : Option Addr} {c : Nat} {l : List α} {lo hi : Int} (r : SlR h a c l) (h0 : 0 ≤ lo) (h1 : lo ≤ hi) (h2 : hi ≤ (l.length : Int)) :
    SlR h (if c = lo.toNat then a else a.map (·.add (lo.toNat * GoTy.sz α))) (c - lo.toNat) ((l.take hi.toNat).drop lo.toNat) := by
  have hlc := r.lc
  have hmx := r.mx
  have hlen : ((l.take hi.toNat).drop lo.toNat).length = hi.toNat - lo.toNat := by rw [List.length_drop, List.length_take]; omega
  refine ⟨by rw [hlen]; omega, by rw [hlen]; omega, fun hn => ?_, fun A hA => ?_⟩
  · split at hn
    · omega
    · cases a with
      | none => have := r.nil rfl; omega
      | some A => cases hn
  · split at hA
    · rename_i hc
      exact .inl (List.length_eq_zero_iff.1 (by rw [hlen]; omega))
    · cases a with
      | none => cases hA
      | some A' =>
        simp only [Option.map_some, Option.some.injEq] at hA
        subst hA
        rcases r.el A' rfl with h4 | ⟨h3, cs, T, fr, hb, he⟩
        · exact .inl (by subst h4; simp)
        · refine .inr ⟨by unfold Addr.add; split <;> simp [h3], cs, T, fr, by unfold Addr.add; split <;> exact hb, fun j hj => ?_⟩
          rw [hlen] at hj
          obtain ⟨vs, r1, r2⟩ := he (lo.toNat + j) (by omega)
          refine ⟨vs, ?_, fun i hi' => ?_⟩
          · have : ((l.take hi.toNat).drop lo.toNat)[j]'(by rw [hlen]; exact hj) = l[lo.toNat + j]'(by omega) := by simp
            rw [this]; exact r1
          · rw [← r2 i hi', Nat.add_mul]
            congr 1
            unfold Addr.add; split <;> simp_all <;> omega
theorem bK {p : Bool} (h : p = false) : (!p) = true := by rw [h]; rfl
theorem bL {p : Bool} (h : p = true) : (!p) = false := by rw [h]; rfl
theorem cA {p : Bool} (h : ¬ p = true) : p = false := by cases p <;> simp_all
theorem cV {α : Type} {l : List α} {j : Nat} (h : l.drop j = []) : decide ((j : Int) < (l.length : Int)) = false := by
  have := List.drop_eq_nil_iff.1 h
  exact decide_eq_false (by omega)
theorem cL {α : Type} {l xs : List α} {x : α} {j : Nat} (h : l.drop j = x :: xs) : decide ((j : Int) < (l.length : Int)) = true ∧ j < l.length ∧ l[j]? = some x ∧ l.drop (j + 1) = xs := by
  have hj : j < l.length := by
    rcases Nat.lt_or_ge j l.length with h1 | h1
    · exact h1
    · rw [List.drop_eq_nil_iff.2 h1] at h; cases h
  have e := List.drop_eq_getElem_cons hj
  rw [h] at e
  simp only [List.cons.injEq] at e
  exact ⟨decide_eq_true (by omega), hj, by rw [e.1]; simp, e.2.symm⟩
theorem dL {α : Type} {l : List α} {j : Nat} (hj : j < l.length) (hm : l.length ≤ mxl) : binI .add .i64 (j : Int) 1 = some (I ((j + 1 : Nat) : Int)) := by
  have e : mxl = 140737488355328 := rfl
  simp only [binI, wrk]
  rw [wr_id (by omega) (by omega)]; rfl
end words
def depsOf (o : Oper) : List Nat := (o.after.toList.filter (fun e => Region.binds .any e)).map (·.on)
def rDrw : Code → Option (List COp × List (List Nat))
  | .region _ ops true => match cOpsL ops ops.toList with
    | some cs => some (cs, ops.toList.map depsOf)
    | none => none
  | _ => none
def tmpOf : Operand → Option Nat
  | .tmp t => some t
  | _ => none
def slotsOf (c : COp) : List Nat := c.op.operands.toList.filterMap tmpOf ++ (match c.g with | some (t, _) => [t] | none => [])
def noSel : Op → Bool
  | .select _ _ => false
  | _ => true
def beqO : Option Nat → Nat → Bool
  | some a, b => Nat.beq a b
  | none, _ => false
def memN : List Nat → Nat → Bool
  | [], _ => false
  | a :: l, b => Nat.beq a b || memN l b
theorem dS {l : List Nat} {b : Nat} : memN l b = true ↔ b ∈ l := by
  induction l with
  | nil => simp [memN]
  | cons a l ih =>
    simp only [memN, Bool.or_eq_true, ih, List.mem_cons]
    exact or_congr ⟨fun h => (Nat.eq_of_beq_eq_true h).symm, fun h => by rw [h]; exact Nat.beq_refl a⟩ Iff.rfl
def reachN (dl : List (List Nat)) : Nat → Nat → List Nat
  | 0, _ => []
  | f + 1, i => (dl.getD i []) ++ (dl.getD i []).flatMap (reachN dl f)
def lastq : Option Nat → List (Nat × Bool) → Option Nat
  | q, [] => q
  | q, (i, b) :: a => lastq (if b then some i else q) a
def chkOps (cops : List COp) (dl : List (List Nat)) (n : Nat) (chl : List Nat) : Option Nat → List Nat → List (Nat × Bool) → Bool
  | _, _, [] => true
  | q, pre, (i, b) :: l =>
    (match cops[i]?, dl[i]? with
      | some c, some ds => ds.all (memN pre) && noSel c.op && !memN pre i &&
          ((List.range cops.length).all fun j => match cops[j]? with
            | some cj => (!(slotsOf c).any (beqO cj.d) || memN ds j || (memN chl j && memN (dl.getD j []) i)) && (Nat.beq i j || (match c.d with | some d => !beqO cj.d d | none => true))
            | none => true) && dOk n c.d && (if b then memN chl i else !memN chl i)
      | _, _ => false) &&
    (if b then !l.isEmpty || pre.all (memN (reachN dl cops.length i)) else match q with | some p => memN (reachN dl cops.length i) p | none => true) &&
      chkOps cops dl n chl (if b then some i else q) (pre ++ [i]) l
def chn (canon : List (Nat × Bool)) : List Nat := (canon.filter (·.2)).map (·.1)
def chkAll (cops : List COp) (dl : List (List Nat)) (n : Nat) (canon : List (Nat × Bool)) : Bool :=
  Nat.beq canon.length cops.length && ((List.range cops.length).all fun i => memN (canon.map (·.1)) i) && chkOps cops dl n (chn canon) none [] canon
def tailsOf (cs : List (List Nat)) (i : Nat) : List (List Nat) := cs.filterMap fun c => match c with
  | x :: xs => if Nat.beq x i then some xs else none
  | [] => none
def covers (rc : Nat → List Nat) : Nat → List (List Nat) → List Nat → Bool
  | 0, cs, rem => rem.isEmpty && cs.any (·.isEmpty)
  | f + 1, cs, rem => if rem.isEmpty then cs.any (·.isEmpty) else rem.all fun i => (rem.any fun j => !Nat.beq i j && memN (rc i) j) || covers rc f (tailsOf cs i) (rem.filter fun j => !Nat.beq i j)
def chkCs (cops : List COp) (dl : List (List Nat)) (n : Nat) (ch : List Nat) (canons : List (List (Nat × Bool))) : Bool :=
  !canons.isEmpty && (canons.all fun c => chkAll cops dl n c && (chn c).all (memN ch) && ch.all (memN (chn c))) && covers (reachN dl cops.length) ch.length (canons.map chn) ch
structure Al0 (w w' : World) : Prop where
  heap : w'.heap = w.heap
  os : w'.os = w.os
  tape : w'.tape = w.tape
  output : w'.output = w.output
def OpV (P : Program) (σ : Env) (c : COp) (w : World) (v : Value) : Prop :=
  (dQ σ c.g = true ∧ (ex σ c.op c.ty).run P w = .ok (.value v) w) ∨ (dQ σ c.g = false ∧ v = undef)
def OpD (P : Program) (σ : Env) (c : COp) (w : World) (K : Value → World → Prop) : Prop :=
  (dQ σ c.g = false ∧ K undef w) ∨ (dQ σ c.g = true ∧ ((∃ v w', (ex σ c.op c.ty).run P w = .ok (.value v) w' ∧ K v w') ∨ (∃ w', (ex σ c.op c.ty).run P w = .ok .skip w' ∧ K undef w') ∨
    ∃ f args, (ex σ c.op c.ty).run P w = .ok (.enter f args) w ∧ Calls P f args w (Ret K)))
def Dr (X : Fx) (Ok : World → Prop) (cops : List COp) (k : List Item) (Q : Post) : List (Nat × Bool) → Env → World → Prop
  | [], σ, w => Run X k σ w Q
  | (i, false) :: l, σ, w => ∃ c v, cops[i]? = some c ∧ (∀ w', Ok w' → OpV X.P σ c w' v) ∧ Dr X Ok cops k Q l (put σ c.d v) w
  | (i, true) :: l, σ, w => ∃ c, cops[i]? = some c ∧ OpD X.P σ c w (fun v w' => (l = [] ∨ Ok w') ∧ Dr X Ok cops k Q l (put σ c.d v) w')
theorem ex_congr {σ e : Env} {c : COp} (hs : noSel c.op = true) (h : ∀ t ∈ slotsOf c, e t = σ t) : ex e c.op c.ty = ex σ c.op c.ty := by
  refine execOp_congr _ (fun cs b hc => ?_) (fun x hx => ?_)
  · have : c.op = .select cs b := hc
    rw [this] at hs; cases hs
  · cases x with
    | tmp t => exact h t (List.mem_append_left _ (List.mem_filterMap.2 ⟨.tmp t, by simpa using hx, rfl⟩))
    | _ => rfl
theorem wants_congr {σ e : Env} {c : COp} (h : ∀ t ∈ slotsOf c, e t = σ t) : dQ e c.g = dQ σ c.g := by
  unfold slotsOf at h
  cases hg : c.g with
  | none => rfl
  | some p =>
    obtain ⟨t, b⟩ := p
    have := h t (by rw [hg]; simp)
    simp [dQ, this]
theorem OpV.congr {P : Program} {σ e : Env} {c : COp} {w : World} {v : Value} (hs : noSel c.op = true) (h : ∀ t ∈ slotsOf c, e t = σ t) (hv : OpV P σ c w v) : OpV P e c w v := by
  unfold OpV at *; rw [ex_congr hs h, wants_congr h]; exact hv
theorem OpD.congr {P : Program} {σ e : Env} {c : COp} {w : World} {K : Value → World → Prop} (hs : noSel c.op = true) (h : ∀ t ∈ slotsOf c, e t = σ t) (hv : OpD P σ c w K) : OpD P e c w K := by
  unfold OpD at *; rw [ex_congr hs h, wants_congr h]; exact hv
theorem put_ne (σ : Env) {d : Option Nat} {t : Nat} (v : Value) (h : d ≠ some t) : put σ d v t = σ t := by
  cases d with
  | none => rfl
  | some d => exact upd_ne _ _ (fun e => h (by rw [e]))
theorem put_same (σ : Env) (d : Nat) (v : Value) : put σ (some d) v d = v := upd_same _ _ _
section
variable {X : Fx} {Ok : World → Prop} {cops : List COp} {dl : List (List Nat)} {k : List Item} {Q : Post} {ops : Array Oper}
structure Spec (cops : List COp) (dl : List (List Nat)) (n : Nat) (chl : List Nat) (q : Option Nat) (pre : List Nat) (i : Nat) (b : Bool) (l : List (Nat × Bool)) : Prop where
  ex : ∃ c ds, cops[i]? = some c ∧ dl[i]? = some ds ∧ (∀ j ∈ ds, j ∈ pre) ∧ noSel c.op = true ∧ i ∉ pre ∧ dOk n c.d = true ∧
    ∀ j cj, cops[j]? = some cj → ((∀ t ∈ slotsOf c, cj.d = some t → j ∈ ds ∨ (j ∈ chl ∧ i ∈ dl.getD j [])) ∧ (i ≠ j → ∀ d, c.d = some d → cj.d ≠ some d))
  reach : b = true → l = [] → ∀ j ∈ pre, j ∈ reachN dl cops.length i
  last : b = false → ∀ p, q = some p → p ∈ reachN dl cops.length i
  chl : b = true ↔ i ∈ chl
theorem fN {n : Nat} {chl : List Nat} : ∀ {l : List (Nat × Bool)} {q : Option Nat} {pre : List Nat}, chkOps cops dl n chl q pre l = true → ∀ {a : List (Nat × Bool)} {i : Nat} {b : Bool} {z : List (Nat × Bool)}, l = a ++ (i, b) :: z →
    Spec cops dl n chl (lastq q a) (pre ++ a.map (·.1)) i b z
  | [], q, pre, _, a, i, b, z, e => by cases a <;> cases e
  | (i', b') :: l, q, pre, h, a, i, b, z, e => by
    simp only [chkOps, Bool.and_eq_true] at h
    obtain ⟨⟨h1, h2⟩, h3⟩ := h
    cases a with
    | cons p a =>
      simp only [List.cons_append, List.cons.injEq] at e
      obtain ⟨rfl, e⟩ := e
      have := fN h3 e
      simpa [lastq] using this
    | nil =>
      simp only [List.nil_append, List.cons.injEq, Prod.mk.injEq] at e
      obtain ⟨⟨rfl, rfl⟩, rfl⟩ := e
      simp only [List.map_nil, List.append_nil, lastq]
      refine ⟨?_, fun hb => ?_, fun hb p hp => ?_, ?_⟩
      · split at h1
        · rename_i c ds hc hds
          simp only [Bool.and_eq_true, List.all_eq_true, Bool.not_eq_true'] at h1
          obtain ⟨⟨⟨⟨⟨q1, q2⟩, q3⟩, q4⟩, q5⟩, -⟩ := h1
          refine ⟨c, ds, hc, hds, fun j hj => dS.1 (q1 j hj), q2, (fun hm => by rw [dS.2 hm] at q3; cases q3), q5, fun j cj hj => ?_⟩
          have hlt : j < cops.length := (List.getElem?_eq_some_iff.1 hj).1
          have q := q4 j (by simpa using hlt)
          rw [hj] at q
          simp only [Bool.and_eq_true, Bool.or_eq_true, Bool.not_eq_true'] at q
          refine ⟨fun t ht he => ?_, fun hne d hd he => ?_⟩
          · rcases q.1 with (q | q) | q
            · exfalso
              have : (slotsOf c).any (beqO cj.d) = true := List.any_eq_true.2 ⟨t, ht, by rw [he]; exact Nat.beq_refl t⟩
              rw [q] at this; cases this
            · exact .inl (dS.1 q)
            · exact .inr ⟨dS.1 q.1, dS.1 q.2⟩
          · rcases q.2 with q | q
            · exact hne (Nat.eq_of_beq_eq_true q)
            · rw [hd, he] at q; simp [beqO] at q
        · cases h1
      · subst hb
        simp only [if_true, Bool.or_eq_true, Bool.not_eq_true', List.all_eq_true] at h2
        intro hl j hj
        rcases h2 with h4 | h4
        · rw [hl] at h4; cases h4
        · exact dS.1 (h4 j hj)
      · subst hb
        subst hp
        simp only [Bool.false_eq_true, if_false] at h2
        exact dS.1 h2
      · split at h1
        · simp only [Bool.and_eq_true] at h1
          have h5 := h1.2
          cases b' with
          | true => simp only [if_true] at h5; exact ⟨fun _ => dS.1 h5, fun _ => rfl⟩
          | false =>
            simp only [Bool.false_eq_true, if_false, Bool.not_eq_true'] at h5
            exact ⟨(fun h => by cases h), (fun h => by rw [dS.2 h] at h5; cases h5)⟩
        · cases h1
theorem absorb {n : Nat} {canon : List (Nat × Bool)} {chl a : List Nat} (hk : chkOps cops dl n chl none [] canon = true) {w : World} : ∀ (suf pre : List (Nat × Bool)) (σ : Env), canon = pre ++ suf → Dr X Ok cops k Q suf σ w →
    (∀ i c, (i, false) ∈ pre → i ∉ a → cops[i]? = some c → ∃ v, (∀ d, c.d = some d → σ d = v) ∧ ∀ w', Ok w' → OpV X.P σ c w' v) →
    ∃ fl suf' σ', suf = fl ++ suf' ∧ (∀ p ∈ fl, p.2 = false) ∧ (∀ p s, suf' = p :: s → p.2 = true) ∧ Dr X Ok cops k Q suf' σ' w ∧
      (∀ i c, (i, false) ∈ pre ++ fl → i ∉ a → cops[i]? = some c → ∃ v, (∀ d, c.d = some d → σ' d = v) ∧ ∀ w', Ok w' → OpV X.P σ' c w' v) ∧
      ∀ t, (∀ p ∈ fl, ∀ c, cops[p.1]? = some c → c.d ≠ some t) → σ' t = σ t
  | [], pre, σ, e, hd, hp => ⟨[], [], σ, rfl, (fun _ h => by cases h), (fun _ _ h => by cases h), hd, by simpa using hp, fun _ _ => rfl⟩
  | (i, true) :: l, pre, σ, e, hd, hp => ⟨[], (i, true) :: l, σ, rfl, (fun _ h => by cases h), (fun p s h => by simp only [List.cons.injEq] at h; rw [← h.1]), hd, by simpa using hp, fun _ _ => rfl⟩
  | (i, false) :: l, pre, σ, e, hd, hp => by
    obtain ⟨c, v, hc, hv, hd'⟩ := hd
    have sp := fN hk e
    obtain ⟨c', ds, hc', hds, s1, s2, s3, s4, s5⟩ := sp.ex
    rw [hc] at hc'; simp only [Option.some.injEq] at hc'; subst hc'
    -- earlier ones, and this one, stand as they did
    have hnew : ∀ j cj, (j, false) ∈ pre ++ [(i, false)] → j ∉ a → cops[j]? = some cj → ∃ u, (∀ d, cj.d = some d → put σ c.d v d = u) ∧ ∀ w', Ok w' → OpV X.P (put σ c.d v) cj w' u := by
      intro j cj hj hja hcj
      rcases List.mem_append.1 hj with hj | hj
      · obtain ⟨u, u1, u2⟩ := hp j cj hj hja hcj
        obtain ⟨a', z, ha⟩ := List.append_of_mem hj
        have spj := fN hk (a := a') (i := j) (b := false) (z := z ++ (i, false) :: l) (by rw [e, ha]; simp)
        obtain ⟨cj', dsj, hcj', hdsj, t1, t2, t3, t4, t5⟩ := spj.ex
        rw [hcj] at hcj'; simp only [Option.some.injEq] at hcj'; subst hcj'
        have hji : j ≠ i := fun e2 => s3 (by rw [← e2]; simpa using Or.inl hj)
        have hnd : ∀ t ∈ slotsOf cj, put σ c.d v t = σ t := fun t ht => put_ne _ _ (fun he => by
          have hin := ((t5 i c hc).1 t ht he).resolve_right (fun h => by have := sp.chl.2 h.1; cases this)
          have hin2 := t1 i hin
          apply s3
          rw [ha]
          simp only [List.nil_append, List.map_append, List.map_cons] at hin2 ⊢
          exact List.mem_append_left _ hin2)
        refine ⟨u, fun d hd => ?_, fun w' hw' => OpV.congr t2 hnd (u2 w' hw')⟩
        rw [put_ne _ _ (fun he => (t5 i c hc).2 hji d hd he)]
        exact u1 d hd
      · simp only [List.mem_singleton, Prod.mk.injEq] at hj
        obtain ⟨rfl, -⟩ := hj
        rw [hc] at hcj; simp only [Option.some.injEq] at hcj; subst hcj
        refine ⟨v, fun d hd => by rw [hd]; exact put_same _ _ _, fun w' hw' => OpV.congr s2 (fun t ht => put_ne _ _ (fun he => ?_)) (hv w' hw')⟩
        have hin := ((s5 j c hc).1 t ht he).resolve_right (fun h => by have := sp.chl.2 h.1; cases this)
        exact s3 (s1 j hin)
    obtain ⟨fl, suf', σ', e1, e2, e3, e4, e5, e6⟩ := absorb hk l (pre ++ [(i, false)]) (put σ c.d v) (by rw [e]; simp) hd' hnew
    refine ⟨(i, false) :: fl, suf', σ', by rw [e1]; rfl, fun p hp2 => ?_, e3, e4, by simpa using e5, fun t ht => ?_⟩
    · rcases List.mem_cons.1 hp2 with rfl | h
      · rfl
      · exact e2 p h
    · rw [e6 t (fun p hp2 => ht p (List.mem_cons_of_mem _ hp2))]
      exact put_ne _ _ (ht (i, false) List.mem_cons_self c hc)
theorem reach_done {E : Nat → Prop} (hE : ∀ i, E i → ∀ j ∈ dl.getD i [], E j) : ∀ (f i : Nat), (∀ j ∈ dl.getD i [], E j) → ∀ j ∈ reachN dl f i, E j
  | 0, _, _, j, hj => by cases hj
  | f + 1, i, h, j, hj => by
    rcases List.mem_append.1 hj with hj | hj
    · exact h j hj
    · obtain ⟨q, hq, hj⟩ := List.mem_flatMap.1 hj
      exact reach_done hE f q (hE q (h q hq)) j hj
theorem cOpsL_get {ops : Array Oper} : ∀ {l : List Oper} {cs : List COp}, cOpsL ops l = some cs → cs.length = l.length ∧ ∀ (i : Nat) (o : Oper) (c : COp), l[i]? = some o → cs[i]? = some c → cOp ops o = some c
  | [], cs, h => by simp only [cOpsL, Option.some.injEq] at h; subst h; exact ⟨rfl, fun i o c h => by simp at h⟩
  | o :: l, cs, h => by
    simp only [cOpsL] at h
    cases h1 : cOp ops o with
    | none => simp [h1] at h
    | some c =>
      cases h2 : cOpsL ops l with
      | none => simp [h1, h2] at h
      | some cs' =>
        simp only [h1, h2, Option.some.injEq] at h
        subst h
        obtain ⟨h3, h4⟩ := cOpsL_get h2
        refine ⟨by simp [h3], fun i o' c' ho hc => ?_⟩
        cases i with
        | zero => simp only [List.getElem?_cons_zero, Option.some.injEq] at ho hc; subst ho; subst hc; exact h1
        | succ i => simp only [List.getElem?_cons_succ] at ho hc; exact h4 i o' c' ho hc
theorem op_go {i : Nat} {rest : List Nat} {o : Oper} {c : COp} {e : Env} {w : World} (ho : ops[i]? = some o) (hc : cOp ops o = some c) (hd : dOk X.fn.ntmps c.d = true) :
    (∀ v, OpV X.P e c w v → Run X (.inRegion ops rest :: k) (put e c.d v) w Q → Run X (.inRegion ops (i :: rest) :: k) e w Q) ∧
    (∀ K : Value → World → Prop, OpD X.P e c w K → (∀ v w', K v w' → Run X (.inRegion ops rest :: k) (put e c.d v) w' Q) → Run X (.inRegion ops (i :: rest) :: k) e w Q) := by
  obtain ⟨hp, hop, hty⟩ := cOp_parts hc
  refine ⟨fun v hv h b cs a hb ha => ?_, fun K hv h b cs a hb ha => ?_⟩
  · have hw := wanted_of hc ha
    have hfin : (b.atR a (.inRegion ops (i :: rest) :: k)).finish v = b.atR (a.put c.d v) (.inRegion ops rest :: k) := by
      rw [Frame.finish_atR, ho]; simp [hp]
    obtain ⟨m, hs2, r⟩ := h b cs (a.put c.d v) hb (ha.put' hd _)
    refine ⟨m, .head ?_ hs2, r⟩
    rcases hv with ⟨hg, hv⟩ | ⟨hg, rfl⟩
    · have hgs := op_any (P := X.P) (b := b) (k := k) (cs := cs) (w := w) (rest := rest) ho (by rw [hw]; exact hg) ((show (execOp a.eval o).run X.P w = (ex e c.op c.ty).run X.P w by rw [ex_eq, hop, hty, ha.ev]; rfl).trans hv) (by intro d h; cases h)
      refine step_lone_go ?_
      rw [hgs, ← hfin, ex_eq, hop, hty, ha.ev]
      have he' : (execOp (ev e) { dst := none, op := c.op, type := c.ty, pos := "", after := #[], guard := none }).run X.P w = .ok (.value v) w := hv
      simp [stepG.apply, he']
    · have := stepR_op_skip (P := X.P) (b := b) (a := a) (k := k) (cs := cs) (w := w) (ops := ops) (i := i) (rest := rest) (by simp [ho, hw, hg])
      simp only [ho, Option.bind_some, hp] at this
      exact this
  · have hw := wanted_of hc ha
    rcases hv with ⟨hg, hK⟩ | ⟨hg, hv⟩
    · obtain ⟨m, hs2, r⟩ := h undef w hK b cs (a.put c.d undef) hb (ha.put' hd _)
      refine ⟨m, .head ?_ hs2, r⟩
      have := stepR_op_skip (P := X.P) (b := b) (a := a) (k := k) (cs := cs) (w := w) (ops := ops) (i := i) (rest := rest) (by simp [ho, hw, hg])
      simp only [ho, Option.bind_some, hp] at this
      exact this
    have hfin : ∀ v, (b.atR a (.inRegion ops (i :: rest) :: k)).finish v = b.atR (a.put c.d v) (.inRegion ops rest :: k) := by
      intro v; rw [Frame.finish_atR, ho]; simp [hp]
    rcases hv with ⟨v, w', hv, hK⟩ | ⟨w', hv, hK⟩ | ⟨f, args, hv, hK⟩
    · have hgs := op_any (P := X.P) (b := b) (k := k) (cs := cs) (w := w) (rest := rest) ho (by rw [hw]; exact hg) ((show (execOp a.eval o).run X.P w = (ex e c.op c.ty).run X.P w by rw [ex_eq, hop, hty, ha.ev]; rfl).trans hv) (by intro d h; cases h)
      obtain ⟨m, hs2, r⟩ := h v w' hK b cs (a.put c.d v) hb (ha.put' hd _)
      refine ⟨m, .head (step_lone_go ?_) hs2, r⟩
      rw [hgs, ← hfin, ex_eq, hop, hty, ha.ev]
      have he' : (execOp (ev e) { dst := none, op := c.op, type := c.ty, pos := "", after := #[], guard := none }).run X.P w = .ok (.value v) w' := hv
      simp [stepG.apply, he']
    · have hgs := op_any (P := X.P) (b := b) (k := k) (cs := cs) (w := w) (rest := rest) ho (by rw [hw]; exact hg) ((show (execOp a.eval o).run X.P w = (ex e c.op c.ty).run X.P w by rw [ex_eq, hop, hty, ha.ev]; rfl).trans hv) (by intro d h; cases h)
      obtain ⟨m, hs2, r⟩ := h undef w' hK b cs (a.put c.d undef) hb (ha.put' hd _)
      refine ⟨m, .head (step_lone_go ?_) hs2, r⟩
      rw [hgs, ← hfin, ex_eq, hop, hty, ha.ev]
      have he' : (execOp (ev e) { dst := none, op := c.op, type := c.ty, pos := "", after := #[], guard := none }).run X.P w = .ok .skip w' := hv
      simp [stepG.apply, he']
    · have hgs := op_any (P := X.P) (b := b) (k := k) (cs := cs) (w := w) (rest := rest) ho (by rw [hw]; exact hg) ((show (execOp a.eval o).run X.P w = (ex e c.op c.ty).run X.P w by rw [ex_eq, hop, hty, ha.ev]; rfl).trans hv) (by intro d h; cases h)
      obtain ⟨en, w'', fr, hR, hsteps, _, hleave⟩ := hK (b.atR a (.inRegion ops (i :: rest) :: k) :: cs)
      have he' : (execOp (ev e) { dst := none, op := c.op, type := c.ty, pos := "", after := #[], guard := none }).run X.P w = .ok (.enter f args) w := hv
      have henter : step X.P (lone (b.atR a (.inRegion ops (i :: rest) :: k)) cs w) = .next (lone (Frame.enter X.P f args .normal) (b.atR a (.inRegion ops (i :: rest) :: k) :: cs) w) :=
        step_lone_go (by rw [hgs, ex_eq, hop, hty, ha.ev]; simp [stepG.apply, he', Frame.atR])
      cases en with
      | returned v =>
        obtain ⟨m, hs2, r⟩ := h v w'' hR b cs (a.put c.d v) hb (ha.put' hd _)
        refine ⟨m, .head henter (Steps.trans hsteps (.head (step_leave_returned hleave) ?_)), r⟩
        rw [hfin]; exact hs2
      | panicked chain => exact hR.elim
      | outgrown => exact hR.elim
theorem listed_set {l : Array Bool} {i j : Nat} {b : Bool} : (l.setIfInBounds i true).getD j b = if i = j ∧ i < l.size then true else l.getD j b := by
  simp only [Array.getD_eq_getD_getElem?, Array.getElem?_setIfInBounds]
  by_cases h : i = j
  · subst h
    by_cases h2 : i < l.size
    · simp [h2]
    · simp [h2]
  · simp [h]
theorem count_lt {p q : Nat → Bool} : ∀ (l : List Nat), (∀ x ∈ l, p x = true → q x = true) → (∃ x ∈ l, q x = true ∧ p x = false) → l.countP p < l.countP q
  | [], _, ⟨x, hx, _⟩ => by cases hx
  | a :: l, h, ⟨x, hx, h1, h2⟩ => by
    have hle : l.countP p ≤ l.countP q := List.countP_mono_left (fun y hy => h y (List.mem_cons_of_mem _ hy))
    rcases List.mem_cons.1 hx with rfl | hx
    · rw [List.countP_cons_of_neg (by simp [h2]), List.countP_cons_of_pos h1]; omega
    · have ih := count_lt l (fun y hy => h y (List.mem_cons_of_mem _ hy)) ⟨x, hx, h1, h2⟩
      simp only [List.countP_cons]
      by_cases ha : p a = true
      · rw [if_pos ha, if_pos (h a List.mem_cons_self ha)]; omega
      · rw [if_neg ha]; omega
def depsM (m : Region.Mode) (o : Oper) : List Nat := (o.after.toList.filter (fun e => Region.binds m e)).map (·.on)
def topoGo (dm : List (List Nat)) (n : Nat) : List Nat → List Nat → Bool
  | _, [] => true
  | pre, i :: l => Nat.blt i n && (dm.getD i []).all (memN pre) && topoGo dm n (pre ++ [i]) l
def topo (dm : List (List Nat)) (n : Nat) (order : List Nat) : Bool := (List.range n).all (memN order) && topoGo dm n [] order
theorem topo_empty {md : Region.Mode} {dm : List (List Nat)} {order : List Nat} (hd : ops.toList.map (depsM md) = dm) (ht : topo dm ops.size order = true) (listed : Array Bool) (hsz : listed.size = ops.size)
    (hr : Region.ready md ops listed = []) : ∀ i, i < ops.size → listed.getD i true = true := by
  simp only [topo, Bool.and_eq_true, List.all_eq_true] at ht
  obtain ⟨h1, h2⟩ := ht
  have key : ∀ (l pre : List Nat), topoGo dm ops.size pre l = true → (∀ i ∈ pre, i < ops.size ∧ listed.getD i true = true) → ∀ i ∈ l, listed.getD i true = true := by
    intro l
    induction l with
    | nil => intro pre _ _ i hi; cases hi
    | cons x l ih =>
      intro pre hg hp i hi
      simp only [topoGo, Bool.and_eq_true, List.all_eq_true] at hg
      obtain ⟨⟨g1, g2⟩, g3⟩ := hg
      have hx : x < ops.size := Nat.le_of_ble_eq_true g1
      have hxl : listed.getD x true = true := by
        cases hv : listed.getD x true with
        | true => rfl
        | false =>
          exfalso
          have : x ∈ Region.ready md ops listed := by
            unfold Region.ready
            rw [List.mem_filter]
            have e1 : ops[x]? = some ops[x] := by simp [hx]
            have e2 : dm.getD x [] = depsM md ops[x] := by rw [← hd]; simp [List.getD_eq_getElem?_getD, hx]
            refine ⟨by simpa using hx, ?_⟩
            rw [e1, hv]
            simp only [Bool.not_false, Bool.true_and, Option.map_some, Option.getD_some, Array.all_eq_true', Bool.or_eq_true, Bool.not_eq_true']
            intro ed hed
            cases hb : Region.binds md ed with
            | false => exact .inl rfl
            | true =>
              right
              have hm : ed.on ∈ depsM md ops[x] := List.mem_map.2 ⟨ed, List.mem_filter.2 ⟨Array.mem_toList_iff.2 hed, hb⟩, rfl⟩
              obtain ⟨q1, q2⟩ := hp _ (dS.1 (g2 _ (e2 ▸ hm)))
              have : listed.getD ed.on false = listed.getD ed.on true := by simp [Array.getD_eq_getD_getElem?, (by omega : ed.on < listed.size)]
              rw [this]; exact q2
          rw [hr] at this; cases this
      rcases List.mem_cons.1 hi with rfl | hi
      · exact hxl
      · exact ih (pre ++ [x]) g3 (fun i hi => by
          rcases List.mem_append.1 hi with h | h
          · exact hp i h
          · rw [List.mem_singleton.1 h]; exact ⟨hx, hxl⟩) i hi
  intro i hi
  exact key order [] h2 (fun _ h => by cases h) i (dS.1 (h1 i (by simpa using hi)))
def chkM (ot og : List Nat) : Code → Bool
  | .region _ ops _ => topo (ops.toList.map (depsM .any)) ops.size ot && (!Region.departs ops || (topo (ops.toList.map (depsM .text)) ops.size ot && topo (ops.toList.map (depsM .gc)) ops.size og))
  | _ => false
theorem lin_of {md : Region.Mode} (hmd : ∀ e, Region.binds .any e = true → Region.binds md e = true)
    (hempty : ∀ listed : Array Bool, listed.size = ops.size → Region.ready md ops listed = [] → ∀ i, i < ops.size → listed.getD i true = true) (hdl : ops.toList.map depsOf = dl) :
    ∀ (fuel t : Nat) (listed : Array Bool) (done : List Nat), listed.size = ops.size → ((List.range ops.size).countP fun i => !listed.getD i true) ≤ fuel → (∀ i, i < ops.size → (listed.getD i true = true ↔ i ∈ done)) →
      (∀ i, i < ops.size → i ∈ done ∨ i ∈ Region.linearise.go md ops fuel t listed []) ∧
      ∀ a i z, Region.linearise.go md ops fuel t listed [] = a ++ i :: z → i < ops.size ∧ i ∉ done ∧ i ∉ a ∧ ∀ j ∈ dl.getD i [], j ∈ done ∨ j ∈ a := by
  intro fuel
  induction fuel with
  | zero =>
    intro t listed done hsz hcnt hd
    refine ⟨fun i hi => .inl ((hd i hi).1 ?_), fun a i z e => by simp [Region.linearise.go] at e⟩
    have h0 : ((List.range ops.size).countP fun i => !listed.getD i true) = 0 := by omega
    have := List.countP_eq_zero.1 h0 i (by simpa using hi)
    simpa using this
  | succ fuel ih =>
    intro t listed done hsz hcnt hd
    have hgo : Region.linearise.go md ops (fuel + 1) t listed [] = match (Region.ready md ops listed)[t % (Region.ready md ops listed).length]? with
        | some i => i :: Region.linearise.go md ops fuel (t / (Region.ready md ops listed).length) (listed.setIfInBounds i true) []
        | none => [] := by
      simp only [Region.linearise.go]
      show (match (Region.ready md ops listed)[t % (Region.ready md ops listed).length]? with | some i => Region.linearise.go md ops fuel (t / (Region.ready md ops listed).length) (listed.setIfInBounds i true) [i] | none => [].reverse) = _
      cases (Region.ready md ops listed)[t % (Region.ready md ops listed).length]? with
      | none => rfl
      | some i => simp only []; rw [linearise_go_acc]; rfl
    rw [hgo]
    cases hr : (Region.ready md ops listed)[t % (Region.ready md ops listed).length]? with
    | none =>
      have hemp : Region.ready md ops listed = [] := by
        cases hq : Region.ready md ops listed with
        | nil => rfl
        | cons x xs =>
          rw [hq] at hr
          have hlt : t % (x :: xs).length < (x :: xs).length := Nat.mod_lt _ (by simp)
          rw [List.getElem?_eq_getElem hlt] at hr; cases hr
      exact ⟨fun i hi => .inl ((hd i hi).1 (hempty listed hsz hemp i hi)), fun a i z e => by simp at e⟩
    | some i =>
      simp only []
      have hm := List.mem_of_getElem? hr
      unfold Region.ready at hm
      rw [List.mem_filter] at hm
      simp only [List.mem_range, Bool.and_eq_true, Bool.not_eq_true'] at hm
      obtain ⟨hi, h1, h2⟩ := hm
      have e1 : ops[i]? = some ops[i] := by simp [hi]
      have e2 : dl.getD i [] = depsOf ops[i] := by rw [← hdl]; simp [List.getD_eq_getElem?_getD, hi]
      rw [e1] at h2
      simp only [Option.map_some, Option.getD_some, Array.all_eq_true', Bool.or_eq_true, Bool.not_eq_true'] at h2
      have hdep : ∀ j ∈ dl.getD i [], j ∈ done := by
        rw [e2]
        intro j hj
        obtain ⟨ed, h3, rfl⟩ := List.mem_map.1 hj
        obtain ⟨h3, h4⟩ := List.mem_filter.1 h3
        rcases h2 ed (Array.mem_toList_iff.1 h3) with h5 | h5
        · rw [hmd ed h4] at h5; cases h5
        · have hlt : ed.on < ops.size := by
            rcases Nat.lt_or_ge ed.on ops.size with h | h
            · exact h
            · have : listed.getD ed.on false = false := by simp [Array.getD_eq_getD_getElem?, Array.getElem?_eq_none (by omega : listed.size ≤ ed.on)]
              rw [this] at h5; cases h5
          have : listed.getD ed.on false = listed.getD ed.on true := by simp [Array.getD_eq_getD_getElem?, (by omega : ed.on < listed.size)]
          rw [this] at h5
          exact (hd _ hlt).1 h5
      have hnd : i ∉ done := fun h => by rw [(hd i hi).2 h] at h1; cases h1
      have hil2 : i < listed.size := by omega
      have hcnt' : ((List.range ops.size).countP fun j => !(listed.setIfInBounds i true).getD j true) ≤ fuel := by
        have hlt : ((List.range ops.size).countP fun j => !(listed.setIfInBounds i true).getD j true) < ((List.range ops.size).countP fun j => !listed.getD j true) := by
          refine count_lt _ (fun j _ hj => ?_) ⟨i, by simpa using hi, by simp [h1], by rw [listed_set, if_pos ⟨rfl, hil2⟩]; rfl⟩
          rw [listed_set] at hj
          split at hj
          · cases hj
          · exact hj
        omega
      obtain ⟨k1, k2⟩ := ih (t / (Region.ready md ops listed).length) (listed.setIfInBounds i true) (i :: done) (by simpa using hsz) hcnt' (fun j hj => by
        rw [listed_set]
        split
        · rename_i h; simp [h.1]
        · rename_i h
          have hne : ¬ j = i := fun e => h ⟨e.symm, hil2⟩
          rw [hd j hj]; simp [hne])
      refine ⟨fun j hj => ?_, fun a x z e => ?_⟩
      · rcases k1 j hj with h | h
        · rcases List.mem_cons.1 h with h | h
          · exact .inr (by rw [h]; exact List.mem_cons_self)
          · exact .inl h
        · exact .inr (List.mem_cons_of_mem _ h)
      · cases a with
        | nil =>
          simp only [List.nil_append, List.cons.injEq] at e
          obtain ⟨rfl, -⟩ := e
          exact ⟨hi, hnd, by simp, fun j hj => .inl (hdep j hj)⟩
        | cons y a =>
          simp only [List.cons_append, List.cons.injEq] at e
          obtain ⟨rfl, e⟩ := e
          obtain ⟨m1, m2, m3, m4⟩ := k2 a x z e
          refine ⟨m1, fun h => m2 (List.mem_cons_of_mem _ h), fun h => ?_, fun j hj => ?_⟩
          · rcases List.mem_cons.1 h with h | h
            · exact m2 (by rw [h]; exact List.mem_cons_self)
            · exact m3 h
          · rcases m4 j hj with h | h
            · rcases List.mem_cons.1 h with h | h
              · exact .inr (by rw [h]; exact List.mem_cons_self)
              · exact .inl h
            · exact .inr (List.mem_cons_of_mem _ h)
structure Lin (dl : List (List Nat)) (n : Nat) (s : List Nat) : Prop where
  all : ∀ i, i < n → i ∈ s
  at_ : ∀ a i z, s = a ++ i :: z → i < n ∧ i ∉ a ∧ ∀ j ∈ dl.getD i [], j ∈ a
theorem Lin.closed {n : Nat} {s a z : List Nat} (h : Lin dl n s) (e : s = a ++ z) : ∀ i ∈ a, ∀ j ∈ dl.getD i [], j ∈ a := fun i hi j hj => by
  obtain ⟨a1, a2, rfl⟩ := List.append_of_mem hi
  exact List.mem_append_left _ ((h.at_ a1 i (a2 ++ z) (by rw [e]; simp)).2.2 j hj)
theorem Lin.nodup {n : Nat} {s a z : List Nat} (h : Lin dl n s) (e : s = a ++ z) : ∀ i ∈ z, i ∉ a := fun i hi ha => by
  obtain ⟨z1, z2, rfl⟩ := List.append_of_mem hi
  exact (h.at_ (a ++ z1) i z2 (by rw [e]; simp)).2.1 (List.mem_append_left _ ha)
theorem Lin.reach {n : Nat} {s a z : List Nat} {i : Nat} (h : Lin dl n s) (e : s = a ++ i :: z) (f : Nat) : ∀ j ∈ reachN dl f i, j ∈ a :=
  reach_done (E := fun j => j ∈ a) (h.closed e) f i (h.at_ a i z e).2.2
theorem covers_mem {n : Nat} {s : List Nat} (hl : Lin dl n s) {m : Nat} {ch : List Nat} : ∀ (z a : List Nat) (f : Nat) (cs : List (List Nat)) (rem : List Nat), s = a ++ z → covers (reachN dl m) f cs rem = true →
    (∀ x, x ∈ rem ↔ x ∈ ch ∧ x ∉ a) → (∀ x ∈ ch, x ∈ s) → z.filter (memN ch) ∈ cs
  | [], a, f, cs, rem, e, hc, hr, hs => by
    have hn : rem = [] := by
      cases rem with
      | nil => rfl
      | cons x xs =>
        have := (hr x).1 List.mem_cons_self
        exact absurd (by have := hs x this.1; rw [e] at this; simpa using this) this.2
    subst hn
    have : cs.any (·.isEmpty) = true := by
      cases f <;> simpa [covers] using hc
    obtain ⟨c, h1, h2⟩ := List.any_eq_true.1 this
    cases c with
    | nil => exact h1
    | cons => cases h2
  | i :: z, a, f, cs, rem, e, hc, hr, hs => by
    have hat := hl.at_ a i z e
    by_cases hi : i ∈ ch
    · have him : memN ch i = true := dS.2 hi
      have hir : i ∈ rem := (hr i).2 ⟨hi, hat.2.1⟩
      rw [List.filter_cons_of_pos him]
      cases f with
      | zero => simp only [covers, Bool.and_eq_true] at hc; cases rem with | nil => cases hir | cons => cases hc.1
      | succ f =>
        have hne : rem.isEmpty = false := by cases rem with | nil => cases hir | cons => rfl
        simp only [covers, hne, Bool.false_eq_true, if_false, List.all_eq_true, Bool.or_eq_true] at hc
        rcases hc i hir with h | h
        · exfalso
          obtain ⟨j, h1, h2⟩ := List.any_eq_true.1 h
          simp only [Bool.and_eq_true] at h2
          exact ((hr j).1 h1).2 (hl.reach e m j (dS.1 h2.2))
        · have ih := covers_mem hl z (a ++ [i]) f _ _ (by rw [e]; simp) h (fun x => by
            simp only [List.mem_filter, Bool.not_eq_true', hr x, List.mem_append, List.mem_singleton, not_or]
            constructor
            · rintro ⟨⟨h1, h2⟩, h3⟩
              exact ⟨h1, h2, fun e => by rw [e, Nat.beq_refl] at h3; cases h3⟩
            · rintro ⟨h1, h2, h3⟩
              refine ⟨⟨h1, h2⟩, ?_⟩
              cases hb : Nat.beq i x with
              | false => rfl
              | true => exact absurd (Nat.eq_of_beq_eq_true hb).symm h3) hs
          unfold tailsOf at ih
          obtain ⟨c, h1, h2⟩ := List.mem_filterMap.1 ih
          cases c with
          | nil => cases h2
          | cons x xs =>
            simp only at h2
            split at h2
            · rename_i hx
              simp only [Option.some.injEq] at h2
              rw [← h2, ← Nat.eq_of_beq_eq_true hx]; exact h1
            · cases h2
    · have him : ¬ memN ch i = true := fun h => hi (dS.1 h)
      rw [List.filter_cons_of_neg him]
      exact covers_mem hl z (a ++ [i]) f cs rem (by rw [e]; simp) hc (fun x => by
        rw [hr x]
        simp only [List.mem_append, List.mem_singleton, not_or]
        exact ⟨fun h => ⟨h.1, h.2, fun e => hi (e ▸ h.1)⟩, fun h => ⟨h.1, h.2.1⟩⟩) hs
theorem lastq_some : ∀ (a : List (Nat × Bool)) (p : Nat), ∃ p', lastq (some p) a = some p' ∧ (p' = p ∨ (p', true) ∈ a)
  | [], p => ⟨p, rfl, .inl rfl⟩
  | (i, true) :: a, p => by
    obtain ⟨p', h1, h2⟩ := lastq_some a i
    exact ⟨p', h1, .inr (by rcases h2 with rfl | h2; exact List.mem_cons_self; exact List.mem_cons_of_mem _ h2)⟩
  | (i, false) :: a, p => by
    obtain ⟨p', h1, h2⟩ := lastq_some a p
    exact ⟨p', h1, h2.imp id (List.mem_cons_of_mem _)⟩
theorem lastq_append : ∀ (a b : List (Nat × Bool)) (q : Option Nat), lastq q (a ++ b) = lastq (lastq q a) b
  | [], _, _ => rfl
  | (_, _) :: a, b, _ => lastq_append a b _
theorem draw_go {n : Nat} {canon : List (Nat × Bool)} {s ch : List Nat} (hn : X.fn.ntmps = n) (hcs : cOpsL ops ops.toList = some cops) (hl : Lin dl ops.size s) (hchk : chkAll cops dl n canon = true) (hch : ∀ x, x ∈ ch ↔ x ∈ chn canon) :
    ∀ (z a : List Nat) (pre suf : List (Nat × Bool)) (σ e : Env) (w : World), s = a ++ z → canon = pre ++ suf → (∀ p s, suf = p :: s → p.2 = true) → Ok w → Dr X Ok cops k Q suf σ w →
      (∀ i, (i, true) ∈ pre → i ∈ a) → (∀ i ∈ a, ∃ b, (i, b) ∈ pre) → z.filter (memN ch) = chn suf →
      (∀ i c, (i, false) ∈ pre → i ∉ a → cops[i]? = some c → ∃ v, (∀ d, c.d = some d → σ d = v) ∧ ∀ w', Ok w' → OpV X.P σ c w' v) →
      (∀ t, (∀ i b c, (i, b) ∈ pre → i ∉ a → cops[i]? = some c → c.d ≠ some t) → e t = σ t) →
      Run X (.inRegion ops z :: k) e w Q := by
  have hlen := (cOpsL_get hcs).1
  have hget := (cOpsL_get hcs).2
  simp only [Array.length_toList] at hlen
  simp only [chkAll, Bool.and_eq_true, List.all_eq_true] at hchk
  obtain ⟨⟨hc1, hc2⟩, hc3⟩ := hchk
  have hmem : ∀ i, i < ops.size → ∃ a b z, canon = a ++ (i, b) :: z := fun i hi => by
    have := dS.1 (hc2 i (by simp; omega))
    obtain ⟨p, hp, rfl⟩ := List.mem_map.1 this
    obtain ⟨a, z, e⟩ := List.append_of_mem hp
    exact ⟨a, p.2, z, e⟩
  have hop : ∀ i c, cops[i]? = some c → i < ops.size ∧ ∃ o, ops[i]? = some o ∧ cOp ops o = some c := fun i c hc => by
    have hi := (List.getElem?_eq_some_iff.1 hc).1
    have hi2 : i < ops.size := by omega
    exact ⟨hi2, ops[i], by simp [hi2], hget i _ c (by simp [hi2]) hc⟩
  have honly : ∀ i b b', (i, b) ∈ canon → (i, b') ∈ canon → b' = b := fun i b b' h1 h2 => by
    obtain ⟨a, z, ea⟩ := List.append_of_mem h1
    have sp := fN hc3 ea
    simp only [List.nil_append] at sp
    obtain ⟨c, ds, q1, q2, q3, q4, q5, q6, q7⟩ := sp.ex
    rw [ea] at h2
    rcases List.mem_append.1 h2 with h | h
    · exfalso; exact q5 (List.mem_map.2 ⟨_, h, rfl⟩)
    · rcases List.mem_cons.1 h with h | h
      · simp only [Prod.mk.injEq] at h; exact h.2
      · exfalso
        obtain ⟨a', z', e'⟩ := List.append_of_mem h
        have sp' := fN hc3 (a := a ++ (i, b) :: a') (i := i) (b := b') (z := z') (by rw [ea, e']; simp)
        obtain ⟨_, _, _, _, _, _, n5, _⟩ := sp'.ex
        exact n5 (by simp)
  have hchn : ∀ (l : List (Nat × Bool)) (i : Nat), i ∈ chn l ↔ (i, true) ∈ l := fun l i => by
    unfold chn
    constructor
    · intro h
      obtain ⟨⟨x, b⟩, h1, h2⟩ := List.mem_map.1 h
      obtain ⟨h1, h3⟩ := List.mem_filter.1 h1
      simp only at h2 h3; subst h2; subst h3; exact h1
    · intro h; exact List.mem_map.2 ⟨_, List.mem_filter.2 ⟨h, rfl⟩, rfl⟩
  -- all were done: the end
  have fin : ∀ (a : List Nat) (pre suf : List (Nat × Bool)) (σ e : Env) (w : World), s = a → canon = pre ++ suf → Dr X Ok cops k Q suf σ w → (∀ i ∈ a, ∃ b, (i, b) ∈ pre) →
      (∀ t, (∀ i b c, (i, b) ∈ pre → i ∉ a → cops[i]? = some c → c.d ≠ some t) → e t = σ t) → Run X (.inRegion ops [] :: k) e w Q := by
    intro a pre suf σ e w hs hcan hdr hin hag
    subst hs
    cases suf with
    | cons p s =>
      exfalso
      have sp := fN hc3 (a := pre) (i := p.1) (b := p.2) (z := s) hcan
      obtain ⟨c, ds, q1, q2, q3, q4, q5, q6, q7⟩ := sp.ex
      obtain ⟨hi, -⟩ := hop _ _ q1
      obtain ⟨b, hb⟩ := hin p.1 (hl.all _ hi)
      exact q5 (by simp; cases b <;> simp [hb])
    | nil =>
      have he : e = σ := funext fun t => hag t fun i b c hi hn hc => by
        obtain ⟨hi2, -⟩ := hop _ _ hc
        exact absurd (hl.all _ hi2) hn
      subst he
      exact eS (fun _ _ _ _ => stepR_region_end) hdr
  intro z
  induction z with
  | nil =>
    intro a pre suf σ e w hs hcan hsuf hok hdr hcp hin hcp2 hfl hag
    exact fin a pre suf σ e w (by simpa using hs) hcan hdr hin hag
  | cons i z ih =>
    intro a pre suf σ e w hs hcan hsuf hok hdr hcp hin hcomp hfl hag
    obtain ⟨hi, hia, hid⟩ := hl.at_ a i z hs
    obtain ⟨ca, b, cz, ea⟩ := hmem i hi
    have sp := fN hc3 ea
    simp only [List.nil_append] at sp
    obtain ⟨c, ds, q1, q2, q3, q4, q5, q6, q7⟩ := sp.ex
    obtain ⟨-, o, ho, hco⟩ := hop _ _ q1
    have hds : dl.getD i [] = ds := by rw [List.getD_eq_getElem?_getD, q2]; rfl
    have hib : (i, b) ∈ canon := by rw [ea]; simp
    have hslots : ∀ t ∈ slotsOf c, e t = σ t := fun t ht => hag t fun i' b' c' hi' hl' hc' he => by
      rcases (q7 i' c' hc').1 t ht he with this | ⟨this, -⟩
      · rw [← hds] at this
        exact hl' (hid i' this)
      · refine hl' (hcp i' ?_)
        have h1 := (hchn canon i').1 this
        have h2 : (i', b') ∈ canon := by rw [hcan]; exact List.mem_append_left _ hi'
        rw [honly i' true b' h1 h2] at hi'; exact hi'
    have hs' : s = (a ++ [i]) ++ z := by rw [hs]; simp
    cases b with
    | false =>
      -- it only computes
      have hnc : ¬ memN ch i = true := fun h => by
        have := (hchn canon i).1 ((hch i).1 (dS.1 h))
        have := honly i false true hib this; cases this
      rw [List.filter_cons_of_neg hnc] at hcomp
      have hpre : (i, false) ∈ pre := by
        rw [hcan] at hib
        rcases List.mem_append.1 hib with h | h
        · exact h
        · exfalso
          cases suf with
          | nil => cases h
          | cons p s' =>
            have hp2 := hsuf p s' rfl
            obtain ⟨pi, pb⟩ := p
            simp only at hp2; subst hp2
            rcases List.mem_cons.1 h with h | h
            · simp at h
            · obtain ⟨a2, z2, e2⟩ := List.append_of_mem h
              have sp2 := fN hc3 (a := pre ++ (pi, true) :: a2) (i := i) (b := false) (z := z2) (by rw [hcan, e2]; simp)
              rw [lastq_append] at sp2
              obtain ⟨p', h1, h2⟩ := lastq_some a2 pi
              have h3 := sp2.last rfl p' h1
              have h4 := hl.reach hs cops.length p' h3
              have h5 : (p', true) ∈ (pi, true) :: s' := by
                rcases h2 with rfl | h2
                · exact List.mem_cons_self
                · exact List.mem_cons_of_mem _ (by rw [e2]; exact List.mem_append_left _ h2)
              have h6 : p' ∈ z.filter (memN ch) := by rw [hcomp]; exact (hchn _ _).2 h5
              exact hl.nodup hs p' (List.mem_cons_of_mem _ (List.mem_filter.1 h6).1) h4
      obtain ⟨v, hv1, hv2⟩ := hfl i c hpre hia q1
      refine (op_go (X := X) (k := k) (Q := Q) (rest := z) (e := e) (w := w) ho hco (by rw [hn]; exact q6)).1 v (OpV.congr q4 hslots (hv2 w hok)) ?_
      refine ih (a ++ [i]) pre suf σ _ w hs' hcan hsuf hok hdr (fun j hj => List.mem_append_left _ (hcp j hj)) (fun j hj => ?_) hcomp (fun j cj hj hja => hfl j cj hj (fun h => hja (List.mem_append_left _ h))) (fun u hu => ?_)
      · rcases List.mem_append.1 hj with hj | hj
        · exact hin j hj
        · rw [List.mem_singleton.1 hj]; exact ⟨_, hpre⟩
      · by_cases hcd : c.d = some u
        · rw [hcd, put_same]; exact (hv1 u hcd).symm
        · rw [put_ne _ _ hcd]
          refine hag u fun j b2 cj hj hl hcj hej => ?_
          by_cases hij : i = j
          · subst hij; rw [q1] at hcj; simp only [Option.some.injEq] at hcj; subst hcj; exact hcd hej
          · exact hu j b2 cj hj (by simp only [List.mem_append, List.mem_singleton, not_or]; exact ⟨hl, fun e => hij e.symm⟩) hcj hej
    | true =>
      -- the next one of the chain
      have hyc : memN ch i = true := dS.2 ((hch i).2 ((hchn _ _).2 hib))
      rw [List.filter_cons_of_pos hyc] at hcomp
      cases suf with
      | nil => simp [chn] at hcomp
      | cons p s' =>
        have hp2 := hsuf p s' rfl
        obtain ⟨pi, pb⟩ := p
        simp only at hp2; subst hp2
        have hcomp2 : i = pi ∧ z.filter (memN ch) = chn s' := by
          simpa [chn] using hcomp
        obtain ⟨rfl, hcomp3⟩ := hcomp2
        have spp := fN hc3 (a := pre) (i := i) (b := true) (z := s') hcan
        simp only [List.nil_append] at spp
        have hin2 : ∀ b', (i, b') ∉ pre := fun b' hb' => by
          obtain ⟨_, _, _, _, _, _, p5, _⟩ := spp.ex
          exact p5 (List.mem_map.2 ⟨_, hb', rfl⟩)
        obtain ⟨c', hc', hod⟩ := hdr
        rw [q1] at hc'; simp only [Option.some.injEq] at hc'; subst hc'
        refine (op_go (X := X) (k := k) (Q := Q) (rest := z) (e := e) (w := w) ho hco (by rw [hn]; exact q6)).2 _ (OpD.congr q4 hslots hod) ?_
        rintro v w' ⟨hok', hdr'⟩
        rcases hok' with hlast | hok'
        · -- the last of all
          subst hlast
          have hz : z = [] := by
            cases z with
            | nil => rfl
            | cons y z =>
              exfalso
              obtain ⟨hy, hya, -⟩ := hl.at_ (a ++ [i]) y z (by rw [hs]; simp)
              obtain ⟨a', b', z', e'⟩ := hmem y hy
              have hyc2 : (y, b') ∈ canon := by rw [e']; simp
              rw [hcan] at hyc2
              rcases List.mem_append.1 hyc2 with h1 | h1
              · exact hya (List.mem_append_left _ (hl.reach hs cops.length y (spp.reach rfl rfl y (List.mem_map.2 ⟨_, h1, rfl⟩))))
              · simp only [List.mem_singleton, Prod.mk.injEq] at h1
                exact hya (by rw [h1.1]; simp)
          subst hz
          refine fin (a ++ [i]) (pre ++ [(i, true)]) [] _ _ w' (by rw [hs]) (by rw [hcan]; simp) hdr' (fun j hj => ?_) (fun u hu => ?_)
          · rcases List.mem_append.1 hj with hj | hj
            · obtain ⟨b4, hb4⟩ := hin j hj; exact ⟨b4, List.mem_append_left _ hb4⟩
            · rw [List.mem_singleton.1 hj]; exact ⟨true, by simp⟩
          · by_cases hcd : c.d = some u
            · rw [hcd, put_same, put_same]
            · rw [put_ne _ _ hcd, put_ne _ _ hcd]
              refine hag u fun j b2 cj hj hl2 hcj hej => ?_
              obtain ⟨hj2, -⟩ := hop _ _ hcj
              have := hl.all _ hj2
              rw [hs] at this
              rcases List.mem_append.1 this with h | h
              · exact hl2 h
              · rw [List.mem_singleton.1 h] at hj; exact hin2 b2 hj
        have hfacts : ∀ j cj, (j, false) ∈ pre ++ [(i, true)] → j ∉ a ++ [i] → cops[j]? = some cj → ∃ u, (∀ d, cj.d = some d → put σ c.d v d = u) ∧ ∀ w', Ok w' → OpV X.P (put σ c.d v) cj w' u := by
          intro j cj hj hja hcj
          rcases List.mem_append.1 hj with hj | hj
          · obtain ⟨u, u1, u2⟩ := hfl j cj hj (fun h => hja (List.mem_append_left _ h)) hcj
            obtain ⟨a', z', ha'⟩ := List.append_of_mem hj
            have spj := fN hc3 (a := a') (i := j) (b := false) (z := z' ++ (i, true) :: s') (by rw [hcan, ha']; simp)
            obtain ⟨cj', dsj, hcj', hdsj, t1, t2, t3, t4, t5⟩ := spj.ex
            rw [hcj] at hcj'; simp only [Option.some.injEq] at hcj'; subst hcj'
            have hji : j ≠ i := fun e2 => hin2 false (by rw [← e2]; exact hj)
            have hnd : ∀ t ∈ slotsOf cj, put σ c.d v t = σ t := fun t ht => put_ne _ _ (fun he => by
              have hin3 := t1 i (((t5 i c q1).1 t ht he).resolve_right (fun h => hja (List.mem_append_left _ (hid j h.2))))
              simp only [List.nil_append] at hin3
              obtain ⟨p', hp', he'⟩ := List.mem_map.1 hin3
              exact hin2 p'.2 (by rw [ha', ← he']; exact List.mem_append_left _ hp'))
            refine ⟨u, fun d hd => ?_, fun w' hw' => OpV.congr t2 hnd (u2 w' hw')⟩
            rw [put_ne _ _ (fun he => (t5 i c q1).2 hji d hd he)]
            exact u1 d hd
          · simp at hj
        obtain ⟨fl, suf', σ', e1, e2, e3, e4, e5, e6⟩ := absorb (a := a ++ [i]) hc3 s' (pre ++ [(i, true)]) (put σ c.d v) (by rw [hcan]; simp) hdr' hfacts
        have hchnfl : chn s' = chn suf' := by
          rw [e1]; unfold chn
          have : fl.filter (·.2) = [] := List.filter_eq_nil_iff.2 (fun p hp => by simp [e2 p hp])
          rw [List.filter_append, this]; rfl
        refine ih (a ++ [i]) (pre ++ [(i, true)] ++ fl) suf' σ' _ w' hs' (by rw [hcan, e1]; simp) e3 hok' e4 (fun j hj => ?_) (fun j hj => ?_) (by rw [hcomp3, hchnfl]) e5 (fun u hu => ?_)
        · rcases List.mem_append.1 hj with hj | hj
          · rcases List.mem_append.1 hj with hj | hj
            · exact List.mem_append_left _ (hcp j hj)
            · simp only [List.mem_singleton, Prod.mk.injEq] at hj
              exact List.mem_append_right _ (by rw [hj.1]; simp)
          · have := e2 _ hj; cases this
        · rcases List.mem_append.1 hj with hj | hj
          · obtain ⟨b4, hb4⟩ := hin j hj; exact ⟨b4, by simp [hb4]⟩
          · rw [List.mem_singleton.1 hj]; exact ⟨true, by simp⟩
        · have h1 : σ' u = put σ c.d v u := e6 u fun p' hp' cp hcp' hep => by
            have hp3 := e2 p' hp'
            obtain ⟨a5, z5, e5'⟩ := List.append_of_mem hp'
            have sp5 := fN hc3 (a := pre ++ (i, true) :: a5) (i := p'.1) (b := p'.2) (z := z5 ++ suf') (by rw [hcan, e1, e5']; simp)
            obtain ⟨_, _, _, _, _, _, n5, _⟩ := sp5.ex
            refine hu p'.1 p'.2 cp (by simp [hp']) (fun hm => ?_) hcp' hep
            rcases List.mem_append.1 hm with hm | hm
            · obtain ⟨b6, hb6⟩ := hin p'.1 hm
              exact n5 (by simp only [List.nil_append, List.map_append]; exact List.mem_append_left _ (List.mem_map.2 ⟨_, hb6, rfl⟩))
            · exact n5 (by rw [List.mem_singleton.1 hm]; simp)
          rw [h1]
          by_cases hcd : c.d = some u
          · rw [hcd, put_same, put_same]
          · rw [put_ne _ _ hcd, put_ne _ _ hcd]
            refine hag u fun j b2 cj hj hl2 hcj hej => ?_
            have hij : i ≠ j := fun e => hin2 b2 (by rw [e]; exact hj)
            exact hu j b2 cj (by simp [hj]) (by simp only [List.mem_append, List.mem_singleton, not_or]; exact ⟨hl2, fun e => hij e.symm⟩) hcj hej
def DrAll (X : Fx) (Ok : World → Prop) (cops : List COp) (k : List Item) (Q : Post) (σ : Env) (w : World) : List (List (Nat × Bool)) → Prop
  | [] => True
  | c :: cs => Dr X Ok cops k Q c σ w ∧ DrAll X Ok cops k Q σ w cs
theorem DrAll.mem {σ : Env} {w : World} : ∀ {cs : List (List (Nat × Bool))}, DrAll X Ok cops k Q σ w cs → ∀ c ∈ cs, Dr X Ok cops k Q c σ w
  | [], _, c, h => by cases h
  | c' :: cs, hd, c, h => by
    rcases List.mem_cons.1 h with rfl | h
    · exact hd.1
    · exact DrAll.mem hd.2 c h
theorem dW {c : Code} {σ : Env} {w : World} (canons : List (List (Nat × Bool))) (ch ot og : List Nat) (Ok : World → Prop) (hc : rDrw c = some (cops, dl)) (hchk : chkCs cops dl X.fn.ntmps ch canons = true) (hM : chkM ot og c = true)
    (h : ∀ w', Al0 w w' → Ok w' ∧ DrAll X Ok cops k Q σ w' canons) : Run X (.code c :: k) σ w Q := by
  cases c with
  | region id ops draw =>
    cases draw with
    | false => simp [rDrw] at hc
    | true =>
      simp only [rDrw] at hc
      cases hcs : cOpsL ops ops.toList with
      | none => rw [hcs] at hc; cases hc
      | some cs =>
        rw [hcs] at hc
        simp only [Option.some.injEq, Prod.mk.injEq] at hc
        obtain ⟨rfl, rfl⟩ := hc
        intro b cts a hb ha
        have hst := stepR_region_draw (P := X.P) (b := b) (a := a) (k := k) (cs := cts) (w := w) (ops := ops) (id := id)
        simp only [chkM, Bool.and_eq_true, Bool.or_eq_true, Bool.not_eq_true'] at hM
        obtain ⟨hM1, hM2⟩ := hM
        have hsch : ∃ (md : Region.Mode) (t : Nat), Region.schedule (X.P.follows .mixedOrders) ops (w.tape w.drawn (.order b.fn id)) = Region.linearise.go md ops ops.size t (Array.replicate ops.size false) [] ∧
            (∀ e, Region.binds .any e = true → Region.binds md e = true) ∧ ∀ listed : Array Bool, listed.size = ops.size → Region.ready md ops listed = [] → ∀ i, i < ops.size → listed.getD i true = true := by
          unfold Region.schedule
          have hany : ∀ (md : Region.Mode) (e : Edge), Region.binds .any e = true → Region.binds md e = true := fun md e he => by
            unfold Region.binds at he ⊢
            cases hg : e.ground <;> rw [hg] at he <;> simp_all
          split
          · exact ⟨.any, _, rfl, hany _, topo_empty rfl hM1⟩
          · rename_i hd
            simp only [Bool.or_eq_true, Bool.not_eq_true', not_or, Bool.not_eq_false, Bool.not_eq_true] at hd
            rcases hM2 with h | h
            · rw [hd.2] at h; cases h
            · split
              · exact ⟨.text, _, rfl, hany _, topo_empty rfl h.1⟩
              · exact ⟨.gc, _, rfl, hany _, topo_empty rfl h.2⟩
        obtain ⟨md, t, hsch, hmd, hempty⟩ := hsch
        rw [hsch] at hst
        obtain ⟨hok, hdr⟩ := h { w with drawn := w.drawn + 1 } ⟨rfl, rfl, rfl, rfl⟩
        obtain ⟨l1, l2⟩ := lin_of (dl := ops.toList.map depsOf) hmd hempty rfl ops.size t (Array.replicate ops.size false) [] (by simp) (Nat.le_trans List.countP_le_length (by simp))
          (fun i hi => by simp [Array.getD_eq_getD_getElem?, hi])
        obtain ⟨s, hs⟩ : ∃ s, s = Region.linearise.go md ops ops.size t (Array.replicate ops.size false) [] := ⟨_, rfl⟩
        rw [← hs] at hst l1 l2
        have hl : Lin (ops.toList.map depsOf) ops.size s := ⟨fun i hi => (l1 i hi).resolve_left (by simp), fun a i z e => by
          obtain ⟨m1, -, m3, m4⟩ := l2 a i z e
          exact ⟨m1, m3, fun j hj => (m4 j hj).resolve_left (by simp)⟩⟩
        simp only [chkCs, Bool.and_eq_true, List.all_eq_true] at hchk
        obtain ⟨⟨hk0, hk1⟩, hk2⟩ := hchk
        have hlen := (cOpsL_get hcs).1
        simp only [Array.length_toList] at hlen
        cases canons with
        | nil =>
          simp at hk0
        | cons c0 cs0 =>
          have hchs : ∀ x ∈ ch, x ∈ s := fun x hx => by
            obtain ⟨⟨k2, k3⟩, k4⟩ := hk1 c0 List.mem_cons_self
            have h1 := dS.1 (k4 x hx)
            unfold chn at h1
            obtain ⟨⟨y, b'⟩, h2, rfl⟩ := List.mem_map.1 h1
            have h3 := (List.mem_filter.1 h2).1
            simp only [chkAll, Bool.and_eq_true] at k2
            obtain ⟨a', z', e'⟩ := List.append_of_mem h3
            obtain ⟨c', _, q1, _⟩ := (fN k2.2 e').ex
            exact hl.all _ (by have := (List.getElem?_eq_some_iff.1 q1).1; omega)
          have hmem := covers_mem hl (ch := ch) s [] _ _ _ rfl hk2 (fun x => by simp) hchs
          obtain ⟨canon, hcm, hce⟩ := List.mem_map.1 hmem
          obtain ⟨⟨k2, k3⟩, k4⟩ := hk1 canon hcm
          have k2' := k2
          simp only [chkAll, Bool.and_eq_true] at k2'
          obtain ⟨fl, suf', σ', e1, e2, e3, e4, e5, e6⟩ := absorb (a := []) k2'.2 canon [] σ rfl (hdr.mem canon hcm) (fun i c hi => by cases hi)
          have hchnfl : chn canon = chn suf' := by
            rw [e1]; unfold chn
            have : fl.filter (·.2) = [] := List.filter_eq_nil_iff.2 (fun p hp => by simp [e2 p hp])
            rw [List.filter_append, this]; rfl
          have hg := draw_go (X := X) (Ok := Ok) (k := k) (Q := Q) (canon := canon) (s := s) (ch := ch) rfl hcs hl k2 (fun x => ⟨fun h => dS.1 (k4 x h), fun h => dS.1 (k3 x h)⟩) s [] fl suf' σ' σ { w with drawn := w.drawn + 1 } rfl
            e1 e3 hok e4 (fun i hi => by have := e2 _ hi; cases this) (fun i hi => by cases hi) (by rw [← hce, hchnfl]) (by simpa using e5) (fun t ht => (e6 t fun p hp cp hcp => ht p.1 p.2 cp hp (by simp) hcp).symm)
          obtain ⟨m, hs2, r⟩ := hg b cts a hb ha
          exact ⟨m, .head hst hs2, r⟩
  | _ => simp [rDrw] at hc
variable {canon : List (Nat × Bool)} {σ : Env} {w w1 w0 : World} {l : List (Nat × Bool)} {i : Nat} {g : Option (Nat × Bool)} {d : Option Nat} {op : Op} {ty : TypeId} {h h' h0 : Sto} {m : Nat → Prop}
theorem bI {v : Value} (hc : cops[i]? = some ⟨g, d, op, ty⟩) (hg : dQ σ g = true) (hv : ∀ w', Ok w' → (ex σ op ty).run X.P w' = .ok (.value v) w') (hd : Dr X Ok cops k Q l (put σ d v) w) : Dr X Ok cops k Q ((i, false) :: l) σ w :=
  ⟨_, v, hc, fun w' hw => .inl ⟨hg, hv w' hw⟩, hd⟩
theorem dP (hc : cops[i]? = some ⟨g, d, op, ty⟩) (hg : dQ σ g = false) (hd : Dr X Ok cops k Q l (put σ d undef) w) : Dr X Ok cops k Q ((i, false) :: l) σ w :=
  ⟨_, undef, hc, fun _ _ => .inr ⟨hg, rfl⟩, hd⟩
theorem dr_c {c : COp} (hc : cops[i]? = some c) (hd : OpD X.P σ c w fun v w' => (l = [] ∨ Ok w') ∧ Dr X Ok cops k Q l (put σ c.d v) w') : Dr X Ok cops k Q ((i, true) :: l) σ w :=
  ⟨c, hc, hd⟩
variable {P : Program} {K : Value → World → Prop} {x y : Operand}
theorem od_v {v : Value} {w' : World} (hg : dQ σ g = true) (he : (ex σ op ty).run P w = .ok (.value v) w') (hK : K v w') : OpD P σ ⟨g, d, op, ty⟩ w K := .inr ⟨hg, .inl ⟨v, w', he, hK⟩⟩
theorem od_u {w' : World} (hg : dQ σ g = true) (he : (ex σ op ty).run P w = .ok .skip w') (hK : K undef w') : OpD P σ ⟨g, d, op, ty⟩ w K := .inr ⟨hg, .inr (.inl ⟨w', he, hK⟩)⟩
theorem od_s (hg : dQ σ g = false) (hK : K undef w) : OpD P σ ⟨g, d, op, ty⟩ w K := .inl ⟨hg, hK⟩
theorem fJ {f : FuncId} {as : List Operand} {ts : Array TypeId} {R : Value → World → Prop} (vs : List Value) (hE : En P f) (hg : dQ σ g = true) (ha : evs σ as = vs)
    (hc : Calls P f vs.toArray w (Ret R)) (h : ∀ v w', R v w' → K v w') : OpD P σ ⟨g, d, .call ⟨.value (.func f), as.toArray, ts⟩, ty⟩ w K :=
  .inr ⟨hg, .inr (.inr ⟨f, vs.toArray, x_call vs hE ha, hc.mono fun e w' he => by cases e <;> first | exact h _ _ he | exact he⟩)⟩
theorem od_callV {f : FuncId} {o : Operand} {as : List Operand} {ts : Array TypeId} {R : Value → World → Prop} (fs cs vs us : List Value) (hE : En P f) (hg : dQ σ g = true) (ho : ev σ o = .func (.func f) fs.toArray cs.toArray)
    (ha : evs σ as = vs) (hu : fs ++ vs ++ cs = us) (hc : Calls P f us.toArray w (Ret R)) (h : ∀ v w', R v w' → K v w') : OpD P σ ⟨g, d, .call ⟨.value o, as.toArray, ts⟩, ty⟩ w K :=
  .inr ⟨hg, .inr (.inr ⟨f, us.toArray, x_callV fs cs vs us hE ho ha hu, hc.mono fun e w' he => by cases e <;> first | exact h _ _ he | exact he⟩)⟩
theorem od_alloc {T : TypeId} (z : Value) (hz : Zr P T z) (hg : dQ σ g = true) (h : ∀ b w', Al w (.cells z.cells T (0, 0)) b w' → K (.pointer (some ⟨b, 0, none⟩)) w') : OpD P σ ⟨g, d, .alloc T, ty⟩ w K :=
  od_v (v := .pointer (some ⟨w.heap.size, 0, none⟩)) (w' := w.alloc (.cells z.cells T (0, 0))) hg (by
    simp [ex, execOp, Instr.alloc, newVar, newRow, newObj, Sem.run, hz w]) (h _ _ (fV w _))
theorem dU {T E : TypeId} {len n : Nat} {parts : List (Nat × Operand)} {z : Value} (cells vs : List Value) (l : List (Nat × Value)) (hT : P.underlying T = some (.slice E)) (hn : Sz P E n) (hz : Zr P E z)
    (hg : dQ σ g = true) (hm : Nat.ble (len * n) 1000000 = true) (h0 : Nat.beq (len * n) 0 = false) (hc : zrow z.cells.toList (len * n) = cells) (hp : mapP σ parts = l) (hf : fillS n cells l = some vs)
    (h : ∀ b w', Al w (.cells vs.toArray E (0, 0)) b w' → K (.slice (some ⟨b, 0, none⟩) len len) w') : OpD P σ ⟨g, d, .buildSlice T len parts.toArray, ty⟩ w K := by
  refine od_v (v := .slice (some ⟨w.heap.size, 0, none⟩) len len) (w' := w.alloc (.cells vs.toArray E (0, 0))) hg ?_ (h _ _ (fV w _))
  have h3 : ((parts.toArray.map fun (p : Nat × Operand) => (p.1, ev σ p.2))).toList = l := by simp [mapP_eq, hp]
  have h4 := buildSlice_run hT hn hz hm h0 hc (h3 ▸ hf) w
  simp only [List.map_toArray] at h4
  simp [ex, execOp, h4]
theorem od_append {α : Type} [GoTy α] {sT E xT by_ : Nat} {z : Value} {B c c2 : Nat} {h : Sto} {a a2 : Option Addr} {l l2 : List α} {n n2 : Nat}
    (hT : P.underlying sT = some (.slice E)) (hX : P.underlying xT = some (.slice E)) (hA : ApT P E (GoTy.sz α) by_ z) (hg : dQ σ g = true)
    (hx : ev σ x = .slice a n2 c) (hy : ev σ y = .slice a2 n c2) (hw : Has h w) (hB : B ≤ w.heap.size) (ow : Own E B h w a c l) (r2 : SlR h a2 c2 l2) (hn2 : l.length = n2) (hn : l2.length = n) (hl : l.length + l2.length ≤ apl)
    (hk : ∀ a' c' w', Own E B h w' a' c' (l ++ l2) → St w (blk a) h h w' → (∀ b, blk a' b → blk a b ∨ w.heap.size ≤ b) → K (.slice a' (l ++ l2).length c') w') :
    OpD P σ ⟨g, d, .call ⟨.builtin .append, #[x, y], #[sT, xT]⟩, ty⟩ w K := by
  subst hn2
  obtain ⟨a', c', w', h1, h2, h3, h4⟩ := append_run (ty := ty) hT hX hA hw hB ow r2 hn (by rw [hn] at hl; exact hl)
  refine od_v (v := .slice a' (l ++ l2).length c') (w' := w') hg ?_ (hk a' c' w' h2 h3 h4)
  simp [ex, execOp, resolve, invoke, builtin, hx, hy, h1]
theorem od_store {T U : TypeId} {n b o : Nat} {h0 : Sto} {cs : List Value} (vs cs' : List Value) (v : Value) (hz : Sz P T n) (hg : dQ σ g = true) (hx : ev σ x = .pointer (some ⟨b, o, none⟩)) (hy : ev σ y = v)
    (mu : Mut h0 w b (.cells cs.toArray U (0, 0))) (hv : v.cells = vs.toArray) (hn : vs.length = n) (h1 : ones vs = true) (hl : Nat.ble (o + n) cs.length = true) (hc : eU cs o vs = cs')
    (h : ∀ w', Wr w b (.cells cs'.toArray U (0, 0)) w' → Mut h0 w' b (.cells cs'.toArray U (0, 0)) → K undef w') : OpD P σ ⟨g, d, .store T x y, ty⟩ w K := by
  obtain ⟨w', h2, h3⟩ := fQ (P := P) (b := b) (o := o) (T := U) vs 0 cs w mu.get (ones_all h1) (by have := Nat.le_of_ble_eq_true hl; omega)
  rw [Nat.add_zero, hc] at h3
  refine od_u hg (w' := w') ?_ (h w' h3 ⟨mu.none, h3.new⟩)
  have hs : v.cells.size = n := by rw [hv]; simpa using hn
  simp [ex, execOp, hx, hy, Instr.storeAt, Instr.sureAddr, storeVar, hz w, hs]
  rw [hv]; simp [h2]
theorem dZ (hd : Run X k σ w Q) : Dr X Ok cops k Q [] σ w := hd
theorem St.dr (st : St w0 m h0 h w) (a : Al0 w w1) : St w0 m h0 h w1 :=
  ⟨fun b o hb => by rw [a.heap]; exact st.has b o hb, ⟨by rw [a.heap]; exact st.sp.size, fun b hb hn => by rw [a.heap]; exact st.sp.keep b hb hn, a.os.trans st.sp.os, a.tape.trans st.sp.tape, a.output.trans st.sp.output⟩, st.le, st.fresh⟩
theorem Al0.st (a : Al0 w w1) (hh : Has h w) : St w noM h h w1 := (St.init hh noM).dr a
end
def isSc : Option TypeDesc → Bool
  | some (.int _) => true
  | some .bool => true
  | some .string => true
  | _ => false
def flat (P : Program) : Nat → List Field → Bool
  | _, [] => true
  | i, f :: fs => (!(f.name == "_")) && Nat.beq f.offset i && isSc (P.underlying f.type) && flat P (i + 1) fs
structure EqT (P : Program) (T : TypeId) (fs : List Field) : Prop where
  u : P.underlying T = some (.struct fs.toArray)
  held : P.stoodInHeld T = false
  guard : P.eqGuardType P.depth T = false
  flat : flat P 0 fs = true
theorem sl_nil_eq {P : Program} {w : World} {T E : TypeId} (d : Nat) (a : Option Addr) (n c : Nat) (hT : P.underlying T = some (.slice E)) : (Op.equalIn (d + 1) T (.slice a n c) (.slice none 0 0)).run P w = .ok a.isNone w := by
  cases a <;> simp only [Op.equalIn, Sem.run_bind, run_underlying hT, Result.andThen_ok, Sem.run_pure, Option.isNone]
theorem x_slNil {P : Program} {σ : Env} {w : World} {x y : Operand} {T T2 E : TypeId} {ty : TypeId} {a : Option Addr} {n c : Nat} (hT : P.underlying T = some (.slice E)) (hx : ev σ x = .slice a n c) (hy : ev σ y = .slice none 0 0) :
    (ex σ (.binOp .eql T x y T2) ty).run P w = .ok (.value (.bool a.isNone)) w := by
  have e : (Op.equalIn 10000 T (.slice a n c) (.slice none 0 0)).run P w = .ok a.isNone w := sl_nil_eq 9999 a n c hT
  simp only [ex, execOp, hx, hy]
  simp [eqGuard, binOp, Op.equal, Op.maxDepth, e]
def Xb (P : Program) (f : FuncId) : Prop := ∃ fn, P.funcs[f]? = some fn ∧ (fn.name == "runtime.NumGoroutine") = false ∧ fn.body.isNone = true ∧ Extern.findNext fn = none ∧ Extern.find fn = some Extern.BytealgIndexByte.indexByte
theorem xb_of {P : Program} {f : FuncId} {fn : Func} (h : P.funcs[f]? = some fn) (h1 : (fn.name == "runtime.NumGoroutine") = false) (h2 : fn.body.isNone = true) (h3 : Extern.findNext fn = none)
    (h4 : Extern.find fn = some Extern.BytealgIndexByte.indexByte) : Xb P f := ⟨fn, h, h1, h2, h3, h4⟩
theorem ibL_eq : ∀ (l : List UInt8) (c : UInt8) (i : Nat), ibL l c i = if Lib.indexByte l c = -1 then -1 else Lib.indexByte l c + i
  | [], c, i => by simp [ibL, Lib.indexByte]
  | b :: l, c, i => by
    have ge := Lib.indexByte_ge l c
    have e : Lib.indexByte (b :: l) c = (if (b == c) = true then 0 else if (Lib.indexByte l c == -1) = true then -1 else Lib.indexByte l c + 1) := rfl
    obtain ⟨v, hv⟩ : ∃ v, v = Lib.indexByte (b :: l) c := ⟨_, rfl⟩
    rw [← hv]
    rw [e] at hv
    simp only [ibL, ibL_eq l c (i + 1)]
    by_cases h : b = c
    · have h' : (b == c) = true := by simpa using h
      rw [if_pos h'] at hv
      subst hv; simp [h]
    · have h' : ¬ (b == c) = true := by simpa using h
      rw [if_neg h'] at hv
      rw [if_neg h]
      by_cases h2 : Lib.indexByte l c = -1
      · have h3 : (Lib.indexByte l c == -1) = true := by simpa using h2
        rw [if_pos h3] at hv
        subst hv; simp [h2]
      · have h3 : ¬ (Lib.indexByte l c == -1) = true := by simpa using h2
        rw [if_neg h3] at hv
        rw [if_neg h2, if_neg (by omega)]
        omega
theorem ib_eq (s : ByteArray) (c : Int) : Lib.indexByte s.data.toList c.toNat.toUInt8 = ib s c := by
  unfold ib; rw [ibL_eq]; split <;> simp_all
theorem x_ib {P : Program} {σ : Env} {w : World} {f : FuncId} {as : List Operand} {ts : Array TypeId} {s : ByteArray} {c : Int} {ty : TypeId} (h : Xb P f) (ha : evs σ as = [.string s, .int .u8 c]) :
    (ex σ (.call ⟨.value (.func f), as.toArray, ts⟩) ty).run P w = .ok (.value (.int .i64 (ib s c))) w := by
  obtain ⟨fn, h1, h2, h3, h4, h5⟩ := h
  have e1 := run_callFunc_extern h1 h2 h3 h4 h5 #[.string s, .int .u8 c] w
  rw [Lib.run_indexByteString, ib_eq] at e1
  have e2 : as.map (ev σ) = [.string s, .int .u8 c] := by rw [evs_eq, ha]
  simp only [Result.andThen_ok] at e1
  simp [ex, execOp, resolve, ev, Deferred.ofValue, invoke, e2, e1]
theorem x_shr {P : Program} {σ : Env} {w : World} {x y : Operand} (k k2 : IntKind) (a b : Int) (v : Value) (T T2 : TypeId) {ty : TypeId} (hx : ev σ x = .int k a) (hy : ev σ y = .int k2 b) (hb : ¬ b < 0) (hv : Value.int k (a.fdiv (2 ^ (min b.toNat k.bits))) = v) :
    (ex σ (.binOp .shr T x y T2) ty).run P w = .ok (.value v) w := by
  subst hv
  simp [ex, execOp, hx, hy, eqGuard, binOp, Op.shift, hb]
section
variable {X : Fx} {σ : Env} {w : World} {Q : Post} {k : List Item} {os : List COp} {g : Option (Nat × Bool)} {d : Option Nat} {ty : TypeId} {P : Program} {K : Value → World → Prop}
theorem x_buildSlice0 {T E : TypeId} {n : Nat} (hT : P.underlying T = some (.slice E)) (hn : Sz P E n) (w : World) :
    (ex σ (.buildSlice T 0 (List.toArray [])) ty).run P w = .ok (.value (.slice (some ⟨w.heap.size, 0, none⟩) 0 0)) (w.alloc (.cells (List.toArray []) E (0, 0))) := by
  have e1 : (underlying T).run P w = .ok (.slice E) w := by simp [underlying, program, Sem.run, hT]
  simp [ex, execOp, Instr.buildSlice, e1, hn w, Instr.fill, newRow, newObj, Sem.run]
  congr 2
  apply Array.toList_inj.1; simp
theorem rr_buildSlice0 {T E : TypeId} {n : Nat} (hT : X.P.underlying T = some (.slice E)) (hn : Sz X.P E n) (hg : dQ σ g = true) (hd : dOk X.fn.ntmps d = true)
    (h : ∀ b w', Al w (.cells (List.toArray []) E (0, 0)) b w' → RunR X os k (put σ d (.slice (some ⟨b, 0, none⟩) 0 0)) w' Q) : RunR X (⟨g, d, .buildSlice T 0 (List.toArray []), ty⟩ :: os) k σ w Q :=
  rr_value' hg hd (x_buildSlice0 hT hn w) (h _ _ (fV w _))
end
def Ft (P : Program) (T : TypeId) (i off : Nat) (FT : TypeId) : Prop := ∃ fs f, P.underlying T = some (.struct fs) ∧ fs[i]? = some f ∧ f.offset = off ∧ f.type = FT
def ftB (P : Program) (T : TypeId) (i off : Nat) (FT : TypeId) : Bool := match P.underlying T with
  | some (.struct fs) => match fs[i]? with
    | some f => Nat.beq f.offset off && Nat.beq f.type FT
    | none => false
  | _ => false
theorem ft_of {P : Program} {T : TypeId} {i off : Nat} {FT : TypeId} (h : ftB P T i off FT = true) : Ft P T i off FT := by
  unfold ftB at h
  split at h
  · rename_i fs hu
    split at h
    · rename_i f hf
      simp only [Bool.and_eq_true] at h
      exact ⟨fs, f, hu, hf, Nat.eq_of_beq_eq_true h.1, Nat.eq_of_beq_eq_true h.2⟩
    · cases h
  · cases h
theorem x_fS {P : Program} {σ : Env} {w : World} {x : Operand} {ty : TypeId} {T FT : TypeId} {i off : Nat} {cs : List Value} (v : Value) (hF : Ft P T i off FT) (hS : Sc P FT) (hx : ev σ x = .agg cs.toArray) (hv : cs[off]? = some v) :
    (ex σ (.field T x i) ty).run P w = .ok (.value v) w := by
  obtain ⟨fs, f, hu, hf, rfl, rfl⟩ := hF
  simp [ex, execOp, hx, Instr.field, underlying, program, Sem.run, hu, hf, asAgg, part, hS w, hv]
theorem x_sliceL {P : Program} {σ : Env} {w : World} {x : Operand} {ty : TypeId} {α : Type} {T E : TypeId} {a : Option Addr} {n c z : Nat} {lo hi : Option Operand} {l h : Int} {kl kh : IntKind} (xs : List α) (hn : xs.length = n) (hT : P.underlying T = some (.slice E)) (hz : Sz P E z) (hx : ev σ x = .slice a n c)
    (hl : match lo with | some y => ev σ y = .int kl l | none => l = 0) (hh : match hi with | some y => ev σ y = .int kh h | none => h = n) (h0 : 0 ≤ l) (h1 : l ≤ h) (h2 : h ≤ n) (hc : n ≤ c) :
    (ex σ (.slice T x lo hi none) ty).run P w = .ok (.value (.slice (if c = l.toNat then a else a.map (·.add (l.toNat * z))) ((xs.take h.toNat).drop l.toNat).length (c - l.toNat))) w := by
  have e : ((xs.take h.toNat).drop l.toNat).length = h.toNat - l.toNat := by rw [List.length_drop, List.length_take]; omega
  rw [e]
  exact x_sliceSl hT hz hx hl hh h0 h1 (by omega)
theorem eY {P : Program} {σ : Env} {w : World} {x : Operand} {ty : TypeId} {α : Type} {T E : TypeId} {a a' : Option Addr} {n c c' z : Nat} {lo hi : Option Operand} {l h : Int} {kl kh : IntKind} (xs : List α) (hn : xs.length = n) (hT : P.underlying T = some (.slice E)) (hz : Sz P E z) (hx : ev σ x = .slice a n c)
    (hl : match lo with | some y => ev σ y = .int kl l | none => l = 0) (hh : match hi with | some y => ev σ y = .int kh h | none => h = n) (h0 : 0 ≤ l) (h1 : l ≤ h) (h2 : h ≤ n) (hc : n ≤ c)
    (ha : (if c = l.toNat then a else a.map (·.add (l.toNat * z))) = a') (hc' : c - l.toNat = c') :
    (ex σ (.slice T x lo hi none) ty).run P w = .ok (.value (.slice a' ((xs.take h.toNat).drop l.toNat).length c')) w := by
  subst ha; subst hc'; exact x_sliceL xs hn hT hz hx hl hh h0 h1 h2 hc
theorem SlR.slice2 {α : Type} [GoTy α] {h : Sto} {a : Option Addr} {c : Nat} {l : List α} {lo hi : Int} (r : SlR h a c l) (h0 : 0 ≤ lo) (h1 : lo ≤ hi) (h2 : hi ≤ (l.length : Int)) :
    ∃ a' c', (if c = lo.toNat then a else a.map (·.add (lo.toNat * GoTy.sz α))) = a' ∧ c - lo.toNat = c' ∧ SlR h a' c' ((l.take hi.toNat).drop lo.toNat) := ⟨_, _, rfl, rfl, r.slice h0 h1 h2⟩
theorem Own.lts {α : Type} [GoTy α] {T : TypeId} {B c : Nat} {h : Sto} {w : World} {a : Option Addr} {l : List α} (ow : Own T B h w a c l) : ∀ x, blk a x → x < w.heap.size := by
  rintro x ⟨A, hA, e⟩
  rcases ow with ⟨rfl, _, _⟩ | ⟨b', cs', ha, hB, o⟩
  · cases hA
  · rw [ha] at hA; simp only [Option.some.injEq] at hA; subst hA; simp only at e; subst e; exact o.mu.lt
theorem Own.ne_new {α β : Type} [GoTy α] [GoTy β] {T T' : TypeId} {B c c2 : Nat} {h h' : Sto} {w w' : World} {a a2 : Option Addr} {l : List α} {l2 : List β} (o2 : Own T B h w a2 c2 l2) (o : Own T' w.heap.size h' w' a c l) : ∀ x, blk a x → ¬ blk a2 x :=
  fun x hx h2 => absurd (o2.lts x h2) (by have := o.lbs x hx; omega)
theorem Own.lend {α : Type} [GoTy α] {T : TypeId} {B c : Nat} {h : Sto} {w : World} {a : Option Addr} {l : List α} (ow : Own T B h w a c l) (hh : Has h w) : ∃ h', Le h h' ∧ SlR h' a c l ∧ Has h' w ∧ ∀ x, ¬ blk a x → h' x = h x := by
  rcases ow with ⟨rfl, rfl, rfl⟩ | ⟨b, cs, rfl, hb, o⟩
  · exact ⟨h, Le.refl h, SlR.none h, hh, fun _ _ => rfl⟩
  · have hle := Sto.le_put (.cells cs T (0, 0)) o.mu.none
    refine ⟨h.put b (.cells cs T (0, 0)), hle, ⟨o.lc, o.mx, (fun e => by cases e), fun A hA => ?_⟩, fun x ox hx => ?_, fun x hx => Sto.put_ne _ _ (fun e => hx ⟨_, rfl, e.symm⟩)⟩
    · simp only [Option.some.injEq] at hA
      subst hA
      refine .inr ⟨rfl, cs, T, (0, 0), Sto.put_same _ _ _, fun j hj => ?_⟩
      obtain ⟨vs, h1, h2⟩ := o.el j hj
      exact ⟨vs, GoTy.mono hle h1, fun i hi => by rw [← h2 i hi]; simp⟩
    · by_cases e : x = b
      · subst e; rw [Sto.put_same] at hx; rw [← hx]; exact o.mu.get
      · rw [Sto.put_ne _ _ e] at hx; exact hh x ox hx
theorem St.lend {w w' : World} {h h1 h2 : Sto} (st : St w noM h1 h2 w') (le : Le h h1) : St w noM h h w' :=
  ⟨fun b o hb => st.has b o (st.le b o (le b o hb)), st.sp, Le.refl h, fun _ h1 h2 => absurd h2 h1⟩
theorem Own.ne_al {α : Type} [GoTy α] {T : TypeId} {B c b : Nat} {h : Sto} {w w' : World} {o : Obj} {a : Option Addr} {l : List α} (ow : Own T B h w a c l) (al : Al w o b w') : ¬ blk a b := by
  rintro ⟨A, hA, e⟩
  rcases ow with ⟨rfl, _, _⟩ | ⟨b', cs', ha, hB, o'⟩
  · cases hA
  · rw [ha] at hA; simp only [Option.some.injEq] at hA; subst hA; simp only at e; subst e
    exact o'.mu.ne_al al rfl
class GoKey (κ : Type) [GoTy κ] [DecidableEq κ] where
  enc : κ → Value
  desc : TypeDesc → Bool
  rep : ∀ {h : Sto} {v : Value} {k : κ}, GoTy.rep h [v] k → v = enc k
  rep' : ∀ (h : Sto) (k : κ), GoTy.rep h [enc k] k
  same : ∀ {D : TypeDesc} (a b : κ), desc D = true → Instr.sameNow D (enc a) (enc b) = some (decide (a = b))
  chk : ∀ {P : Program} {T : TypeId} {D : TypeDesc} {w : World} (e : Bool) (k : κ), desc D = true → P.underlying T = some D → (Instr.checkKey e 10000 T (enc k)).run P w = .ok () w
  stays : ∀ {P : Program} {w : World} (k : κ), (Instr.keyThatStays (enc k) (enc k)).run P w = .ok (enc k) w
theorem chk_ok {P : Program} {T : TypeId} {D : TypeDesc} {w : World} (n : Nat) (e : Bool) (v : Value) (hD : (match D with | .string => true | .int _ => true | .bool => true | _ => false) = true) (hu : P.underlying T = some D) :
    (Instr.checkKey e (n + 1) T v).run P w = .ok () w := by
  cases D <;> simp only [Bool.false_eq_true] at hD <;> cases v <;> simp only [Instr.checkKey, Sem.run_bind, run_underlying hu, Result.andThen_ok, Sem.run_pure]
def isStr : TypeDesc → Bool
  | .string => true
  | _ => false
def isI64 : TypeDesc → Bool
  | .int k => decide (k = .i64)
  | _ => false
instance : GoKey ByteArray where
  enc := .string
  desc := isStr
  rep r := by have : [_] = [Value.string _] := r; simpa using this
  rep' _ _ := rfl
  same a b hD := by
    rename_i D
    cases D <;> simp only [isStr, Bool.false_eq_true] at hD
    show some (ByteArray.beq a b) = _
    congr 1; exact (beq_toListBytes a b).trans (bytes_eq a b)
  chk e k hD hu := chk_ok 9999 e _ (by rename_i D _; cases D <;> simp_all [isStr]) hu
  stays k := by
    have : Instr.sameBits 10000 (.string k) (.string k) = true := by
      show ByteArray.beq k k = true
      exact (beq_toListBytes k k).trans (by simp)
    unfold Instr.keyThatStays; rw [if_pos this]; rfl
instance : GoKey Int where
  enc := .int .i64
  desc := isI64
  rep r := by have : [_] = [Value.int .i64 _] := r; simpa using this
  rep' _ _ := rfl
  same a b hD := by
    rename_i D
    cases D <;> simp only [isI64, Bool.false_eq_true] at hD
    simp only [Instr.sameNow, if_true]; rfl
  chk e k hD hu := chk_ok 9999 e _ (by rename_i D _; cases D <;> simp_all [isI64]) hu
  stays k := by
    have : Instr.sameBits 10000 (.int .i64 k) (.int .i64 k) = true := by
      show ((IntKind.i64 == IntKind.i64) && (k == k)) = true
      simp
    unfold Instr.keyThatStays; rw [if_pos this]; rfl
theorem rep_int {h : Sto} {v : Value} {x : Int} (r : GoTy.rep h [v] x) : v = .int .i64 x := GoKey.rep r
theorem rep_sl {h : Sto} {α : Type} [GoTy α] {v : Value} {x : List α} (r : GoTy.rep h [v] x) : ∃ a c, v = .slice a x.length c ∧ SlR h a c x := by
  obtain ⟨a, c, e, r⟩ := r
  simp only [List.cons.injEq, and_true] at e
  exact ⟨a, c, e, r⟩
theorem x_lookup {P : Program} {σ : Env} {w : World} {x y : Operand} {ty T : TypeId} {b : Nat} {v : Value} {ok : Bool} {kv : Value} (hx : ev σ x = .map (some b)) (hy : ev σ y = kv) (hl : (Instr.lookup T (.map (some b)) kv ok).run P w = .ok v w) :
    (ex σ (.lookup T x y ok) ty).run P w = .ok (.value v) w := by
  subst hy
  simp [ex, execOp, hx, hl]
section
variable {κ ν : Type} [GoTy κ] [DecidableEq κ] [GoKey κ] [GoTy ν]
inductive Ents (h : Sto) : List MapEntry → List (κ × ν) → Prop
  | nil : Ents h [] []
  | cons {e : MapEntry} {k : κ} {v : ν} {es : List MapEntry} {l : List (κ × ν)} : e.key = GoKey.enc k → GoTy.rep h [e.val] v → Ents h es l → Ents h (e :: es) ((k, v) :: l)
theorem Ents.mono {h h' : Sto} {es : List MapEntry} {l : List (κ × ν)} (hl : Le h h') (e : Ents h es l) : Ents h' es l := by
  induction e with
  | nil => exact .nil
  | cons h1 h2 _ ih => exact .cons h1 (GoTy.mono hl h2) ih
theorem Ents.len {h : Sto} {es : List MapEntry} {l : List (κ × ν)} (e : Ents h es l) : es.length = l.length := by
  induction e with
  | nil => rfl
  | cons _ _ _ ih => simp [ih]
theorem Ents.find {h : Sto} {es : List MapEntry} {l : List (κ × ν)} (e : Ents h es l) {D : TypeDesc} (hD : GoKey.desc κ D = true) (k : κ) : ∀ i : Nat,
    (Instr.findNow D (GoKey.enc k) es i = some none ∧ dV l k = none ∧ ∀ v : ν, cC l k v = l ++ [(k, v)]) ∨
    ∃ j v' v, Instr.findNow D (GoKey.enc k) es i = some (some (i + j, v')) ∧ dV l k = some v ∧ GoTy.rep h [v'] v ∧ (∃ e', es[j]? = some e' ∧ e'.key = GoKey.enc k) ∧
      ∀ (u' : Value) (u : ν), GoTy.rep h [u'] u → Ents h (es.modify j fun e => { e with key := GoKey.enc k, val := u' }) (cC l k u) := by
  induction e with
  | nil => exact fun i => .inl ⟨rfl, rfl, fun _ => rfl⟩
  | @cons e0 k0 v0 es l h1 h2 h3 ih =>
    intro i
    simp only [Instr.findNow, h1, GoKey.same k k0 hD]
    by_cases hk : k = k0
    · right
      refine ⟨0, e0.val, v0, by simp [hk], by simp [dV, hk], h2, ⟨e0, by simp, by rw [h1, hk]⟩, fun u' u hu => ?_⟩
      simp only [cC, hk, if_true, List.modify_zero_cons]
      exact .cons rfl hu h3
    · have hd : decide (k = k0) = false := by simpa using hk
      rw [hd]
      rcases ih (i + 1) with ⟨q1, q2, q3⟩ | ⟨j, v', v, q1, q2, q3, ⟨e', q4, q5⟩, q6⟩
      · left; exact ⟨q1, by simp [dV, hk, q2], fun v => by simp [cC, hk, q3 v]⟩
      · right
        refine ⟨j + 1, v', v, by rw [q1, Nat.add_right_comm, Nat.add_assoc], by simp [dV, hk, q2], q3, ⟨e', by simpa using q4, q5⟩, fun u' u hu => ?_⟩
        simp only [cC, hk, if_false, List.modify_succ_cons]
        exact .cons h1 h2 (q6 u' u hu)
def MpF (h : Sto) (b : Nat) (l : List (κ × ν)) : Prop := ∃ es clk, h b = some (.map es clk) ∧ Ents h es.toList l
def MpM (h : Sto) (w : World) (b : Nat) (l : List (κ × ν)) : Prop := ∃ es clk, Mut h w b (.map es clk) ∧ Ents h es.toList l
variable {h h' h0 : Sto} {w w' w0 : World} {b b' : Nat} {l : List (κ × ν)} {m : Nat → Prop} {o : Obj}
theorem MpF.mono (hl : Le h h') (f : MpF h b l) : MpF h' b l := by
  obtain ⟨es, clk, h1, h2⟩ := f; exact ⟨es, clk, hl _ _ h1, h2.mono hl⟩
theorem MpM.call (mu : MpM h w b l) (st : St w m h h' w') (hm : ¬ m b) : MpM h' w' b l := by
  obtain ⟨es, clk, h1, h2⟩ := mu; exact ⟨es, clk, h1.call st hm, h2.mono st.le⟩
theorem MpM.call0 (mu : MpM h w b l) (st : St w noM h h' w') : MpM h' w' b l := mu.call st (fun x => x)
theorem MpM.fr (mu : MpM h w b' l) (hle : Le h h') (hk : ∀ x, x ≠ b → h' x = h x) (ne : b' ≠ b) : MpM h' w b' l := by
  obtain ⟨es, clk, h1, h2⟩ := mu; exact ⟨es, clk, h1.fr hk ne, h2.mono hle⟩
theorem MpM.frB {a : Option Addr} (mu : MpM h w b' l) (hle : Le h h') (hk : ∀ x, ¬ blk a x → h' x = h x) (ne : ¬ blk a b') : MpM h' w b' l := by
  obtain ⟨es, clk, h1, h2⟩ := mu; exact ⟨es, clk, h1.frB hk ne, h2.mono hle⟩
theorem MpM.ne_al (mu : MpM h w b l) (al : Al w o b' w') : b ≠ b' := by
  obtain ⟨es, clk, h1, h2⟩ := mu; exact h1.ne_al al
theorem MpM.ne_mut {cs : Array Value} {T : TypeId} {fr : Nat × Nat} (mu : MpM h w b l) (m2 : Mut h w b' (.cells cs T fr)) : b ≠ b' := by
  obtain ⟨es, clk, h1, h2⟩ := mu
  intro e; subst e; have := h1.get.symm.trans m2.get; simp at this
theorem MpM.ne_own {α : Type} [GoTy α] {T : TypeId} {B c : Nat} {a : Option Addr} {xs : List α} (mu : MpM h w b l) (ow : Own T B h w a c xs) : ¬ blk a b := by
  rintro ⟨A, hA, e⟩
  rcases ow with ⟨rfl, _, _⟩ | ⟨b', cs', ha, hB, o⟩
  · cases hA
  · rw [ha] at hA; simp only [Option.some.injEq] at hA; subst hA; simp only at e; subst e
    exact mu.ne_mut o.mu rfl
theorem MpM.fz (mu : MpM h w b l) (st : St w0 m h0 h w) (lb : w0.heap.size ≤ b) : ∃ h', Le h h' ∧ MpF h' b l ∧ St w0 m h0 h' w ∧ ∀ x, x ≠ b → h' x = h x := by
  obtain ⟨es, clk, h1, h2⟩ := mu
  obtain ⟨h', q1, q2, q3, q4⟩ := h1.fz st lb
  exact ⟨h', q1, ⟨es, clk, q2, h2.mono q1⟩, q3, q4⟩
theorem MpM.new (st : St w0 m h0 h w) (al : Al w (.map #[] 0) b w') : MpM h w' b ([] : List (κ × ν)) := ⟨#[], 0, Mut.new st al, .nil⟩
variable {X : Fx} {P : Program} {σ : Env} {Q : Post} {k : List Item} {os : List COp} {g : Option (Nat × Bool)} {d : Option Nat} {ty : TypeId} {x y z : Operand} {K : Value → World → Prop} {T KT E : TypeId} {D : TypeDesc}
theorem x_makeMap (w : World) : (ex σ (.makeMap T none) ty).run P w = .ok (.value (.map (some w.heap.size))) (w.alloc (.map #[] 0)) := by
  simp [ex, execOp, Instr.makeMap, newObj, Sem.run]
theorem rr_makeMap (hg : dQ σ g = true) (hd : dOk X.fn.ntmps d = true) (hk : ∀ b w', Al w (.map #[] 0) b w' → RunR X os k (put σ d (.map (some b))) w' Q) : RunR X (⟨g, d, .makeMap T none, ty⟩ :: os) k σ w Q :=
  rr_value' hg hd (x_makeMap w) (hk _ _ (fV w _))
structure MT (κ : Type) [GoTy κ] [DecidableEq κ] [GoKey κ] (P : Program) (T KT E : TypeId) (D : TypeDesc) : Prop where
  u : P.underlying T = some (.map KT E)
  k : P.underlying KT = some D
  d : GoKey.desc κ D = true
theorem get_map {es : Array MapEntry} {clk : Nat} (hw : w.heap[b]? = some (.map es clk)) : (getObj b).run P w = .ok (.map es clk) w := by simp [getObj, Sem.run, hw]
theorem set_map {es : Array MapEntry} {clk : Nat} (o : Obj) (hw : w.heap[b]? = some (.map es clk)) : (setObj b o).run P w = .ok () { w with heap := w.heap.setIfInBounds b o } := by simp [setObj, Sem.run, hw]
theorem update_run (hT : MT κ P T KT E D) (mu : MpM h w b l) (key : κ) (v : Value) (u : ν) (hu : GoTy.rep h [v] u) :
    ∃ w', (Instr.mapUpdate T (.map (some b)) (GoKey.enc key) v).run P w = .ok () w' ∧ (∃ o, Wr w b o w') ∧ h b = none ∧ MpM h w' b (cC l key u) := by
  obtain ⟨es, clk, h1, h2⟩ := mu
  have e1 : (underlying T).run P w = .ok (.map KT E) w := run_underlying hT.u w
  have e2 : (underlying KT).run P w = .ok D w := run_underlying hT.k w
  have e3 := GoKey.chk (κ := κ) (w := w) false key hT.d hT.k
  have wr : ∀ o, Wr w b o { w with heap := w.heap.setIfInBounds b o } := fun o =>
    ⟨by simp [h1.lt], by simp, fun x hx => by simp [Array.getElem?_setIfInBounds]; intro e; exact absurd e.symm hx, rfl, rfl, rfl⟩
  rcases h2.find hT.d key 0 with ⟨q1, q2, q3⟩ | ⟨j, v', v0, q1, q2, q3, ⟨e', q4, q5⟩, q6⟩
  · refine ⟨{ w with heap := w.heap.setIfInBounds b (.map (es.push { key := GoKey.enc key, val := v, born := clk }) (clk + 1)) }, ?_, ⟨_, wr _⟩, h1.none, _, _, ⟨h1.none, (wr _).new⟩, ?_⟩
    · simp [Instr.mapUpdate, e1, e3, get_map h1.get, Instr.findKey, e2, q1, set_map _ h1.get]
    · rw [q3]
      have : (es.push { key := GoKey.enc key, val := v, born := clk }).toList = es.toList ++ [{ key := GoKey.enc key, val := v, born := clk }] := by simp
      rw [this]
      clear q1 q2 q3 e1 e2 e3 wr h1
      revert h2
      generalize es.toList = L
      intro h2
      induction h2 with
      | nil => exact .cons rfl hu .nil
      | cons a1 a2 _ ih => exact .cons a1 a2 ih
  · have q1' : Instr.findNow D (GoKey.enc key) es.toList 0 = some (some (j, v')) := by rw [q1]; simp
    have q4' : es[j]? = some e' := by simpa using q4
    refine ⟨{ w with heap := w.heap.setIfInBounds b (.map (es.modify j fun e => { e with key := GoKey.enc key, val := v }) clk) }, ?_, ⟨_, wr _⟩, h1.none, _, _, ⟨h1.none, (wr _).new⟩, ?_⟩
    · simp [Instr.mapUpdate, e1, e3, get_map h1.get, Instr.findKey, e2, q1', set_map _ h1.get, q4', q5, GoKey.stays]
    · rw [Array.toList_modify]; exact q6 v u hu
theorem rr_insert {v : Value} {key : κ} (u : ν) (hT : MT κ X.P T KT E D) (hg : dQ σ g = true) (hd : dOk X.fn.ntmps d = true) (hx : ev σ x = .map (some b)) (hy : ev σ y = GoKey.enc key) (hz : ev σ z = v) (mu : MpM h w b l) (hu : GoTy.rep h [v] u) (hw : Has h w)
    (hk : ∀ w', MpM h w' b (cC l key u) → St w (fun x => x = b) h h w' → RunR X os k (put σ d undef) w' Q) : RunR X (⟨g, d, .insert T x y z, ty⟩ :: os) k σ w Q := by
  obtain ⟨w', h1, ⟨o, h2⟩, h3, h4⟩ := update_run hT mu key v u hu
  refine rr_unit' hg hd (w' := w') ?_ (hk w' h4 (h2.st hw h3))
  simp [ex, execOp, hx, hy, hz, h1]
theorem lookup_run {es : Array MapEntry} {clk : Nat} {zv : Value} {zu : ν} (hT : MT κ P T KT E D) (hz : Zr P E zv) (he : Ents h es.toList l) (rz : GoTy.rep h [zv] zu) (key : κ) :
    ∃ v, GoTy.rep h [v] ((dV l key).getD zu) ∧ ∀ w : World, w.heap[b]? = some (.map es clk) → ∀ ok : Bool,
      (Instr.lookup T (.map (some b)) (GoKey.enc key) ok).run P w = .ok (if ok then .tuple #[v, .bool (dV l key).isSome] else v) w := by
  rcases he.find hT.d key 0 with ⟨q1, q2, q3⟩ | ⟨j, v', v0, q1, q2, q3, _, _⟩
  · refine ⟨zv, by rw [q2]; exact rz, fun w hw ok => ?_⟩
    have e1 : (underlying T).run P w = .ok (.map KT E) w := run_underlying hT.u w
    have e2 : (underlying KT).run P w = .ok D w := run_underlying hT.k w
    have e3 := fun e => GoKey.chk (κ := κ) (w := w) e key hT.d hT.k
    simp [Instr.lookup, e1, get_map hw, e3, Instr.findKey, e2, q1, hz w, q2]
  · refine ⟨v', by rw [q2]; exact q3, fun w hw ok => ?_⟩
    have e1 : (underlying T).run P w = .ok (.map KT E) w := run_underlying hT.u w
    have e2 : (underlying KT).run P w = .ok D w := run_underlying hT.k w
    have e3 := fun e => GoKey.chk (κ := κ) (w := w) e key hT.d hT.k
    simp [Instr.lookup, e1, get_map hw, e3, Instr.findKey, e2, q1, q2]
theorem MpF.look {zv : Value} {zu : ν} (f : MpF h b l) (hT : MT κ P T KT E D) (hz : Zr P E zv) (rz : GoTy.rep h [zv] zu) (key : κ) :
    ∃ v, GoTy.rep h [v] ((dV l key).getD zu) ∧ ∀ w : World, Has h w → ∀ ok : Bool, (Instr.lookup T (.map (some b)) (GoKey.enc key) ok).run P w = .ok (if ok then .tuple #[v, .bool (dV l key).isSome] else v) w := by
  obtain ⟨es, clk, h1, h2⟩ := f
  obtain ⟨v, q1, q2⟩ := lookup_run (b := b) (clk := clk) hT hz h2 rz key
  exact ⟨v, q1, fun w hw ok => q2 w (hw _ _ h1) ok⟩
theorem MpM.look {zv : Value} {zu : ν} (f : MpM h w b l) (hT : MT κ P T KT E D) (hz : Zr P E zv) (rz : GoTy.rep h [zv] zu) (key : κ) :
    ∃ v, GoTy.rep h [v] ((dV l key).getD zu) ∧ ∀ ok : Bool, (Instr.lookup T (.map (some b)) (GoKey.enc key) ok).run P w = .ok (if ok then .tuple #[v, .bool (dV l key).isSome] else v) w := by
  obtain ⟨es, clk, h1, h2⟩ := f
  obtain ⟨v, q1, q2⟩ := lookup_run (b := b) (clk := clk) hT hz h2 rz key
  exact ⟨v, q1, fun ok => q2 w h1.get ok⟩
end
theorem set_len {α : Type} (l : List α) (j : Nat) (y : α) : (l.set j y).length = l.length := List.length_set
section
variable {α : Type} [GoTy α] {T : TypeId} {B b c j : Nat} {h h' : Sto} {w w' : World} {a : Option Addr} {l : List α} {x y : α}
theorem Own.adr (ow : Own T B h w a c l) (hx : l[j]? = some x) : ∃ b, a = some ⟨b, 0, none⟩ := by
  rcases ow with ⟨_, _, rfl⟩ | ⟨b, cs, ha, _, _⟩
  · simp at hx
  · exact ⟨b, ha⟩
theorem blk_of (hab : a = some ⟨b, 0, none⟩) : blk a b := ⟨_, hab, rfl⟩
theorem cell_keep {o : Nat} (hk : w'.heap[b]? = w.heap[b]?) : w'.cell? ⟨b, o, none⟩ = w.cell? ⟨b, o, none⟩ := by simp [World.cell?, hk]
theorem Own.cell (ow : Own T B h w a c l) (hab : a = some ⟨b, 0, none⟩) (hx : l[j]? = some x) :
    ∃ vs, GoTy.rep h vs x ∧ vs.length = GoTy.sz α ∧ ∀ i, i < GoTy.sz α → w.cell? ⟨b, 0 + j * GoTy.sz α + i, none⟩ = vs[i]? := by
  obtain ⟨hj, rfl⟩ := List.getElem?_eq_some_iff.1 hx
  rcases ow with ⟨ha, _, _⟩ | ⟨b', cs, ha, _, o⟩
  · rw [ha] at hab; cases hab
  · rw [ha] at hab; simp only [Option.some.injEq, Addr.mk.injEq] at hab
    obtain ⟨rfl, -, -⟩ := hab
    obtain ⟨vs, r1, r2⟩ := o.el j hj
    exact ⟨vs, r1, GoTy.len r1, fun i hi => by rw [aQ o.mu.get, ← r2 i hi]; congr 1; omega⟩
theorem Own.put {us vs : List Value} {off : Nat} {P : Program} (ow : Own T B h w a c l) (hab : a = some ⟨b, 0, none⟩) (hx : l[j]? = some x) (hl : vs.length = GoTy.sz α)
    (cl : ∀ i, i < GoTy.sz α → w.cell? ⟨b, 0 + j * GoTy.sz α + i, none⟩ = vs[i]?) (h1 : ones us = true) (ho : off + us.length ≤ GoTy.sz α) (hh : Has h w) (hy : GoTy.rep h (eU vs off us) y) :
    ∃ w', (storeCells ⟨b, 0 + j * GoTy.sz α + off, none⟩ us 0).run P w = .ok () w' ∧ Own T B h w' a c (l.set j y) ∧ St w (blk a) h h w' := by
  obtain ⟨hj, rfl⟩ := List.getElem?_eq_some_iff.1 hx
  rcases ow with ⟨ha, _, _⟩ | ⟨b', cs, ha, hB, o⟩
  · rw [ha] at hab; cases hab
  · have hab' := hab
    rw [ha] at hab'; simp only [Option.some.injEq, Addr.mk.injEq] at hab'
    obtain ⟨rfl, -, -⟩ := hab'
    have hcap : (j + 1) * GoTy.sz α ≤ cs.size := by rw [o.sz]; exact Nat.mul_le_mul_right _ (Nat.le_trans hj o.lc)
    rw [Nat.add_mul, Nat.one_mul] at hcap
    obtain ⟨w', h2, h3⟩ := fQ (P := P) (b := b') (o := 0 + j * GoTy.sz α + off) (T := T) us 0 cs.toList w (by simpa using o.mu.get) (ones_all h1) (by simp only [Array.length_toList]; omega)
    refine ⟨w', h2, .inr ⟨b', _, ha, hB, ⟨o.mu.none, h3.new⟩, ?_, by simpa using o.lc, by simpa using o.mx, ?_⟩, (h3.st hh o.mu.none).weak (fun x hx => ⟨_, ha, hx.symm⟩)⟩
    · simp [setCells_length, o.sz]
    · intro k hk
      simp only [List.length_set] at hk
      have hlen : 0 + j * GoTy.sz α + off + 0 + us.length ≤ cs.toList.length := by simp only [Array.length_toList]; omega
      by_cases hjk : j = k
      · subst hjk
        refine ⟨eU vs off us, by rw [List.getElem_set_self]; exact hy, fun i hi => ?_⟩
        have hg := fU us cs.toList (0 + j * GoTy.sz α + off + 0) (j * GoTy.sz α + i) hlen
        have hg2 := fU us vs off i (by omega)
        simp only [List.getElem?_toArray]
        rw [hg, hg2]
        by_cases hc : off ≤ i ∧ i < off + us.length
        · rw [if_pos (by omega), if_pos hc]; congr 1; omega
        · rw [if_neg (by omega), if_neg hc, ← cl i hi, aQ o.mu.get]; simp
      · obtain ⟨es, r1, r2⟩ := o.el k hk
        refine ⟨es, by rw [List.getElem_set_ne hjk]; exact r1, fun i hi => ?_⟩
        have hg := fU us cs.toList (0 + j * GoTy.sz α + off + 0) (k * GoTy.sz α + i) hlen
        simp only [List.getElem?_toArray]
        have hne : ¬ (0 + j * GoTy.sz α + off + 0 ≤ k * GoTy.sz α + i ∧ k * GoTy.sz α + i < 0 + j * GoTy.sz α + off + 0 + us.length) := by
          rcases Nat.lt_or_gt_of_ne hjk with hlt | hlt
          · have : (j + 1) * GoTy.sz α ≤ k * GoTy.sz α := Nat.mul_le_mul_right _ hlt
            rw [Nat.add_mul, Nat.one_mul] at this
            omega
          · have : (k + 1) * GoTy.sz α ≤ j * GoTy.sz α := Nat.mul_le_mul_right _ hlt
            rw [Nat.add_mul, Nat.one_mul] at this
            omega
        rw [hg, if_neg hne, ← r2 i hi]; simp
theorem sl_len {a : Option Addr} {c n m : Nat} (h : m = n) : Value.slice a n c = .slice a m c := by rw [h]
variable {X : Fx} {P : Program} {σ : Env} {Q : Post} {k : List Item} {os : List COp} {g : Option (Nat × Bool)} {d : Option Nat} {ty : TypeId} {p q : Operand} {K : Value → World → Prop} {U : TypeId} {n off : Nat} {us vs : List Value}
def zcs (zs : List Value) (n : Nat) : List Value := (List.range n).map fun i => zs[i % zs.length]?.getD default
theorem makeSlice_run {E ST by_ : Nat} {z : Value} {len : Int} (hT : P.underlying ST = some (.slice E)) (hA : ApT P E (GoTy.sz α) by_ z) (h0 : 0 ≤ len) (h1 : len ≤ 274877906944) (kd : IntKind) :
    (Instr.makeSlice ST (.int kd len) (.int kd len)).run P w = .ok (.slice (some ⟨w.heap.size, 0, none⟩) len.toNat len.toNat) (w.alloc (.cells (zcs z.cells.toList (len.toNat * GoTy.sz α)).toArray E (0, 0))) := by
  have e1 : (underlying ST).run P w = .ok (.slice E) w := run_underlying hT w
  obtain ⟨ti, hti, hinfo⟩ := hA.by'
  have e2 := hinfo w
  have hle := hA.le
  have hw : IntKind.i64.wrap len = len := by rw [IntKind.wrap_i64]; omega
  have hb : ¬ (ti.bytes : Int) * len > 2 ^ 48 := by
    rw [hti]
    have : (by_ : Int) * len ≤ 256 * 274877906944 := Int.mul_le_mul (by omega) h1 h0 (by omega)
    omega
  have e3 : (askRoom (len.toNat * ti.bytes)).run P w = .ok () w := by unfold askRoom; split <;> simp [mark, Sem.run]
  have hneg : ¬ len < 0 := by omega
  have e4 : (sizeOf E).run P w = .ok (GoTy.sz α) w := hA.sz w
  have e5 := hA.zr w
  have hcells : ((Array.range (len.toNat * GoTy.sz α)).map fun i => (if len.toNat * GoTy.sz α = 0 then (#[] : Array Value) else z.cells)[i % (if len.toNat * GoTy.sz α = 0 then (#[] : Array Value) else z.cells).size]!) = (zcs z.cells.toList (len.toNat * GoTy.sz α)).toArray := by
    by_cases hn : len.toNat * GoTy.sz α = 0
    · simp [hn, zcs]
    · simp only [hn, if_false, zcs]
      apply Array.toList_inj.1
      simp only [Array.toList_map, Array.toList_range, Array.length_toList, Array.getElem?_toList]
      congr 1; funext i; exact getElem!_def ..
  have e0 : (asInt (.int kd len)).run P w = .ok len w := by simp [asInt, asIntOf]
  have hb' : ¬ 281474976710656 < (ti.bytes : Int) * len := hb
  by_cases hn : len.toNat * GoTy.sz α = 0
  · simp [Instr.makeSlice, e1, e0, e2, hw, hneg, hb', e4, hn, newRow, newObj, Sem.run, zcs]
    congr 2
    apply Array.toList_inj.1; simp
  · simp only [hn, if_false] at hcells
    simp [Instr.makeSlice, e1, e0, e2, hw, hneg, hb', e4, hn, e5, newRow, newObj, Sem.run]
    congr 2
theorem own_zero {E by_ b : Nat} {z : Value} {x0 : α} {n : Nat} (hA : ApT P E (GoTy.sz α) by_ z) (rz : GoTy.rep h z.cells.toList x0) (hn : n ≤ 274877906944) (mu : Mut h w b (.cells (zcs z.cells.toList (n * GoTy.sz α)).toArray E (0, 0))) (hB : B ≤ b) :
    Own E B h w (some ⟨b, 0, none⟩) n (List.replicate n x0) := by
  refine .inr ⟨b, _, rfl, hB, mu, by simp [zcs], by simp, (by simp; show n ≤ 140737488355328; omega), fun j hj => ?_⟩
  simp only [List.length_replicate] at hj
  refine ⟨z.cells.toList, by simpa using rz, fun i hi => ?_⟩
  have hlt : j * GoTy.sz α + i < n * GoTy.sz α := by
    have : (j + 1) * GoTy.sz α ≤ n * GoTy.sz α := Nat.mul_le_mul_right _ hj
    rw [Nat.add_mul, Nat.one_mul] at this
    omega
  have hz : z.cells.toList.length = GoTy.sz α := by simpa using hA.zn
  have hmod : (j * GoTy.sz α + i) % GoTy.sz α = i := by rw [Nat.mul_add_mod_self_right]; exact Nat.mod_eq_of_lt hi
  have hi2 : i < z.cells.toList.length := by omega
  simp only [zcs, List.getElem?_toArray, List.getElem?_map, List.getElem?_range hlt, Option.map_some, hz, hmod, List.getElem?_eq_getElem hi2, Option.getD_some]
theorem x_makeSlice {E ST by_ : Nat} {z : Value} {len : Int} {kd : IntKind} (w : World) (hT : P.underlying ST = some (.slice E)) (hA : ApT P E (GoTy.sz α) by_ z) (hp : ev σ p = .int kd len) (h0 : 0 ≤ len) (h1 : len ≤ 274877906944) :
    (ex σ (.makeSlice ST p p) ty).run P w = .ok (.value (.slice (some ⟨w.heap.size, 0, none⟩) len.toNat len.toNat)) (w.alloc (.cells (zcs z.cells.toList (len.toNat * GoTy.sz α)).toArray E (0, 0))) := by
  simp [ex, execOp, hp, makeSlice_run (w := w) hT hA h0 h1 kd]
theorem rr_makeSlice {E ST by_ : Nat} {z : Value} {len : Int} {kd : IntKind} (x0 : α) (hT : X.P.underlying ST = some (.slice E)) (hA : ApT X.P E (GoTy.sz α) by_ z) (hg : dQ σ g = true) (hd : dOk X.fn.ntmps d = true) (hp : ev σ p = .int kd len) (h0 : 0 ≤ len) (h1 : len ≤ 274877906944)
    (rz : GoTy.rep h z.cells.toList x0) (hh : Has h w) (hB : B ≤ w.heap.size) (hk : ∀ b w', Own E B h w' (some ⟨b, 0, none⟩) len.toNat (List.replicate len.toNat x0) → (∃ o, Al w o b w') → St w noM h h w' → RunR X os k (put σ d (.slice (some ⟨b, 0, none⟩) (List.replicate len.toNat x0).length len.toNat)) w' Q) :
    RunR X (⟨g, d, .makeSlice ST p p, ty⟩ :: os) k σ w Q := by
  have al := fV w (.cells (zcs z.cells.toList (len.toNat * GoTy.sz α)).toArray E (0, 0))
  refine rr_value' hg hd (x_makeSlice w hT hA hp h0 h1) ?_
  have := hk w.heap.size _ (own_zero hA rz (by omega) (Mut.new (St.init hh noM) al) hB) ⟨_, al⟩ (al.st hh)
  rw [List.length_replicate] at this
  exact this
theorem tn_lt {i : Int} {n : Nat} (h0 : 0 ≤ i) (h1 : i < (n : Int)) : i.toNat < n := by omega
theorem x_indexAddrA {E : TypeId} {len n b o i : Nat} {kd : IntKind} {z : Int} (hT : P.underlying T = some (.array len E)) (hn : Sz P E n) (hx : ev σ p = .pointer (some ⟨b, o, none⟩)) (hy : ev σ q = .int kd z) (hz : z = (i : Int)) (hi : i < len) :
    (ex σ (.indexAddr T p q) ty).run P w = .ok (.value (.pointer (some ⟨b, o + i * n, none⟩))) w := by
  subst hz
  simp [ex, execOp, hx, hy, Instr.indexAt, asIntOf, Instr.sureAddr, underlying, program, Sem.run, hT, hi, hn w]
  unfold Addr.add; split <;> simp_all
theorem storeOwn_run {b : Nat} (v : Value) (hz : Sz P U n) (hp : ev σ p = .pointer (some ⟨b, 0 + j * GoTy.sz α + off, none⟩)) (hq : ev σ q = v) (ow : Own T B h w a c l) (hab : a = some ⟨b, 0, none⟩) (hx : l[j]? = some x) (hl : vs.length = GoTy.sz α)
    (cl : ∀ i, i < GoTy.sz α → w.cell? ⟨b, 0 + j * GoTy.sz α + i, none⟩ = vs[i]?) (hv : v.cells = us.toArray) (hn : us.length = n) (h1 : ones us = true) (ho : off + n ≤ GoTy.sz α) (hh : Has h w) (hy : GoTy.rep h (eU vs off us) y) :
    ∃ w', (ex σ (.store U p q) ty).run P w = .ok .skip w' ∧ Own T B h w' a c (l.set j y) ∧ St w (blk a) h h w' := by
  obtain ⟨w', h2, h3, h4⟩ := Own.put (P := P) ow hab hx hl cl h1 (by rw [hn]; exact ho) hh hy
  refine ⟨w', ?_, h3, h4⟩
  have hs : v.cells.size = n := by rw [hv]; simpa using hn
  simp [ex, execOp, hp, hq, Instr.storeAt, Instr.sureAddr, storeVar, hz w, hs]
  rw [hv]; simp at h2 ⊢; simp [h2]
theorem rr_storeOwn {b : Nat} (v : Value) (hz : Sz X.P U n) (hg : dQ σ g = true) (hd : dOk X.fn.ntmps d = true) (hp : ev σ p = .pointer (some ⟨b, 0 + j * GoTy.sz α + off, none⟩)) (hq : ev σ q = v) (ow : Own T B h w a c l) (hab : a = some ⟨b, 0, none⟩) (hx : l[j]? = some x) (hl : vs.length = GoTy.sz α)
    (cl : ∀ i, i < GoTy.sz α → w.cell? ⟨b, 0 + j * GoTy.sz α + i, none⟩ = vs[i]?) (hv : v.cells = us.toArray) (hn : us.length = n) (h1 : ones us = true) (ho : off + n ≤ GoTy.sz α) (hh : Has h w) (hy : GoTy.rep h (eU vs off us) y)
    (hk : ∀ w', Own T B h w' a c (l.set j y) → St w (blk a) h h w' → RunR X os k (put σ d undef) w' Q) : RunR X (⟨g, d, .store U p q, ty⟩ :: os) k σ w Q := by
  obtain ⟨w', h2, h3, h4⟩ := storeOwn_run (ty := ty) v hz hp hq ow hab hx hl cl hv hn h1 ho hh hy
  exact rr_unit' hg hd h2 (hk w' h3 h4)
theorem od_storeOwn {b : Nat} (v : Value) (hz : Sz P U n) (hg : dQ σ g = true) (hp : ev σ p = .pointer (some ⟨b, 0 + j * GoTy.sz α + off, none⟩)) (hq : ev σ q = v) (ow : Own T B h w a c l) (hab : a = some ⟨b, 0, none⟩) (hx : l[j]? = some x) (hl : vs.length = GoTy.sz α)
    (cl : ∀ i, i < GoTy.sz α → w.cell? ⟨b, 0 + j * GoTy.sz α + i, none⟩ = vs[i]?) (hv : v.cells = us.toArray) (hn : us.length = n) (h1 : ones us = true) (ho : off + n ≤ GoTy.sz α) (hh : Has h w) (hy : GoTy.rep h (eU vs off us) y)
    (hk : ∀ w', Own T B h w' a c (l.set j y) → St w (blk a) h h w' → K undef w') : OpD P σ ⟨g, d, .store U p q, ty⟩ w K := by
  obtain ⟨w', h2, h3, h4⟩ := storeOwn_run (ty := ty) v hz hp hq ow hab hx hl cl hv hn h1 ho hh hy
  exact od_u hg h2 (hk w' h3 h4)
end
abbrev dfr (D : Nat) : Deferred := { target := .collected D, args := #[] }
def XD (X : Fx) (D : Nat) : Fx := { X with dfs := [dfr D] }
def XR (X : Fx) (l : Nat) : Fx := { X with ro := some l, dfs := [] }
def setO (w : World) (l : Nat) (o : Obj) : World := { w with heap := w.heap.setIfInBounds l o }
theorem dec_ok {j : Nat} (hj : j ≤ 140737488355328) : binI .sub .i64 (j : Int) 1 = some (I ((j : Int) - 1)) := by
  simp only [binI, wrk]
  rw [wr_id (by omega) (by omega)]
theorem sim_round {n : Nat} {σ : Env} {tmps : Array Value} (hs : Sim n [] σ { tmps, defers := [] }) {p0 p1 : Nat} (v0 v1 : Value) (h0 : Nat.ble (p0 + 1) n = true) (h1 : Nat.ble (p1 + 1) n = true) :
    Sim n [] (put (put σ (some p0) v0) (some p1) v1) { tmps := ((#[p0, p1] : Array Nat).zip (List.toArray [v0, v1])).foldl (fun t (p, v) => t.setIfInBounds p v) tmps, defers := [] } := by
  have q := (hs.put' (d := some p0) h0 v0).put' (d := some p1) h1 v1
  have e : ((#[p0, p1] : Array Nat).zip (List.toArray [v0, v1])).foldl (fun t (p, v) => t.setIfInBounds p v) tmps = (tmps.setIfInBounds p0 v0).setIfInBounds p1 v1 := by simp
  rw [e]; exact q
theorem Mut.ne_obj {h : Sto} {w : World} {b b' : Nat} {o o' : Obj} (m1 : Mut h w b o) (m2 : Mut h w b' o') (hn : o ≠ o') : b ≠ b' := by
  intro e; subst e; have := m1.get.symm.trans m2.get; simp only [Option.some.injEq] at this; exact hn this
theorem Own.ne_obj {α : Type} [GoTy α] {T : TypeId} {B c b' : Nat} {h : Sto} {w : World} {a : Option Addr} {l : List α} {o' : Obj} (ow : Own T B h w a c l) (m2 : Mut h w b' o') (hn : ∀ cs T fr, o' ≠ .cells cs T fr) : ¬ blk a b' := by
  rintro ⟨A, hA, e⟩
  rcases ow with ⟨rfl, _, _⟩ | ⟨b, cs', ha, hB, o⟩
  · cases hA
  · rw [ha] at hA; simp only [Option.some.injEq] at hA; subst hA; simp only at e; subst e
    exact o.mu.ne_obj m2 (fun e => hn _ _ _ e.symm) rfl
theorem MpM.ne_obj {κ ν : Type} [GoTy κ] [DecidableEq κ] [GoKey κ] [GoTy ν] {h : Sto} {w : World} {b b' : Nat} {l : List (κ × ν)} {o' : Obj} (mu : MpM h w b l) (m2 : Mut h w b' o') (hn : ∀ es clk, o' ≠ .map es clk) : b ≠ b' := by
  obtain ⟨es, clk, h1, h2⟩ := mu
  exact h1.ne_obj m2 (fun e => hn _ _ e.symm)
theorem loop_ready {r : Loop} (h : r.state = .ready) (hp : r.pending = none) : ({ r with state := .ready, pending := none } : Loop) = r := by
  cases r; simp_all
section
variable {X : Fx} {σ : Env} {w : World} {Q : Post} {k : List Item} {os : List COp} {g : Option (Nat × Bool)} {d : Option Nat} {ty : TypeId}
theorem setO_wr {l : Nat} {o o' : Obj} (hl : w.heap[l]? = some o) : Wr w l o' (setO w l o') :=
  ⟨by simp [setO, lt_of_get hl], by simp [setO], fun x hx => by simp [setO, Array.getElem?_setIfInBounds]; intro e; exact absurd e.symm hx, rfl, rfl, rfl⟩
theorem run_beginRound {l : Nat} {r : Loop} (hro : X.ro = some l) (hl : w.heap[l]? = some (.loop r)) (hs : r.state = .ready) (h : Run X k σ (setO w l (.loop { r with state := .busy })) Q) : Run X (.beginRound :: k) σ w Q := by
  intro b cs a hb ha
  have hr : (Instr.beginRound l).run X.P w = .ok () (setO w l (.loop { r with state := .busy })) := by
    simp [Instr.beginRound, Instr.getLoop, getObj, setObj, Sem.run, hl, hs, setO]
  obtain ⟨m, hst, r⟩ := h b cs a hb ha
  exact ⟨m, .head (stepR_beginRound (hb.trans hro) hr) hst, r⟩
theorem rr_yield {o : Operand} {as : List Operand} {ts : Array TypeId} {l : Nat} {r : Loop} {vs : List Value} {K : World → Prop} (Y : Fx) (τ : Env) (hg : dQ σ g = true) (hd : dOk X.fn.ntmps d = true)
    (ho : ev σ o = .func (.yield l) #[] #[]) (ha : evs σ as = vs) (hl : w.heap[l]? = some (.loop r)) (hn : vs.length = r.params.size) (hY : Y.ro = some l) (hYP : Y.P = X.P)
    (hτ : Sim Y.fn.ntmps Y.dfs τ { tmps := (r.params.zip vs.toArray).foldl (fun t (p, v) => t.setIfInBounds p v) r.tmps, defers := [] })
    (hb : Run Y [.code r.assign, .beginRound, .code r.body] τ w (.round K))
    (hk : ∀ w', K w' → w'.heap[l]? = some (.loop { r with state := .busy }) ∧ RunR X os k (put σ d (.bool true)) (setO w' l (.loop { r with state := .ready, pending := none })) Q) :
    RunR X (⟨g, d, .call ⟨.value o, as.toArray, ts⟩, ty⟩ :: os) k σ w Q := by
  intro ops i hi b cs a hb' ha'
  obtain ⟨op, hop1, hco, hrest, hr⟩ := cops_cons hi
  rw [hr]
  obtain ⟨hp, hop, hty⟩ := cOp_parts hco
  have hw := wanted_of hco ha'
  have has : as.map (ev σ) = vs := by rw [evs_eq, ha]
  have he : (ex σ (.call ⟨.value o, as.toArray, ts⟩) ty).run X.P w = .ok (.round l r.fn ((r.params.zip vs.toArray).foldl (fun t (p, v) => t.setIfInBounds p v) r.tmps) r.assign r.body) w := by
    simp [ex, execOp, resolve, ho, Deferred.ofValue, invoke, has, Instr.yield, Instr.getLoop, getObj, Sem.run, hl, hn]
  have heo := (show (execOp a.eval op).run X.P w = (ex σ (.call ⟨.value o, as.toArray, ts⟩) ty).run X.P w by rw [ex_eq, hop, hty, ha'.ev]; rfl).trans he
  have hgs := op_any (P := X.P) (b := b) (k := k) (cs := cs) (w := w) (rest := List.range' (i + 1) (ops.size - (i + 1))) hop1 (by rw [hw]; exact hg) heo (by intro d h; cases h)
  let b2 : Frame := { (default : Frame) with fn := r.fn, kind := .normal, roundOf := some l }
  have hb2 : Frame.round l r.fn ((r.params.zip vs.toArray).foldl (fun t (p, v) => t.setIfInBounds p v) r.tmps) r.assign r.body .normal =
      b2.atR { tmps := (r.params.zip vs.toArray).foldl (fun t (p, v) => t.setIfInBounds p v) r.tmps, defers := [] } [.code r.assign, .beginRound, .code r.body] := by simp [Frame.round, Frame.atR, b2]
  have henter : step X.P (lone (b.atR a (.inRegion ops (i :: List.range' (i + 1) (ops.size - (i + 1))) :: k)) cs w) =
      .next (lone (Frame.round l r.fn ((r.params.zip vs.toArray).foldl (fun t (p, v) => t.setIfInBounds p v) r.tmps) r.assign r.body .normal) (b.atR a (.inRegion ops (i :: List.range' (i + 1) (ops.size - (i + 1))) :: k) :: cs) w) :=
    step_lone_go (by rw [hgs]; simp [stepG.apply, heo, Frame.atR])
  obtain ⟨m, hst, a2, w2, hK, rfl⟩ := hb b2 (b.atR a (.inRegion ops (i :: List.range' (i + 1) (ops.size - (i + 1))) :: k) :: cs) _ hY.symm hτ
  rw [← hb2, hYP] at hst
  obtain ⟨hbusy, hrun⟩ := hk w2 hK
  have hend : (Instr.endRound l none).run X.P w2 = .ok (.bool true) (setO w2 l (.loop { r with state := .ready, pending := none })) := by
    simp [Instr.endRound, Instr.getLoop, getObj, setObj, Sem.run, hbusy, setO]
  have hfin : (b.atR a (.inRegion ops (i :: List.range' (i + 1) (ops.size - (i + 1))) :: k)).finish (.bool true) = b.atR (a.put d (.bool true)) (.inRegion ops (List.range' (i + 1) (ops.size - (i + 1))) :: k) := by
    rw [Frame.finish_atR, hop1]; simp [hp]
  obtain ⟨m3, hs3, r3⟩ := hrun ops (i + 1) hrest b cs (a.put d (.bool true)) hb' (ha'.put' hd _)
  refine ⟨m3, .head henter (Steps.trans hst (.head (stepR_round_end (b := b2) rfl rfl hend) ?_)), r3⟩
  rw [hfin]; exact hs3
theorem run_range {c : Code} {gf : Operand} {ps : Array Tmp} {assign body : Code} {fid : FuncId} {fs cps : List Value} (e : c = .rangeFunc gf ps assign body) (hro : X.ro = none) (hds : X.dfs = []) (hg : ev σ gf = .func (.func fid) fs.toArray cps.toArray) (hE : En X.P fid)
    (h : ∀ (fn : FuncId) (tmps : Array Value) (D l : Nat) (w1 w2 : World), Sim X.fn.ntmps [] σ { tmps, defers := [] } → Al w (.deferred (some [])) D w1 →
      Al w1 (.loop { state := .ready, pending := none, fn, tmps, params := ps, assign, body, defers := D }) l w2 →
      ∃ R : Value → World → Prop, Calls X.P fid (fs ++ [Value.func (.yield l) #[] #[]] ++ cps).toArray w2 (Ret R) ∧ ∀ v w', R v w' → ∃ r : Loop, w'.heap[l]? = some (.loop r) ∧ r.state = .ready ∧ r.pending = none ∧
        Run (XD X D) k σ (setO w' l (.loop { r with state := .exhausted })) Q) : Run X (.code c :: k) σ w Q := by
  subst e
  intro b cs a hb ha
  have al1 := fV w (.deferred (some []))
  obtain ⟨w1, hw1⟩ : ∃ w1, w1 = w.alloc (.deferred (some [])) := ⟨_, rfl⟩
  have al2 := fV w1 (.loop { state := .ready, pending := none, fn := b.fn, tmps := a.tmps, params := ps, assign, body, defers := w.heap.size })
  obtain ⟨w2, hw2⟩ : ∃ w2, w2 = w1.alloc (.loop { state := .ready, pending := none, fn := b.fn, tmps := a.tmps, params := ps, assign, body, defers := w.heap.size }) := ⟨_, rfl⟩
  rw [← hw1] at al1
  rw [← hw2] at al2
  obtain ⟨R, hC, hR⟩ := h b.fn a.tmps _ _ _ _ ⟨ha.size, ha.get, rfl⟩ al1 al2
  have he : (Instr.enterLoop b.fn a.tmps ps assign body b.roundOf).run X.P w = .ok (w1.heap.size, [dfr w.heap.size]) w2 := by
    rw [hb, hro, hw2, hw1]
    simp [Instr.enterLoop, newObj, Sem.run]
  obtain ⟨L, hL⟩ : ∃ L, L = w1.heap.size := ⟨_, rfl⟩
  rw [← hL] at he hC hR
  have hres : (resolve a.eval (rangeCall gf L) 0).run X.P w2 = .ok { target := .fn (.func fid) cps.toArray, args := (fs ++ [Value.func (.yield L) #[] #[]]).toArray } w2 := by
    rw [ha.ev]
    have ec : ev σ (.const (Value.func (.yield L) #[] #[])) = Value.func (.yield L) #[] #[] := rfl
    simp [resolve, hg, Deferred.ofValue, ec]
  have hinv := callFunc_run hE (fs ++ [Value.func (.yield L) #[] #[]] ++ cps).toArray w2
  have hs := stepR_rangeFunc (P := X.P) (b := b) (a := a) (k := k) (cs := cs) (g := gf) (args := (fs ++ [Value.func (.yield L) #[] #[]] ++ cps).toArray) he hres (by simpa [invoke] using hinv)
  obtain ⟨en, w3, fr, hRR, hsteps, _, hleave⟩ := hC (b.atR { a with defers := [dfr w.heap.size] ++ a.defers } (.inRangeFunc L :: k) :: cs)
  cases en with
  | returned v =>
    obtain ⟨r, h1, h2, h3, hrun⟩ := hR v w3 hRR
    have hend : (Instr.endLoop L).run X.P w3 = .ok none (setO w3 L (.loop { r with state := .exhausted })) := by
      simp [Instr.endLoop, Instr.getLoop, getObj, setObj, Sem.run, h1, h2, h3, setO]
    obtain ⟨m, hst, hdone⟩ := hrun b cs { a with defers := [dfr w.heap.size] ++ a.defers } hb ⟨ha.size, ha.get, by simp [XD, ha.defs, hds]⟩
    have hmid : step X.P (lone (b.atR { a with defers := [dfr w.heap.size] ++ a.defers } (.endRangeFunc L :: k)) cs w3) = .next (lone (b.atR { a with defers := [dfr w.heap.size] ++ a.defers } k) cs (setO w3 L (.loop { r with state := .exhausted }))) := stepR_endRangeFunc hend
    refine ⟨m, .head hs (Steps.trans hsteps (.head (step_leave_returned hleave) ?_)), hdone⟩
    rw [finish_atR_inRangeFunc]
    exact .head hmid hst
  | panicked chain => exact hRR.elim
  | outgrown => exact hRR.elim
theorem ret_coreD {Q : Value → World → Prop} {D : Nat} (hro : X.ro = none) (hD : w.heap[D]? = some (.deferred (some []))) (hr : ∀ (n : Nat) (ds : List Deferred) (a : Act), Sim n ds σ a → ∃ v, (results X.fn a.tmps).run X.P (setO w D (.deferred none)) = .ok v (setO w D (.deferred none)) ∧ Q v (setO w D (.deferred none)))
    (hs : ∀ (b : Frame) (a : Act) (cs : List Frame), b.roundOf = none → step X.P (lone (b.atR a k) cs w) = .next (lone { b.atR a k with mode := .returning } cs w)) : Run (XD X D) k σ w (.fn Q) := fun b cs a hb ha => by
  obtain ⟨v, h1, h2⟩ := hr _ _ a ha
  have hd : a.defers = [dfr D] := ha.defs
  have ht : (Instr.takeDeferred D).run (XD X D).P w = .ok [] (setO w D (.deferred none)) := by
    simp [Instr.takeDeferred, getObj, setObj, Sem.run, hD, setO]
  refine ⟨_, .head (hs b a cs (hb.trans hro)) (.one (m₁ := lone { b.atR { tmps := a.tmps, defers := [] } k with mode := .returning } cs (setO w D (.deferred none))) ?_), v, _, { tmps := a.tmps, defers := [] }, k, h2, rfl, rfl, h1⟩
  exact step_lone_go (by simp [stepG, unwind, Frame.atR, hd, Sem.runT_eq, ht])
theorem run_retD {Q : Value → World → Prop} {D : Nat} {c : Code} (e : c = .ret) (hD : w.heap[D]? = some (.deferred (some []))) (hr : ∀ (n : Nat) (ds : List Deferred) (a : Act), Sim n ds σ a → ∃ v, (results X.fn a.tmps).run X.P (setO w D (.deferred none)) = .ok v (setO w D (.deferred none)) ∧ Q v (setO w D (.deferred none))) (hro : X.ro = none := by rfl) :
    Run (XD X D) (.code c :: k) σ w (.fn Q) := by
  subst e; exact ret_coreD hro hD hr (fun _ _ _ hb => stepR_ret hb)
end
end Go.Proofs.Ytjdfoipnmbnkeaa
