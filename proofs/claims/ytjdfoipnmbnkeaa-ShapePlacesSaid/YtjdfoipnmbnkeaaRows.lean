/-
  NARROWER THAN 'FOR EVERY INPUT', by the rows' own cells (each row's printed sentence says how): ShapePlaces: loops · ShapeBends: loops · ShapeMore: loops · ShapeNormal: loops · ShapeNames: loops.
  DERIVED. THE GIVEN ROWS OF THIS SEAT. 5 by the template 'for every input the law returns true; each argument reads behind the call as it read before'; 0 by the template 'total and deterministic' (their statements: YtjdfoipnmbnkeaaTotals.lean).
  GIVEN WITH THE SEED: the statements are not yours to turn. If you find one false, say at which input.
  Laid BY PROGRAM, IN A SANDBOX (cutbox-rows.mjs): the forced cells as the released guide's own fill.sh prints them over the translation a08cafcdcd10b864… (all of the seat's roots in one cut). By AI agents, Wed Nov 11 2026. No macro, syntax, notation, axiom, sorry.
-/
import Derived.Test.YtjdfoipnmbnkeaaChecked
import GoSem.Claim
import GoSem.ClaimJoined
import GoSem.ClaimMapViews
import Derived.JoinedTies
import Derived.KernelRfl
namespace Go.Proofs.Ytjdfoipnmbnkeaa
/- THE CELL 'sum', in the pinned program and in every row, IS THE sha256 OF THE DUMP (.gsa) THAT YtjdfoipnmbnkeaaProg.lean LOADS. Nothing in Lean hashes anything: it is a label: what it is worth is what the hold of that sum in a sandbox is worth. -/
noncomputable def Try.pinned : Pinned := { name := "ytjdfoipnmbnkeaa", sum := "a08cafcdcd10b86468aa2d4fa42c8ff5cba1eb15317434276b6f9b096ae59b43", checked := Try.checked }
namespace Rows
def none {H : Type} : Left H := { results := [], args := [] }

/-- 'purflelaw10.ShapePlaces': WHATEVER THE INPUT: true; the input reads as it did. -/
def shapePlacesSpec : ChangeSpec := { name := "shapePlaces", fn := fun _ => fun
  | [d] => { results := [.lit (.bool true)], args := [d] }
  | _ => none }
def shapePlacesRow : OpenClaim := { program := "ytjdfoipnmbnkeaa", sum := "a08cafcdcd10b86468aa2d4fa42c8ff5cba1eb15317434276b6f9b096ae59b43", func := "purfle/purflelaw10.ShapePlaces", spec := "shapePlaces", inPlace := ["internal/bytealg.IndexByteString"], unfollowed := true, recurses := true, loops := true, apart := false }
def ShapePlacesSaid : Prop := shapePlacesRow.holds Try.pinned (OpenSpec.ofChange shapePlacesSpec)

/-- ITS FALSE NEIGHBOUR: 'it returns false'. Refute it at one input. -/
def shapePlacesWrong : ChangeSpec := { name := "shapePlaces", fn := fun _ => fun
  | [d] => { results := [.lit (.bool false)], args := [d] }
  | _ => none }
def ShapePlacesWrongFalsely : Prop := shapePlacesRow.holds Try.pinned (OpenSpec.ofChange shapePlacesWrong)

/-- 'purflelaw10.ShapeBends': WHATEVER THE INPUT: true; the input reads as it did. -/
def shapeBendsSpec : ChangeSpec := { name := "shapeBends", fn := fun _ => fun
  | [d1, d2] => { results := [.lit (.bool true)], args := [d1, d2] }
  | _ => none }
def shapeBendsRow : OpenClaim := { program := "ytjdfoipnmbnkeaa", sum := "a08cafcdcd10b86468aa2d4fa42c8ff5cba1eb15317434276b6f9b096ae59b43", func := "purfle/purflelaw10.ShapeBends", spec := "shapeBends", inPlace := ["internal/bytealg.IndexByteString"], unfollowed := true, recurses := true, loops := true, apart := false }
def ShapeBendsSaid : Prop := shapeBendsRow.holds Try.pinned (OpenSpec.ofChange shapeBendsSpec)

/-- ITS FALSE NEIGHBOUR: 'it returns false'. Refute it at one input. -/
def shapeBendsWrong : ChangeSpec := { name := "shapeBends", fn := fun _ => fun
  | [d1, d2] => { results := [.lit (.bool false)], args := [d1, d2] }
  | _ => none }
def ShapeBendsWrongFalsely : Prop := shapeBendsRow.holds Try.pinned (OpenSpec.ofChange shapeBendsWrong)

/-- 'purflelaw10.ShapeMore': WHATEVER THE INPUT: true; the input reads as it did. -/
def shapeMoreSpec : ChangeSpec := { name := "shapeMore", fn := fun _ => fun
  | [d1, d2] => { results := [.lit (.bool true)], args := [d1, d2] }
  | _ => none }
def shapeMoreRow : OpenClaim := { program := "ytjdfoipnmbnkeaa", sum := "a08cafcdcd10b86468aa2d4fa42c8ff5cba1eb15317434276b6f9b096ae59b43", func := "purfle/purflelaw10.ShapeMore", spec := "shapeMore", inPlace := ["internal/bytealg.IndexByteString"], unfollowed := true, recurses := true, loops := true, apart := false }
def ShapeMoreSaid : Prop := shapeMoreRow.holds Try.pinned (OpenSpec.ofChange shapeMoreSpec)

/-- ITS FALSE NEIGHBOUR: 'it returns false'. Refute it at one input. -/
def shapeMoreWrong : ChangeSpec := { name := "shapeMore", fn := fun _ => fun
  | [d1, d2] => { results := [.lit (.bool false)], args := [d1, d2] }
  | _ => none }
def ShapeMoreWrongFalsely : Prop := shapeMoreRow.holds Try.pinned (OpenSpec.ofChange shapeMoreWrong)

/-- 'purflelaw10.ShapeNormal': WHATEVER THE INPUT: true; the input reads as it did. -/
def shapeNormalSpec : ChangeSpec := { name := "shapeNormal", fn := fun _ => fun
  | [d] => { results := [.lit (.bool true)], args := [d] }
  | _ => none }
def shapeNormalRow : OpenClaim := { program := "ytjdfoipnmbnkeaa", sum := "a08cafcdcd10b86468aa2d4fa42c8ff5cba1eb15317434276b6f9b096ae59b43", func := "purfle/purflelaw10.ShapeNormal", spec := "shapeNormal", inPlace := ["internal/bytealg.IndexByteString"], unfollowed := true, recurses := true, loops := true, apart := false }
def ShapeNormalSaid : Prop := shapeNormalRow.holds Try.pinned (OpenSpec.ofChange shapeNormalSpec)

/-- ITS FALSE NEIGHBOUR: 'it returns false'. Refute it at one input. -/
def shapeNormalWrong : ChangeSpec := { name := "shapeNormal", fn := fun _ => fun
  | [d] => { results := [.lit (.bool false)], args := [d] }
  | _ => none }
def ShapeNormalWrongFalsely : Prop := shapeNormalRow.holds Try.pinned (OpenSpec.ofChange shapeNormalWrong)

/-- 'purflelaw10.ShapeNames': WHATEVER THE INPUT: true; the input reads as it did. -/
def shapeNamesSpec : ChangeSpec := { name := "shapeNames", fn := fun _ => fun
  | [d] => { results := [.lit (.bool true)], args := [d] }
  | _ => none }
def shapeNamesRow : OpenClaim := { program := "ytjdfoipnmbnkeaa", sum := "a08cafcdcd10b86468aa2d4fa42c8ff5cba1eb15317434276b6f9b096ae59b43", func := "purfle/purflelaw10.ShapeNames", spec := "shapeNames", inPlace := ["internal/bytealg.IndexByteString"], unfollowed := true, recurses := true, loops := true, apart := false }
def ShapeNamesSaid : Prop := shapeNamesRow.holds Try.pinned (OpenSpec.ofChange shapeNamesSpec)

/-- ITS FALSE NEIGHBOUR: 'it returns false'. Refute it at one input. -/
def shapeNamesWrong : ChangeSpec := { name := "shapeNames", fn := fun _ => fun
  | [d] => { results := [.lit (.bool false)], args := [d] }
  | _ => none }
def ShapeNamesWrongFalsely : Prop := shapeNamesRow.holds Try.pinned (OpenSpec.ofChange shapeNamesWrong)

/- THE SECOND FORM. 'bulk': how many values and letters a reading holds, each counted each time it is reached (what is shared counts as often as it is met; a slice's spare places count too). A statement '..UptoSaid' is the law's where the arguments, and the package variables that the reading takes, are together of bulk at most 1048576: NARROWER than '..Said'. Prove '..Said' where nothing that the law and all that it calls make is longer than what came in: it says more and counts as full. Else prove '..UptoSaid'. A law counts once. -/
mutual
def uptoBulk {H : Type} : DataW H → Nat
  | .lit (.string bytes) => bytes.length + 1
  | .lit _ => 1
  | .nil => 1
  | .ptr d => uptoBulk d + 1
  | .slice elems spare => uptoBulkAll elems + uptoBulkAll spare + 1
  | .agg parts => uptoBulkAll parts + 1
  | .iface _ d => uptoBulk d + 1
  | .map entries => uptoBulkEntries entries + 1
  | .held _ => 1
def uptoBulkAll {H : Type} : List (DataW H) → Nat
  | [] => 0
  | d :: r => uptoBulk d + uptoBulkAll r
def uptoBulkEntries {H : Type} : List (Lit × DataW H) → Nat
  | [] => 0
  | x :: r => uptoBulkEntry x + uptoBulkEntries r
def uptoBulkEntry {H : Type} : Lit × DataW H → Nat
  | (.string bytes, d) => bytes.length + uptoBulk d + 1
  | (_, d) => uptoBulk d + 1
 end
def uptoSmall : (H : Type) → List (DataW H) → Bool := fun _ ds => decide (uptoBulkAll ds ≤ 1048576)
def OpenSpec.upto (s : _root_.Go.ChangeSpec) : _root_.Go.OpenSpec := { _root_.Go.OpenSpec.ofChange s with cond := some uptoSmall }

/-- 'purflelaw10.ShapePlaces', WHERE WHAT IT READS IS OF BULK AT MOST 1048576: true; the input reads as it did. -/
def shapePlacesUptoRow : OpenClaim := { program := "ytjdfoipnmbnkeaa", sum := "a08cafcdcd10b86468aa2d4fa42c8ff5cba1eb15317434276b6f9b096ae59b43", func := "purfle/purflelaw10.ShapePlaces", spec := "shapePlaces", inPlace := ["internal/bytealg.IndexByteString"], unfollowed := true, recurses := true, loops := true, apart := false, narrowed := true }
def ShapePlacesUptoSaid : Prop := shapePlacesUptoRow.holds Try.pinned (OpenSpec.upto shapePlacesSpec)

/-- 'purflelaw10.ShapeBends', WHERE WHAT IT READS IS OF BULK AT MOST 1048576: true; the input reads as it did. -/
def shapeBendsUptoRow : OpenClaim := { program := "ytjdfoipnmbnkeaa", sum := "a08cafcdcd10b86468aa2d4fa42c8ff5cba1eb15317434276b6f9b096ae59b43", func := "purfle/purflelaw10.ShapeBends", spec := "shapeBends", inPlace := ["internal/bytealg.IndexByteString"], unfollowed := true, recurses := true, loops := true, apart := false, narrowed := true }
def ShapeBendsUptoSaid : Prop := shapeBendsUptoRow.holds Try.pinned (OpenSpec.upto shapeBendsSpec)

/-- 'purflelaw10.ShapeMore', WHERE WHAT IT READS IS OF BULK AT MOST 1048576: true; the input reads as it did. -/
def shapeMoreUptoRow : OpenClaim := { program := "ytjdfoipnmbnkeaa", sum := "a08cafcdcd10b86468aa2d4fa42c8ff5cba1eb15317434276b6f9b096ae59b43", func := "purfle/purflelaw10.ShapeMore", spec := "shapeMore", inPlace := ["internal/bytealg.IndexByteString"], unfollowed := true, recurses := true, loops := true, apart := false, narrowed := true }
def ShapeMoreUptoSaid : Prop := shapeMoreUptoRow.holds Try.pinned (OpenSpec.upto shapeMoreSpec)

/-- 'purflelaw10.ShapeNormal', WHERE WHAT IT READS IS OF BULK AT MOST 1048576: true; the input reads as it did. -/
def shapeNormalUptoRow : OpenClaim := { program := "ytjdfoipnmbnkeaa", sum := "a08cafcdcd10b86468aa2d4fa42c8ff5cba1eb15317434276b6f9b096ae59b43", func := "purfle/purflelaw10.ShapeNormal", spec := "shapeNormal", inPlace := ["internal/bytealg.IndexByteString"], unfollowed := true, recurses := true, loops := true, apart := false, narrowed := true }
def ShapeNormalUptoSaid : Prop := shapeNormalUptoRow.holds Try.pinned (OpenSpec.upto shapeNormalSpec)

/-- 'purflelaw10.ShapeNames', WHERE WHAT IT READS IS OF BULK AT MOST 1048576: true; the input reads as it did. -/
def shapeNamesUptoRow : OpenClaim := { program := "ytjdfoipnmbnkeaa", sum := "a08cafcdcd10b86468aa2d4fa42c8ff5cba1eb15317434276b6f9b096ae59b43", func := "purfle/purflelaw10.ShapeNames", spec := "shapeNames", inPlace := ["internal/bytealg.IndexByteString"], unfollowed := true, recurses := true, loops := true, apart := false, narrowed := true }
def ShapeNamesUptoSaid : Prop := shapeNamesUptoRow.holds Try.pinned (OpenSpec.upto shapeNamesSpec)

end Rows
end Go.Proofs.Ytjdfoipnmbnkeaa
