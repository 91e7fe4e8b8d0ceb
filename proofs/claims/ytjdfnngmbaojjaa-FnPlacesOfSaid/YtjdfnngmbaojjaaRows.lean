/-
  No cell of these rows narrows 'for every input' (looked for: loops, veiled, ifaces, maps, wideKeys, modest, calm, conditions, laid).
  DERIVED. THE GIVEN ROWS OF THIS SEAT. 12 by the template 'for every input the law returns true; each argument reads behind the call as it read before'; 0 by the template 'total and deterministic' (their statements: YtjdfnngmbaojjaaTotals.lean).
  GIVEN WITH THE SEED: the statements are not yours to turn. If you find one false, say at which input.
  Laid BY PROGRAM, IN A SANDBOX (cutbox-rows.mjs): the forced cells as the released guide's own fill.sh prints them over the translation dc42fad415f8d407… (all of the seat's roots in one cut). By AI agents, Wed Nov 11 2026. No macro, syntax, notation, axiom, sorry.
-/
import Derived.Test.YtjdfnngmbaojjaaChecked
import GoSem.Claim
import GoSem.ClaimJoined
import GoSem.ClaimMapViews
import Derived.JoinedTies
import Derived.KernelRfl
namespace Go.Proofs.Ytjdfnngmbaojjaa
/- THE CELL 'sum', in the pinned program and in every row, IS THE sha256 OF THE DUMP (.gsa) THAT YtjdfnngmbaojjaaProg.lean LOADS. Nothing in Lean hashes anything: it is a label: what it is worth is what the hold of that sum in a sandbox is worth. -/
noncomputable def Try.pinned : Pinned := { name := "ytjdfnngmbaojjaa", sum := "dc42fad415f8d407f385a81924be4e18a8b44d1527afc176c7a1188dbdc9f14e", checked := Try.checked }
namespace Rows
def none {H : Type} : Left H := { results := [], args := [] }

/-- 'laws.FnExactFormulaOk': WHATEVER THE INPUT: true; the input reads as it did. -/
def fnExactFormulaOkSpec : ChangeSpec := { name := "fnExactFormulaOk", fn := fun _ => fun
  | [d] => { results := [.lit (.bool true)], args := [d] }
  | _ => none }
def fnExactFormulaOkRow : OpenClaim := { program := "ytjdfnngmbaojjaa", sum := "dc42fad415f8d407f385a81924be4e18a8b44d1527afc176c7a1188dbdc9f14e", func := "loop.example/hypersets/laws.FnExactFormulaOk", spec := "fnExactFormulaOk", recurses := true, apart := false }
def FnExactFormulaOkSaid : Prop := fnExactFormulaOkRow.holds Try.pinned (OpenSpec.ofChange fnExactFormulaOkSpec)

/-- ITS FALSE NEIGHBOUR: 'it returns false'. Refute it at one input. -/
def fnExactFormulaOkWrong : ChangeSpec := { name := "fnExactFormulaOk", fn := fun _ => fun
  | [d] => { results := [.lit (.bool false)], args := [d] }
  | _ => none }
def FnExactFormulaOkWrongFalsely : Prop := fnExactFormulaOkRow.holds Try.pinned (OpenSpec.ofChange fnExactFormulaOkWrong)

/-- 'laws.FnExactFormulaDeep': WHATEVER THE INPUT: true; the input reads as it did. -/
def fnExactFormulaDeepSpec : ChangeSpec := { name := "fnExactFormulaDeep", fn := fun _ => fun
  | [d] => { results := [.lit (.bool true)], args := [d] }
  | _ => none }
def fnExactFormulaDeepRow : OpenClaim := { program := "ytjdfnngmbaojjaa", sum := "dc42fad415f8d407f385a81924be4e18a8b44d1527afc176c7a1188dbdc9f14e", func := "loop.example/hypersets/laws.FnExactFormulaDeep", spec := "fnExactFormulaDeep", recurses := true, apart := false }
def FnExactFormulaDeepSaid : Prop := fnExactFormulaDeepRow.holds Try.pinned (OpenSpec.ofChange fnExactFormulaDeepSpec)

/-- ITS FALSE NEIGHBOUR: 'it returns false'. Refute it at one input. -/
def fnExactFormulaDeepWrong : ChangeSpec := { name := "fnExactFormulaDeep", fn := fun _ => fun
  | [d] => { results := [.lit (.bool false)], args := [d] }
  | _ => none }
def FnExactFormulaDeepWrongFalsely : Prop := fnExactFormulaDeepRow.holds Try.pinned (OpenSpec.ofChange fnExactFormulaDeepWrong)

/-- 'laws.FnFormulaOk': WHATEVER THE INPUT: true; the input reads as it did. -/
def fnFormulaOkSpec : ChangeSpec := { name := "fnFormulaOk", fn := fun _ => fun
  | [d] => { results := [.lit (.bool true)], args := [d] }
  | _ => none }
def fnFormulaOkRow : OpenClaim := { program := "ytjdfnngmbaojjaa", sum := "dc42fad415f8d407f385a81924be4e18a8b44d1527afc176c7a1188dbdc9f14e", func := "loop.example/hypersets/laws.FnFormulaOk", spec := "fnFormulaOk", recurses := true, apart := false }
def FnFormulaOkSaid : Prop := fnFormulaOkRow.holds Try.pinned (OpenSpec.ofChange fnFormulaOkSpec)

/-- ITS FALSE NEIGHBOUR: 'it returns false'. Refute it at one input. -/
def fnFormulaOkWrong : ChangeSpec := { name := "fnFormulaOk", fn := fun _ => fun
  | [d] => { results := [.lit (.bool false)], args := [d] }
  | _ => none }
def FnFormulaOkWrongFalsely : Prop := fnFormulaOkRow.holds Try.pinned (OpenSpec.ofChange fnFormulaOkWrong)

/-- 'laws.FnExactOppositeOf': WHATEVER THE INPUT: true; the input reads as it did. -/
def fnExactOppositeOfSpec : ChangeSpec := { name := "fnExactOppositeOf", fn := fun _ => fun
  | [d] => { results := [.lit (.bool true)], args := [d] }
  | _ => none }
def fnExactOppositeOfRow : OpenClaim := { program := "ytjdfnngmbaojjaa", sum := "dc42fad415f8d407f385a81924be4e18a8b44d1527afc176c7a1188dbdc9f14e", func := "loop.example/hypersets/laws.FnExactOppositeOf", spec := "fnExactOppositeOf", recurses := true, apart := false }
def FnExactOppositeOfSaid : Prop := fnExactOppositeOfRow.holds Try.pinned (OpenSpec.ofChange fnExactOppositeOfSpec)

/-- ITS FALSE NEIGHBOUR: 'it returns false'. Refute it at one input. -/
def fnExactOppositeOfWrong : ChangeSpec := { name := "fnExactOppositeOf", fn := fun _ => fun
  | [d] => { results := [.lit (.bool false)], args := [d] }
  | _ => none }
def FnExactOppositeOfWrongFalsely : Prop := fnExactOppositeOfRow.holds Try.pinned (OpenSpec.ofChange fnExactOppositeOfWrong)

/-- 'laws.FnFormulaDeep': WHATEVER THE INPUT: true; the input reads as it did. -/
def fnFormulaDeepSpec : ChangeSpec := { name := "fnFormulaDeep", fn := fun _ => fun
  | [d] => { results := [.lit (.bool true)], args := [d] }
  | _ => none }
def fnFormulaDeepRow : OpenClaim := { program := "ytjdfnngmbaojjaa", sum := "dc42fad415f8d407f385a81924be4e18a8b44d1527afc176c7a1188dbdc9f14e", func := "loop.example/hypersets/laws.FnFormulaDeep", spec := "fnFormulaDeep", recurses := true, apart := false }
def FnFormulaDeepSaid : Prop := fnFormulaDeepRow.holds Try.pinned (OpenSpec.ofChange fnFormulaDeepSpec)

/-- ITS FALSE NEIGHBOUR: 'it returns false'. Refute it at one input. -/
def fnFormulaDeepWrong : ChangeSpec := { name := "fnFormulaDeep", fn := fun _ => fun
  | [d] => { results := [.lit (.bool false)], args := [d] }
  | _ => none }
def FnFormulaDeepWrongFalsely : Prop := fnFormulaDeepRow.holds Try.pinned (OpenSpec.ofChange fnFormulaDeepWrong)

/-- 'laws.FnExactHoldsAt': WHATEVER THE INPUT: true; the input reads as it did. -/
def fnExactHoldsAtSpec : ChangeSpec := { name := "fnExactHoldsAt", fn := fun _ => fun
  | [d1, d2, d3] => { results := [.lit (.bool true)], args := [d1, d2, d3] }
  | _ => none }
def fnExactHoldsAtRow : OpenClaim := { program := "ytjdfnngmbaojjaa", sum := "dc42fad415f8d407f385a81924be4e18a8b44d1527afc176c7a1188dbdc9f14e", func := "loop.example/hypersets/laws.FnExactHoldsAt", spec := "fnExactHoldsAt", unfollowed := true, recurses := true, apart := false }
def FnExactHoldsAtSaid : Prop := fnExactHoldsAtRow.holds Try.pinned (OpenSpec.ofChange fnExactHoldsAtSpec)

/-- ITS FALSE NEIGHBOUR: 'it returns false'. Refute it at one input. -/
def fnExactHoldsAtWrong : ChangeSpec := { name := "fnExactHoldsAt", fn := fun _ => fun
  | [d1, d2, d3] => { results := [.lit (.bool false)], args := [d1, d2, d3] }
  | _ => none }
def FnExactHoldsAtWrongFalsely : Prop := fnExactHoldsAtRow.holds Try.pinned (OpenSpec.ofChange fnExactHoldsAtWrong)

/-- 'laws.FnHoldsAt': WHATEVER THE INPUT: true; the input reads as it did. -/
def fnHoldsAtSpec : ChangeSpec := { name := "fnHoldsAt", fn := fun _ => fun
  | [d] => { results := [.lit (.bool true)], args := [d] }
  | _ => none }
def fnHoldsAtRow : OpenClaim := { program := "ytjdfnngmbaojjaa", sum := "dc42fad415f8d407f385a81924be4e18a8b44d1527afc176c7a1188dbdc9f14e", func := "loop.example/hypersets/laws.FnHoldsAt", spec := "fnHoldsAt", unfollowed := true, recurses := true, apart := false }
def FnHoldsAtSaid : Prop := fnHoldsAtRow.holds Try.pinned (OpenSpec.ofChange fnHoldsAtSpec)

/-- ITS FALSE NEIGHBOUR: 'it returns false'. Refute it at one input. -/
def fnHoldsAtWrong : ChangeSpec := { name := "fnHoldsAt", fn := fun _ => fun
  | [d] => { results := [.lit (.bool false)], args := [d] }
  | _ => none }
def FnHoldsAtWrongFalsely : Prop := fnHoldsAtRow.holds Try.pinned (OpenSpec.ofChange fnHoldsAtWrong)

/-- 'laws.FnExactPlacesOf': WHATEVER THE INPUT: true; the input reads as it did. -/
def fnExactPlacesOfSpec : ChangeSpec := { name := "fnExactPlacesOf", fn := fun _ => fun
  | [d1, d2] => { results := [.lit (.bool true)], args := [d1, d2] }
  | _ => none }
def fnExactPlacesOfRow : OpenClaim := { program := "ytjdfnngmbaojjaa", sum := "dc42fad415f8d407f385a81924be4e18a8b44d1527afc176c7a1188dbdc9f14e", func := "loop.example/hypersets/laws.FnExactPlacesOf", spec := "fnExactPlacesOf", unfollowed := true, recurses := true, apart := false }
def FnExactPlacesOfSaid : Prop := fnExactPlacesOfRow.holds Try.pinned (OpenSpec.ofChange fnExactPlacesOfSpec)

/-- ITS FALSE NEIGHBOUR: 'it returns false'. Refute it at one input. -/
def fnExactPlacesOfWrong : ChangeSpec := { name := "fnExactPlacesOf", fn := fun _ => fun
  | [d1, d2] => { results := [.lit (.bool false)], args := [d1, d2] }
  | _ => none }
def FnExactPlacesOfWrongFalsely : Prop := fnExactPlacesOfRow.holds Try.pinned (OpenSpec.ofChange fnExactPlacesOfWrong)

/-- 'laws.FnOppositeOf': WHATEVER THE INPUT: true; the input reads as it did. -/
def fnOppositeOfSpec : ChangeSpec := { name := "fnOppositeOf", fn := fun _ => fun
  | [d1, d2] => { results := [.lit (.bool true)], args := [d1, d2] }
  | _ => none }
def fnOppositeOfRow : OpenClaim := { program := "ytjdfnngmbaojjaa", sum := "dc42fad415f8d407f385a81924be4e18a8b44d1527afc176c7a1188dbdc9f14e", func := "loop.example/hypersets/laws.FnOppositeOf", spec := "fnOppositeOf", unfollowed := true, recurses := true, apart := false }
def FnOppositeOfSaid : Prop := fnOppositeOfRow.holds Try.pinned (OpenSpec.ofChange fnOppositeOfSpec)

/-- ITS FALSE NEIGHBOUR: 'it returns false'. Refute it at one input. -/
def fnOppositeOfWrong : ChangeSpec := { name := "fnOppositeOf", fn := fun _ => fun
  | [d1, d2] => { results := [.lit (.bool false)], args := [d1, d2] }
  | _ => none }
def FnOppositeOfWrongFalsely : Prop := fnOppositeOfRow.holds Try.pinned (OpenSpec.ofChange fnOppositeOfWrong)

/-- 'laws.FnExactTellsApart': WHATEVER THE INPUT: true; the input reads as it did. -/
def fnExactTellsApartSpec : ChangeSpec := { name := "fnExactTellsApart", fn := fun _ => fun
  | [d1, d2, d3] => { results := [.lit (.bool true)], args := [d1, d2, d3] }
  | _ => none }
def fnExactTellsApartRow : OpenClaim := { program := "ytjdfnngmbaojjaa", sum := "dc42fad415f8d407f385a81924be4e18a8b44d1527afc176c7a1188dbdc9f14e", func := "loop.example/hypersets/laws.FnExactTellsApart", spec := "fnExactTellsApart", unfollowed := true, recurses := true, apart := false }
def FnExactTellsApartSaid : Prop := fnExactTellsApartRow.holds Try.pinned (OpenSpec.ofChange fnExactTellsApartSpec)

/-- ITS FALSE NEIGHBOUR: 'it returns false'. Refute it at one input. -/
def fnExactTellsApartWrong : ChangeSpec := { name := "fnExactTellsApart", fn := fun _ => fun
  | [d1, d2, d3] => { results := [.lit (.bool false)], args := [d1, d2, d3] }
  | _ => none }
def FnExactTellsApartWrongFalsely : Prop := fnExactTellsApartRow.holds Try.pinned (OpenSpec.ofChange fnExactTellsApartWrong)

/-- 'laws.FnPlacesOf': WHATEVER THE INPUT: true; the input reads as it did. -/
def fnPlacesOfSpec : ChangeSpec := { name := "fnPlacesOf", fn := fun _ => fun
  | [d] => { results := [.lit (.bool true)], args := [d] }
  | _ => none }
def fnPlacesOfRow : OpenClaim := { program := "ytjdfnngmbaojjaa", sum := "dc42fad415f8d407f385a81924be4e18a8b44d1527afc176c7a1188dbdc9f14e", func := "loop.example/hypersets/laws.FnPlacesOf", spec := "fnPlacesOf", unfollowed := true, recurses := true, apart := false }
def FnPlacesOfSaid : Prop := fnPlacesOfRow.holds Try.pinned (OpenSpec.ofChange fnPlacesOfSpec)

/-- ITS FALSE NEIGHBOUR: 'it returns false'. Refute it at one input. -/
def fnPlacesOfWrong : ChangeSpec := { name := "fnPlacesOf", fn := fun _ => fun
  | [d] => { results := [.lit (.bool false)], args := [d] }
  | _ => none }
def FnPlacesOfWrongFalsely : Prop := fnPlacesOfRow.holds Try.pinned (OpenSpec.ofChange fnPlacesOfWrong)

/-- 'laws.FnTellsApart': WHATEVER THE INPUT: true; the input reads as it did. -/
def fnTellsApartSpec : ChangeSpec := { name := "fnTellsApart", fn := fun _ => fun
  | [d] => { results := [.lit (.bool true)], args := [d] }
  | _ => none }
def fnTellsApartRow : OpenClaim := { program := "ytjdfnngmbaojjaa", sum := "dc42fad415f8d407f385a81924be4e18a8b44d1527afc176c7a1188dbdc9f14e", func := "loop.example/hypersets/laws.FnTellsApart", spec := "fnTellsApart", unfollowed := true, recurses := true, apart := false }
def FnTellsApartSaid : Prop := fnTellsApartRow.holds Try.pinned (OpenSpec.ofChange fnTellsApartSpec)

/-- ITS FALSE NEIGHBOUR: 'it returns false'. Refute it at one input. -/
def fnTellsApartWrong : ChangeSpec := { name := "fnTellsApart", fn := fun _ => fun
  | [d] => { results := [.lit (.bool false)], args := [d] }
  | _ => none }
def FnTellsApartWrongFalsely : Prop := fnTellsApartRow.holds Try.pinned (OpenSpec.ofChange fnTellsApartWrong)

/- THE SECOND FORM. 'bulk': how many values and letters a reading holds, each counted each time it is reached (what is shared counts as often as it is met; a slice's spare places count too). A statement '..UptoSaid' is the law's where the arguments, and the package variables that the reading takes, are together of bulk at most 1048576: NARROWER than '..Said'. Prove '..Said' where nothing that the law and all that it calls make is longer than what came in: it says more and counts as full. Else prove '..UptoSaid'. A law counts once. -/
mutual
def uptoBulk {H : Type} : DataW H → Nat
  | .lit (.string bytes) => bytes.length + 1
  | .lit _ => 1
  | .nil => 1
  | .ptr d => uptoBulk d + 1
  | .slice elems spare => uptoBulkAll elems + uptoBulkAll spare + 1
  | .agg parts => uptoBulkAll parts + 1
  | .iface _ d => uptoBulk d + 1
  | .map entries => uptoBulkEntries entries + 1
  | .held _ => 1
def uptoBulkAll {H : Type} : List (DataW H) → Nat
  | [] => 0
  | d :: r => uptoBulk d + uptoBulkAll r
def uptoBulkEntries {H : Type} : List (Lit × DataW H) → Nat
  | [] => 0
  | x :: r => uptoBulkEntry x + uptoBulkEntries r
def uptoBulkEntry {H : Type} : Lit × DataW H → Nat
  | (.string bytes, d) => bytes.length + uptoBulk d + 1
  | (_, d) => uptoBulk d + 1
 end
def uptoSmall : (H : Type) → List (DataW H) → Bool := fun _ ds => decide (uptoBulkAll ds ≤ 1048576)
def OpenSpec.upto (s : _root_.Go.ChangeSpec) : _root_.Go.OpenSpec := { _root_.Go.OpenSpec.ofChange s with cond := some uptoSmall }

/-- 'laws.FnExactFormulaOk', WHERE WHAT IT READS IS OF BULK AT MOST 1048576: true; the input reads as it did. -/
def fnExactFormulaOkUptoRow : OpenClaim := { program := "ytjdfnngmbaojjaa", sum := "dc42fad415f8d407f385a81924be4e18a8b44d1527afc176c7a1188dbdc9f14e", func := "loop.example/hypersets/laws.FnExactFormulaOk", spec := "fnExactFormulaOk", recurses := true, apart := false, narrowed := true }
def FnExactFormulaOkUptoSaid : Prop := fnExactFormulaOkUptoRow.holds Try.pinned (OpenSpec.upto fnExactFormulaOkSpec)

/-- 'laws.FnExactFormulaDeep', WHERE WHAT IT READS IS OF BULK AT MOST 1048576: true; the input reads as it did. -/
def fnExactFormulaDeepUptoRow : OpenClaim := { program := "ytjdfnngmbaojjaa", sum := "dc42fad415f8d407f385a81924be4e18a8b44d1527afc176c7a1188dbdc9f14e", func := "loop.example/hypersets/laws.FnExactFormulaDeep", spec := "fnExactFormulaDeep", recurses := true, apart := false, narrowed := true }
def FnExactFormulaDeepUptoSaid : Prop := fnExactFormulaDeepUptoRow.holds Try.pinned (OpenSpec.upto fnExactFormulaDeepSpec)

/-- 'laws.FnFormulaOk', WHERE WHAT IT READS IS OF BULK AT MOST 1048576: true; the input reads as it did. -/
def fnFormulaOkUptoRow : OpenClaim := { program := "ytjdfnngmbaojjaa", sum := "dc42fad415f8d407f385a81924be4e18a8b44d1527afc176c7a1188dbdc9f14e", func := "loop.example/hypersets/laws.FnFormulaOk", spec := "fnFormulaOk", recurses := true, apart := false, narrowed := true }
def FnFormulaOkUptoSaid : Prop := fnFormulaOkUptoRow.holds Try.pinned (OpenSpec.upto fnFormulaOkSpec)

/-- 'laws.FnExactOppositeOf', WHERE WHAT IT READS IS OF BULK AT MOST 1048576: true; the input reads as it did. -/
def fnExactOppositeOfUptoRow : OpenClaim := { program := "ytjdfnngmbaojjaa", sum := "dc42fad415f8d407f385a81924be4e18a8b44d1527afc176c7a1188dbdc9f14e", func := "loop.example/hypersets/laws.FnExactOppositeOf", spec := "fnExactOppositeOf", recurses := true, apart := false, narrowed := true }
def FnExactOppositeOfUptoSaid : Prop := fnExactOppositeOfUptoRow.holds Try.pinned (OpenSpec.upto fnExactOppositeOfSpec)

/-- 'laws.FnFormulaDeep', WHERE WHAT IT READS IS OF BULK AT MOST 1048576: true; the input reads as it did. -/
def fnFormulaDeepUptoRow : OpenClaim := { program := "ytjdfnngmbaojjaa", sum := "dc42fad415f8d407f385a81924be4e18a8b44d1527afc176c7a1188dbdc9f14e", func := "loop.example/hypersets/laws.FnFormulaDeep", spec := "fnFormulaDeep", recurses := true, apart := false, narrowed := true }
def FnFormulaDeepUptoSaid : Prop := fnFormulaDeepUptoRow.holds Try.pinned (OpenSpec.upto fnFormulaDeepSpec)

/-- 'laws.FnExactHoldsAt', WHERE WHAT IT READS IS OF BULK AT MOST 1048576: true; the input reads as it did. -/
def fnExactHoldsAtUptoRow : OpenClaim := { program := "ytjdfnngmbaojjaa", sum := "dc42fad415f8d407f385a81924be4e18a8b44d1527afc176c7a1188dbdc9f14e", func := "loop.example/hypersets/laws.FnExactHoldsAt", spec := "fnExactHoldsAt", unfollowed := true, recurses := true, apart := false, narrowed := true }
def FnExactHoldsAtUptoSaid : Prop := fnExactHoldsAtUptoRow.holds Try.pinned (OpenSpec.upto fnExactHoldsAtSpec)

/-- 'laws.FnHoldsAt', WHERE WHAT IT READS IS OF BULK AT MOST 1048576: true; the input reads as it did. -/
def fnHoldsAtUptoRow : OpenClaim := { program := "ytjdfnngmbaojjaa", sum := "dc42fad415f8d407f385a81924be4e18a8b44d1527afc176c7a1188dbdc9f14e", func := "loop.example/hypersets/laws.FnHoldsAt", spec := "fnHoldsAt", unfollowed := true, recurses := true, apart := false, narrowed := true }
def FnHoldsAtUptoSaid : Prop := fnHoldsAtUptoRow.holds Try.pinned (OpenSpec.upto fnHoldsAtSpec)

/-- 'laws.FnExactPlacesOf', WHERE WHAT IT READS IS OF BULK AT MOST 1048576: true; the input reads as it did. -/
def fnExactPlacesOfUptoRow : OpenClaim := { program := "ytjdfnngmbaojjaa", sum := "dc42fad415f8d407f385a81924be4e18a8b44d1527afc176c7a1188dbdc9f14e", func := "loop.example/hypersets/laws.FnExactPlacesOf", spec := "fnExactPlacesOf", unfollowed := true, recurses := true, apart := false, narrowed := true }
def FnExactPlacesOfUptoSaid : Prop := fnExactPlacesOfUptoRow.holds Try.pinned (OpenSpec.upto fnExactPlacesOfSpec)

/-- 'laws.FnOppositeOf', WHERE WHAT IT READS IS OF BULK AT MOST 1048576: true; the input reads as it did. -/
def fnOppositeOfUptoRow : OpenClaim := { program := "ytjdfnngmbaojjaa", sum := "dc42fad415f8d407f385a81924be4e18a8b44d1527afc176c7a1188dbdc9f14e", func := "loop.example/hypersets/laws.FnOppositeOf", spec := "fnOppositeOf", unfollowed := true, recurses := true, apart := false, narrowed := true }
def FnOppositeOfUptoSaid : Prop := fnOppositeOfUptoRow.holds Try.pinned (OpenSpec.upto fnOppositeOfSpec)

/-- 'laws.FnExactTellsApart', WHERE WHAT IT READS IS OF BULK AT MOST 1048576: true; the input reads as it did. -/
def fnExactTellsApartUptoRow : OpenClaim := { program := "ytjdfnngmbaojjaa", sum := "dc42fad415f8d407f385a81924be4e18a8b44d1527afc176c7a1188dbdc9f14e", func := "loop.example/hypersets/laws.FnExactTellsApart", spec := "fnExactTellsApart", unfollowed := true, recurses := true, apart := false, narrowed := true }
def FnExactTellsApartUptoSaid : Prop := fnExactTellsApartUptoRow.holds Try.pinned (OpenSpec.upto fnExactTellsApartSpec)

/-- 'laws.FnPlacesOf', WHERE WHAT IT READS IS OF BULK AT MOST 1048576: true; the input reads as it did. -/
def fnPlacesOfUptoRow : OpenClaim := { program := "ytjdfnngmbaojjaa", sum := "dc42fad415f8d407f385a81924be4e18a8b44d1527afc176c7a1188dbdc9f14e", func := "loop.example/hypersets/laws.FnPlacesOf", spec := "fnPlacesOf", unfollowed := true, recurses := true, apart := false, narrowed := true }
def FnPlacesOfUptoSaid : Prop := fnPlacesOfUptoRow.holds Try.pinned (OpenSpec.upto fnPlacesOfSpec)

/-- 'laws.FnTellsApart', WHERE WHAT IT READS IS OF BULK AT MOST 1048576: true; the input reads as it did. -/
def fnTellsApartUptoRow : OpenClaim := { program := "ytjdfnngmbaojjaa", sum := "dc42fad415f8d407f385a81924be4e18a8b44d1527afc176c7a1188dbdc9f14e", func := "loop.example/hypersets/laws.FnTellsApart", spec := "fnTellsApart", unfollowed := true, recurses := true, apart := false, narrowed := true }
def FnTellsApartUptoSaid : Prop := fnTellsApartUptoRow.holds Try.pinned (OpenSpec.upto fnTellsApartSpec)

end Rows
end Go.Proofs.Ytjdfnngmbaojjaa
