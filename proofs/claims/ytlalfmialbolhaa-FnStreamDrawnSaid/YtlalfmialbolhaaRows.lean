/-
  No cell of these rows narrows 'for every input' (looked for: loops, veiled, ifaces, maps, wideKeys, modest, calm, conditions, laid).
  DERIVED. THE GIVEN ROWS OF THIS SEAT. 10 by the template 'for every input the law returns true; each argument reads behind the call as it read before'; 0 by the template 'total and deterministic' (their statements: YtlalfmialbolhaaTotals.lean).
  GIVEN WITH THE SEED: the statements are not yours to turn. If you find one false, say at which input.
  Laid BY PROGRAM, IN A SANDBOX (cutbox-rows.mjs): the forced cells as the released guide's own fill.sh prints them over the translation ab4f5019dee4ab7e… (all of the seat's roots in one cut). By AI agents, Wed Nov 11 2026. No macro, syntax, notation, axiom, sorry.
-/
import Derived.Test.YtlalfmialbolhaaChecked
import GoSem.Claim
import GoSem.ClaimJoined
import GoSem.ClaimMapViews
import Derived.JoinedTies
import Derived.KernelRfl
namespace Go.Proofs.Ytlalfmialbolhaa
/- THE CELL 'sum', in the pinned program and in every row, IS THE sha256 OF THE DUMP (.gsa) THAT YtlalfmialbolhaaProg.lean LOADS. Nothing in Lean hashes anything: it is a label: what it is worth is what the hold of that sum in a sandbox is worth. -/
noncomputable def Try.pinned : Pinned := { name := "ytlalfmialbolhaa", sum := "ab4f5019dee4ab7e911b257ae917b30d5575ffcfcfafca1a197fa4a2b5d73a35", checked := Try.checked }
namespace Rows
def none {H : Type} : Left H := { results := [], args := [] }

/-- 'laws.FnSameStreams': WHATEVER THE INPUT: true; the input reads as it did. -/
def fnSameStreamsSpec : ChangeSpec := { name := "fnSameStreams", fn := fun _ => fun
  | [d] => { results := [.lit (.bool true)], args := [d] }
  | _ => none }
def fnSameStreamsRow : OpenClaim := { program := "ytlalfmialbolhaa", sum := "ab4f5019dee4ab7e911b257ae917b30d5575ffcfcfafca1a197fa4a2b5d73a35", func := "loop.example/hypersets/laws.FnSameStreams", spec := "fnSameStreams", unfollowed := true, recurses := true, apart := false }
def FnSameStreamsSaid : Prop := fnSameStreamsRow.holds Try.pinned (OpenSpec.ofChange fnSameStreamsSpec)

/-- ITS FALSE NEIGHBOUR: 'it returns false'. Refute it at one input. -/
def fnSameStreamsWrong : ChangeSpec := { name := "fnSameStreams", fn := fun _ => fun
  | [d] => { results := [.lit (.bool false)], args := [d] }
  | _ => none }
def FnSameStreamsWrongFalsely : Prop := fnSameStreamsRow.holds Try.pinned (OpenSpec.ofChange fnSameStreamsWrong)

/-- 'laws.FnExactRestOf': WHATEVER THE INPUT: true; the input reads as it did. -/
def fnExactRestOfSpec : ChangeSpec := { name := "fnExactRestOf", fn := fun _ => fun
  | [d1, d2] => { results := [.lit (.bool true)], args := [d1, d2] }
  | _ => none }
def fnExactRestOfRow : OpenClaim := { program := "ytlalfmialbolhaa", sum := "ab4f5019dee4ab7e911b257ae917b30d5575ffcfcfafca1a197fa4a2b5d73a35", func := "loop.example/hypersets/laws.FnExactRestOf", spec := "fnExactRestOf", unfollowed := true, recurses := true, apart := false }
def FnExactRestOfSaid : Prop := fnExactRestOfRow.holds Try.pinned (OpenSpec.ofChange fnExactRestOfSpec)

/-- ITS FALSE NEIGHBOUR: 'it returns false'. Refute it at one input. -/
def fnExactRestOfWrong : ChangeSpec := { name := "fnExactRestOf", fn := fun _ => fun
  | [d1, d2] => { results := [.lit (.bool false)], args := [d1, d2] }
  | _ => none }
def FnExactRestOfWrongFalsely : Prop := fnExactRestOfRow.holds Try.pinned (OpenSpec.ofChange fnExactRestOfWrong)

/-- 'laws.FnExactEveryOther': WHATEVER THE INPUT: true; the input reads as it did. -/
def fnExactEveryOtherSpec : ChangeSpec := { name := "fnExactEveryOther", fn := fun _ => fun
  | [d] => { results := [.lit (.bool true)], args := [d] }
  | _ => none }
def fnExactEveryOtherRow : OpenClaim := { program := "ytlalfmialbolhaa", sum := "ab4f5019dee4ab7e911b257ae917b30d5575ffcfcfafca1a197fa4a2b5d73a35", func := "loop.example/hypersets/laws.FnExactEveryOther", spec := "fnExactEveryOther", unfollowed := true, recurses := true, apart := false }
def FnExactEveryOtherSaid : Prop := fnExactEveryOtherRow.holds Try.pinned (OpenSpec.ofChange fnExactEveryOtherSpec)

/-- ITS FALSE NEIGHBOUR: 'it returns false'. Refute it at one input. -/
def fnExactEveryOtherWrong : ChangeSpec := { name := "fnExactEveryOther", fn := fun _ => fun
  | [d] => { results := [.lit (.bool false)], args := [d] }
  | _ => none }
def FnExactEveryOtherWrongFalsely : Prop := fnExactEveryOtherRow.holds Try.pinned (OpenSpec.ofChange fnExactEveryOtherWrong)

/-- 'laws.FnPutAhead': WHATEVER THE INPUT: true; the input reads as it did. -/
def fnPutAheadSpec : ChangeSpec := { name := "fnPutAhead", fn := fun _ => fun
  | [d] => { results := [.lit (.bool true)], args := [d] }
  | _ => none }
def fnPutAheadRow : OpenClaim := { program := "ytlalfmialbolhaa", sum := "ab4f5019dee4ab7e911b257ae917b30d5575ffcfcfafca1a197fa4a2b5d73a35", func := "loop.example/hypersets/laws.FnPutAhead", spec := "fnPutAhead", unfollowed := true, recurses := true, apart := false }
def FnPutAheadSaid : Prop := fnPutAheadRow.holds Try.pinned (OpenSpec.ofChange fnPutAheadSpec)

/-- ITS FALSE NEIGHBOUR: 'it returns false'. Refute it at one input. -/
def fnPutAheadWrong : ChangeSpec := { name := "fnPutAhead", fn := fun _ => fun
  | [d] => { results := [.lit (.bool false)], args := [d] }
  | _ => none }
def FnPutAheadWrongFalsely : Prop := fnPutAheadRow.holds Try.pinned (OpenSpec.ofChange fnPutAheadWrong)

/-- 'laws.FnRestOf': WHATEVER THE INPUT: true; the input reads as it did. -/
def fnRestOfSpec : ChangeSpec := { name := "fnRestOf", fn := fun _ => fun
  | [d] => { results := [.lit (.bool true)], args := [d] }
  | _ => none }
def fnRestOfRow : OpenClaim := { program := "ytlalfmialbolhaa", sum := "ab4f5019dee4ab7e911b257ae917b30d5575ffcfcfafca1a197fa4a2b5d73a35", func := "loop.example/hypersets/laws.FnRestOf", spec := "fnRestOf", unfollowed := true, recurses := true, apart := false }
def FnRestOfSaid : Prop := fnRestOfRow.holds Try.pinned (OpenSpec.ofChange fnRestOfSpec)

/-- ITS FALSE NEIGHBOUR: 'it returns false'. Refute it at one input. -/
def fnRestOfWrong : ChangeSpec := { name := "fnRestOf", fn := fun _ => fun
  | [d] => { results := [.lit (.bool false)], args := [d] }
  | _ => none }
def FnRestOfWrongFalsely : Prop := fnRestOfRow.holds Try.pinned (OpenSpec.ofChange fnRestOfWrong)

/-- 'laws.FnExactLaidBetween': WHATEVER THE INPUT: true; the input reads as it did. -/
def fnExactLaidBetweenSpec : ChangeSpec := { name := "fnExactLaidBetween", fn := fun _ => fun
  | [d1, d2] => { results := [.lit (.bool true)], args := [d1, d2] }
  | _ => none }
def fnExactLaidBetweenRow : OpenClaim := { program := "ytlalfmialbolhaa", sum := "ab4f5019dee4ab7e911b257ae917b30d5575ffcfcfafca1a197fa4a2b5d73a35", func := "loop.example/hypersets/laws.FnExactLaidBetween", spec := "fnExactLaidBetween", unfollowed := true, recurses := true, apart := false }
def FnExactLaidBetweenSaid : Prop := fnExactLaidBetweenRow.holds Try.pinned (OpenSpec.ofChange fnExactLaidBetweenSpec)

/-- ITS FALSE NEIGHBOUR: 'it returns false'. Refute it at one input. -/
def fnExactLaidBetweenWrong : ChangeSpec := { name := "fnExactLaidBetween", fn := fun _ => fun
  | [d1, d2] => { results := [.lit (.bool false)], args := [d1, d2] }
  | _ => none }
def FnExactLaidBetweenWrongFalsely : Prop := fnExactLaidBetweenRow.holds Try.pinned (OpenSpec.ofChange fnExactLaidBetweenWrong)

/-- 'laws.FnEveryOther': WHATEVER THE INPUT: true; the input reads as it did. -/
def fnEveryOtherSpec : ChangeSpec := { name := "fnEveryOther", fn := fun _ => fun
  | [d] => { results := [.lit (.bool true)], args := [d] }
  | _ => none }
def fnEveryOtherRow : OpenClaim := { program := "ytlalfmialbolhaa", sum := "ab4f5019dee4ab7e911b257ae917b30d5575ffcfcfafca1a197fa4a2b5d73a35", func := "loop.example/hypersets/laws.FnEveryOther", spec := "fnEveryOther", unfollowed := true, recurses := true, apart := false }
def FnEveryOtherSaid : Prop := fnEveryOtherRow.holds Try.pinned (OpenSpec.ofChange fnEveryOtherSpec)

/-- ITS FALSE NEIGHBOUR: 'it returns false'. Refute it at one input. -/
def fnEveryOtherWrong : ChangeSpec := { name := "fnEveryOther", fn := fun _ => fun
  | [d] => { results := [.lit (.bool false)], args := [d] }
  | _ => none }
def FnEveryOtherWrongFalsely : Prop := fnEveryOtherRow.holds Try.pinned (OpenSpec.ofChange fnEveryOtherWrong)

/-- 'laws.FnLaidBetween': WHATEVER THE INPUT: true; the input reads as it did. -/
def fnLaidBetweenSpec : ChangeSpec := { name := "fnLaidBetween", fn := fun _ => fun
  | [d] => { results := [.lit (.bool true)], args := [d] }
  | _ => none }
def fnLaidBetweenRow : OpenClaim := { program := "ytlalfmialbolhaa", sum := "ab4f5019dee4ab7e911b257ae917b30d5575ffcfcfafca1a197fa4a2b5d73a35", func := "loop.example/hypersets/laws.FnLaidBetween", spec := "fnLaidBetween", unfollowed := true, recurses := true, apart := false }
def FnLaidBetweenSaid : Prop := fnLaidBetweenRow.holds Try.pinned (OpenSpec.ofChange fnLaidBetweenSpec)

/-- ITS FALSE NEIGHBOUR: 'it returns false'. Refute it at one input. -/
def fnLaidBetweenWrong : ChangeSpec := { name := "fnLaidBetween", fn := fun _ => fun
  | [d] => { results := [.lit (.bool false)], args := [d] }
  | _ => none }
def FnLaidBetweenWrongFalsely : Prop := fnLaidBetweenRow.holds Try.pinned (OpenSpec.ofChange fnLaidBetweenWrong)

/-- 'laws.FnExactStreamDrawn': WHATEVER THE INPUT: true; the input reads as it did. -/
def fnExactStreamDrawnSpec : ChangeSpec := { name := "fnExactStreamDrawn", fn := fun _ => fun
  | [d] => { results := [.lit (.bool true)], args := [d] }
  | _ => none }
def fnExactStreamDrawnRow : OpenClaim := { program := "ytlalfmialbolhaa", sum := "ab4f5019dee4ab7e911b257ae917b30d5575ffcfcfafca1a197fa4a2b5d73a35", func := "loop.example/hypersets/laws.FnExactStreamDrawn", spec := "fnExactStreamDrawn", apart := false }
def FnExactStreamDrawnSaid : Prop := fnExactStreamDrawnRow.holds Try.pinned (OpenSpec.ofChange fnExactStreamDrawnSpec)

/-- ITS FALSE NEIGHBOUR: 'it returns false'. Refute it at one input. -/
def fnExactStreamDrawnWrong : ChangeSpec := { name := "fnExactStreamDrawn", fn := fun _ => fun
  | [d] => { results := [.lit (.bool false)], args := [d] }
  | _ => none }
def FnExactStreamDrawnWrongFalsely : Prop := fnExactStreamDrawnRow.holds Try.pinned (OpenSpec.ofChange fnExactStreamDrawnWrong)

/-- 'laws.FnStreamDrawn': WHATEVER THE INPUT: true; the input reads as it did. -/
def fnStreamDrawnSpec : ChangeSpec := { name := "fnStreamDrawn", fn := fun _ => fun
  | [d1, d2] => { results := [.lit (.bool true)], args := [d1, d2] }
  | _ => none }
def fnStreamDrawnRow : OpenClaim := { program := "ytlalfmialbolhaa", sum := "ab4f5019dee4ab7e911b257ae917b30d5575ffcfcfafca1a197fa4a2b5d73a35", func := "loop.example/hypersets/laws.FnStreamDrawn", spec := "fnStreamDrawn", unfollowed := true, recurses := true, apart := false }
def FnStreamDrawnSaid : Prop := fnStreamDrawnRow.holds Try.pinned (OpenSpec.ofChange fnStreamDrawnSpec)

/-- ITS FALSE NEIGHBOUR: 'it returns false'. Refute it at one input. -/
def fnStreamDrawnWrong : ChangeSpec := { name := "fnStreamDrawn", fn := fun _ => fun
  | [d1, d2] => { results := [.lit (.bool false)], args := [d1, d2] }
  | _ => none }
def FnStreamDrawnWrongFalsely : Prop := fnStreamDrawnRow.holds Try.pinned (OpenSpec.ofChange fnStreamDrawnWrong)

/- THE SECOND FORM. 'bulk': how many values and letters a reading holds, each counted each time it is reached (what is shared counts as often as it is met; a slice's spare places count too). A statement '..UptoSaid' is the law's where the arguments, and the package variables that the reading takes, are together of bulk at most 1048576: NARROWER than '..Said'. Prove '..Said' where nothing that the law and all that it calls make is longer than what came in: it says more and counts as full. Else prove '..UptoSaid'. A law counts once. -/
mutual
def uptoBulk {H : Type} : DataW H → Nat
  | .lit (.string bytes) => bytes.length + 1
  | .lit _ => 1
  | .nil => 1
  | .ptr d => uptoBulk d + 1
  | .slice elems spare => uptoBulkAll elems + uptoBulkAll spare + 1
  | .agg parts => uptoBulkAll parts + 1
  | .iface _ d => uptoBulk d + 1
  | .map entries => uptoBulkEntries entries + 1
  | .held _ => 1
def uptoBulkAll {H : Type} : List (DataW H) → Nat
  | [] => 0
  | d :: r => uptoBulk d + uptoBulkAll r
def uptoBulkEntries {H : Type} : List (Lit × DataW H) → Nat
  | [] => 0
  | x :: r => uptoBulkEntry x + uptoBulkEntries r
def uptoBulkEntry {H : Type} : Lit × DataW H → Nat
  | (.string bytes, d) => bytes.length + uptoBulk d + 1
  | (_, d) => uptoBulk d + 1
 end
def uptoSmall : (H : Type) → List (DataW H) → Bool := fun _ ds => decide (uptoBulkAll ds ≤ 1048576)
def OpenSpec.upto (s : _root_.Go.ChangeSpec) : _root_.Go.OpenSpec := { _root_.Go.OpenSpec.ofChange s with cond := some uptoSmall }

/-- 'laws.FnSameStreams', WHERE WHAT IT READS IS OF BULK AT MOST 1048576: true; the input reads as it did. -/
def fnSameStreamsUptoRow : OpenClaim := { program := "ytlalfmialbolhaa", sum := "ab4f5019dee4ab7e911b257ae917b30d5575ffcfcfafca1a197fa4a2b5d73a35", func := "loop.example/hypersets/laws.FnSameStreams", spec := "fnSameStreams", unfollowed := true, recurses := true, apart := false, narrowed := true }
def FnSameStreamsUptoSaid : Prop := fnSameStreamsUptoRow.holds Try.pinned (OpenSpec.upto fnSameStreamsSpec)

/-- 'laws.FnExactRestOf', WHERE WHAT IT READS IS OF BULK AT MOST 1048576: true; the input reads as it did. -/
def fnExactRestOfUptoRow : OpenClaim := { program := "ytlalfmialbolhaa", sum := "ab4f5019dee4ab7e911b257ae917b30d5575ffcfcfafca1a197fa4a2b5d73a35", func := "loop.example/hypersets/laws.FnExactRestOf", spec := "fnExactRestOf", unfollowed := true, recurses := true, apart := false, narrowed := true }
def FnExactRestOfUptoSaid : Prop := fnExactRestOfUptoRow.holds Try.pinned (OpenSpec.upto fnExactRestOfSpec)

/-- 'laws.FnExactEveryOther', WHERE WHAT IT READS IS OF BULK AT MOST 1048576: true; the input reads as it did. -/
def fnExactEveryOtherUptoRow : OpenClaim := { program := "ytlalfmialbolhaa", sum := "ab4f5019dee4ab7e911b257ae917b30d5575ffcfcfafca1a197fa4a2b5d73a35", func := "loop.example/hypersets/laws.FnExactEveryOther", spec := "fnExactEveryOther", unfollowed := true, recurses := true, apart := false, narrowed := true }
def FnExactEveryOtherUptoSaid : Prop := fnExactEveryOtherUptoRow.holds Try.pinned (OpenSpec.upto fnExactEveryOtherSpec)

/-- 'laws.FnPutAhead', WHERE WHAT IT READS IS OF BULK AT MOST 1048576: true; the input reads as it did. -/
def fnPutAheadUptoRow : OpenClaim := { program := "ytlalfmialbolhaa", sum := "ab4f5019dee4ab7e911b257ae917b30d5575ffcfcfafca1a197fa4a2b5d73a35", func := "loop.example/hypersets/laws.FnPutAhead", spec := "fnPutAhead", unfollowed := true, recurses := true, apart := false, narrowed := true }
def FnPutAheadUptoSaid : Prop := fnPutAheadUptoRow.holds Try.pinned (OpenSpec.upto fnPutAheadSpec)

/-- 'laws.FnRestOf', WHERE WHAT IT READS IS OF BULK AT MOST 1048576: true; the input reads as it did. -/
def fnRestOfUptoRow : OpenClaim := { program := "ytlalfmialbolhaa", sum := "ab4f5019dee4ab7e911b257ae917b30d5575ffcfcfafca1a197fa4a2b5d73a35", func := "loop.example/hypersets/laws.FnRestOf", spec := "fnRestOf", unfollowed := true, recurses := true, apart := false, narrowed := true }
def FnRestOfUptoSaid : Prop := fnRestOfUptoRow.holds Try.pinned (OpenSpec.upto fnRestOfSpec)

/-- 'laws.FnExactLaidBetween', WHERE WHAT IT READS IS OF BULK AT MOST 1048576: true; the input reads as it did. -/
def fnExactLaidBetweenUptoRow : OpenClaim := { program := "ytlalfmialbolhaa", sum := "ab4f5019dee4ab7e911b257ae917b30d5575ffcfcfafca1a197fa4a2b5d73a35", func := "loop.example/hypersets/laws.FnExactLaidBetween", spec := "fnExactLaidBetween", unfollowed := true, recurses := true, apart := false, narrowed := true }
def FnExactLaidBetweenUptoSaid : Prop := fnExactLaidBetweenUptoRow.holds Try.pinned (OpenSpec.upto fnExactLaidBetweenSpec)

/-- 'laws.FnEveryOther', WHERE WHAT IT READS IS OF BULK AT MOST 1048576: true; the input reads as it did. -/
def fnEveryOtherUptoRow : OpenClaim := { program := "ytlalfmialbolhaa", sum := "ab4f5019dee4ab7e911b257ae917b30d5575ffcfcfafca1a197fa4a2b5d73a35", func := "loop.example/hypersets/laws.FnEveryOther", spec := "fnEveryOther", unfollowed := true, recurses := true, apart := false, narrowed := true }
def FnEveryOtherUptoSaid : Prop := fnEveryOtherUptoRow.holds Try.pinned (OpenSpec.upto fnEveryOtherSpec)

/-- 'laws.FnLaidBetween', WHERE WHAT IT READS IS OF BULK AT MOST 1048576: true; the input reads as it did. -/
def fnLaidBetweenUptoRow : OpenClaim := { program := "ytlalfmialbolhaa", sum := "ab4f5019dee4ab7e911b257ae917b30d5575ffcfcfafca1a197fa4a2b5d73a35", func := "loop.example/hypersets/laws.FnLaidBetween", spec := "fnLaidBetween", unfollowed := true, recurses := true, apart := false, narrowed := true }
def FnLaidBetweenUptoSaid : Prop := fnLaidBetweenUptoRow.holds Try.pinned (OpenSpec.upto fnLaidBetweenSpec)

/-- 'laws.FnExactStreamDrawn', WHERE WHAT IT READS IS OF BULK AT MOST 1048576: true; the input reads as it did. -/
def fnExactStreamDrawnUptoRow : OpenClaim := { program := "ytlalfmialbolhaa", sum := "ab4f5019dee4ab7e911b257ae917b30d5575ffcfcfafca1a197fa4a2b5d73a35", func := "loop.example/hypersets/laws.FnExactStreamDrawn", spec := "fnExactStreamDrawn", apart := false, narrowed := true }
def FnExactStreamDrawnUptoSaid : Prop := fnExactStreamDrawnUptoRow.holds Try.pinned (OpenSpec.upto fnExactStreamDrawnSpec)

/-- 'laws.FnStreamDrawn', WHERE WHAT IT READS IS OF BULK AT MOST 1048576: true; the input reads as it did. -/
def fnStreamDrawnUptoRow : OpenClaim := { program := "ytlalfmialbolhaa", sum := "ab4f5019dee4ab7e911b257ae917b30d5575ffcfcfafca1a197fa4a2b5d73a35", func := "loop.example/hypersets/laws.FnStreamDrawn", spec := "fnStreamDrawn", unfollowed := true, recurses := true, apart := false, narrowed := true }
def FnStreamDrawnUptoSaid : Prop := fnStreamDrawnUptoRow.holds Try.pinned (OpenSpec.upto fnStreamDrawnSpec)

end Rows
end Go.Proofs.Ytlalfmialbolhaa
