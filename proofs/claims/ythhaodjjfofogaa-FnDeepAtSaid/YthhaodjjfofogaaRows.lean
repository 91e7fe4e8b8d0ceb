/-
  No cell of these rows narrows 'for every input' (looked for: loops, veiled, ifaces, maps, wideKeys, modest, calm, conditions, laid).
  DERIVED. THE GIVEN ROWS OF THIS SEAT. 10 by the template 'for every input the law returns true; each argument reads behind the call as it read before'; 0 by the template 'total and deterministic' (their statements: YthhaodjjfofogaaTotals.lean).
  GIVEN WITH THE SEED: the statements are not yours to turn. If you find one false, say at which input.
  Laid BY PROGRAM, IN A SANDBOX (cutbox-rows.mjs): the forced cells as the released guide's own fill.sh prints them over the translation 7076b529ab5d00cf… (all of the seat's roots in one cut). By AI agents, Wed Nov 11 2026. No macro, syntax, notation, axiom, sorry.
-/
import Derived.Test.YthhaodjjfofogaaChecked
import GoSem.Claim
import GoSem.ClaimJoined
import GoSem.ClaimMapViews
import Derived.JoinedTies
import Derived.KernelRfl
namespace Go.Proofs.Ythhaodjjfofogaa
/- THE CELL 'sum', in the pinned program and in every row, IS THE sha256 OF THE DUMP (.gsa) THAT YthhaodjjfofogaaProg.lean LOADS. Nothing in Lean hashes anything: it is a label: what it is worth is what the hold of that sum in a sandbox is worth. -/
noncomputable def Try.pinned : Pinned := { name := "ythhaodjjfofogaa", sum := "7076b529ab5d00cfab151c43a6b0bada6508330830f69b407de5f2cd4abd6f80", checked := Try.checked }
namespace Rows
def none {H : Type} : Left H := { results := [], args := [] }

/-- 'laws.FnExactFoundedIn': WHATEVER THE INPUT: true; the input reads as it did. -/
def fnExactFoundedInSpec : ChangeSpec := { name := "fnExactFoundedIn", fn := fun _ => fun
  | [d1, d2] => { results := [.lit (.bool true)], args := [d1, d2] }
  | _ => none }
def fnExactFoundedInRow : OpenClaim := { program := "ythhaodjjfofogaa", sum := "7076b529ab5d00cfab151c43a6b0bada6508330830f69b407de5f2cd4abd6f80", func := "loop.example/hypersets/laws.FnExactFoundedIn", spec := "fnExactFoundedIn", unfollowed := true, recurses := true, apart := false }
def FnExactFoundedInSaid : Prop := fnExactFoundedInRow.holds Try.pinned (OpenSpec.ofChange fnExactFoundedInSpec)

/-- ITS FALSE NEIGHBOUR: 'it returns false'. Refute it at one input. -/
def fnExactFoundedInWrong : ChangeSpec := { name := "fnExactFoundedIn", fn := fun _ => fun
  | [d1, d2] => { results := [.lit (.bool false)], args := [d1, d2] }
  | _ => none }
def FnExactFoundedInWrongFalsely : Prop := fnExactFoundedInRow.holds Try.pinned (OpenSpec.ofChange fnExactFoundedInWrong)

/-- 'laws.FnExactDeepAt': WHATEVER THE INPUT: true; the input reads as it did. -/
def fnExactDeepAtSpec : ChangeSpec := { name := "fnExactDeepAt", fn := fun _ => fun
  | [d1, d2] => { results := [.lit (.bool true)], args := [d1, d2] }
  | _ => none }
def fnExactDeepAtRow : OpenClaim := { program := "ythhaodjjfofogaa", sum := "7076b529ab5d00cfab151c43a6b0bada6508330830f69b407de5f2cd4abd6f80", func := "loop.example/hypersets/laws.FnExactDeepAt", spec := "fnExactDeepAt", unfollowed := true, recurses := true, apart := false }
def FnExactDeepAtSaid : Prop := fnExactDeepAtRow.holds Try.pinned (OpenSpec.ofChange fnExactDeepAtSpec)

/-- ITS FALSE NEIGHBOUR: 'it returns false'. Refute it at one input. -/
def fnExactDeepAtWrong : ChangeSpec := { name := "fnExactDeepAt", fn := fun _ => fun
  | [d1, d2] => { results := [.lit (.bool false)], args := [d1, d2] }
  | _ => none }
def FnExactDeepAtWrongFalsely : Prop := fnExactDeepAtRow.holds Try.pinned (OpenSpec.ofChange fnExactDeepAtWrong)

/-- 'laws.FnExactFoundedAll': WHATEVER THE INPUT: true; the input reads as it did. -/
def fnExactFoundedAllSpec : ChangeSpec := { name := "fnExactFoundedAll", fn := fun _ => fun
  | [d] => { results := [.lit (.bool true)], args := [d] }
  | _ => none }
def fnExactFoundedAllRow : OpenClaim := { program := "ythhaodjjfofogaa", sum := "7076b529ab5d00cfab151c43a6b0bada6508330830f69b407de5f2cd4abd6f80", func := "loop.example/hypersets/laws.FnExactFoundedAll", spec := "fnExactFoundedAll", unfollowed := true, recurses := true, apart := false }
def FnExactFoundedAllSaid : Prop := fnExactFoundedAllRow.holds Try.pinned (OpenSpec.ofChange fnExactFoundedAllSpec)

/-- ITS FALSE NEIGHBOUR: 'it returns false'. Refute it at one input. -/
def fnExactFoundedAllWrong : ChangeSpec := { name := "fnExactFoundedAll", fn := fun _ => fun
  | [d] => { results := [.lit (.bool false)], args := [d] }
  | _ => none }
def FnExactFoundedAllWrongFalsely : Prop := fnExactFoundedAllRow.holds Try.pinned (OpenSpec.ofChange fnExactFoundedAllWrong)

/-- 'laws.FnFoundedIn': WHATEVER THE INPUT: true; the input reads as it did. -/
def fnFoundedInSpec : ChangeSpec := { name := "fnFoundedIn", fn := fun _ => fun
  | [d] => { results := [.lit (.bool true)], args := [d] }
  | _ => none }
def fnFoundedInRow : OpenClaim := { program := "ythhaodjjfofogaa", sum := "7076b529ab5d00cfab151c43a6b0bada6508330830f69b407de5f2cd4abd6f80", func := "loop.example/hypersets/laws.FnFoundedIn", spec := "fnFoundedIn", unfollowed := true, recurses := true, apart := false }
def FnFoundedInSaid : Prop := fnFoundedInRow.holds Try.pinned (OpenSpec.ofChange fnFoundedInSpec)

/-- ITS FALSE NEIGHBOUR: 'it returns false'. Refute it at one input. -/
def fnFoundedInWrong : ChangeSpec := { name := "fnFoundedIn", fn := fun _ => fun
  | [d] => { results := [.lit (.bool false)], args := [d] }
  | _ => none }
def FnFoundedInWrongFalsely : Prop := fnFoundedInRow.holds Try.pinned (OpenSpec.ofChange fnFoundedInWrong)

/-- 'laws.FnFoundedAll': WHATEVER THE INPUT: true; the input reads as it did. -/
def fnFoundedAllSpec : ChangeSpec := { name := "fnFoundedAll", fn := fun _ => fun
  | [d] => { results := [.lit (.bool true)], args := [d] }
  | _ => none }
def fnFoundedAllRow : OpenClaim := { program := "ythhaodjjfofogaa", sum := "7076b529ab5d00cfab151c43a6b0bada6508330830f69b407de5f2cd4abd6f80", func := "loop.example/hypersets/laws.FnFoundedAll", spec := "fnFoundedAll", unfollowed := true, recurses := true, apart := false }
def FnFoundedAllSaid : Prop := fnFoundedAllRow.holds Try.pinned (OpenSpec.ofChange fnFoundedAllSpec)

/-- ITS FALSE NEIGHBOUR: 'it returns false'. Refute it at one input. -/
def fnFoundedAllWrong : ChangeSpec := { name := "fnFoundedAll", fn := fun _ => fun
  | [d] => { results := [.lit (.bool false)], args := [d] }
  | _ => none }
def FnFoundedAllWrongFalsely : Prop := fnFoundedAllRow.holds Try.pinned (OpenSpec.ofChange fnFoundedAllWrong)

/-- 'laws.FnExactLoopsOf': WHATEVER THE INPUT: true; the input reads as it did. -/
def fnExactLoopsOfSpec : ChangeSpec := { name := "fnExactLoopsOf", fn := fun _ => fun
  | [d] => { results := [.lit (.bool true)], args := [d] }
  | _ => none }
def fnExactLoopsOfRow : OpenClaim := { program := "ythhaodjjfofogaa", sum := "7076b529ab5d00cfab151c43a6b0bada6508330830f69b407de5f2cd4abd6f80", func := "loop.example/hypersets/laws.FnExactLoopsOf", spec := "fnExactLoopsOf", unfollowed := true, recurses := true, apart := false }
def FnExactLoopsOfSaid : Prop := fnExactLoopsOfRow.holds Try.pinned (OpenSpec.ofChange fnExactLoopsOfSpec)

/-- ITS FALSE NEIGHBOUR: 'it returns false'. Refute it at one input. -/
def fnExactLoopsOfWrong : ChangeSpec := { name := "fnExactLoopsOf", fn := fun _ => fun
  | [d] => { results := [.lit (.bool false)], args := [d] }
  | _ => none }
def FnExactLoopsOfWrongFalsely : Prop := fnExactLoopsOfRow.holds Try.pinned (OpenSpec.ofChange fnExactLoopsOfWrong)

/-- 'laws.FnLoopsOf': WHATEVER THE INPUT: true; the input reads as it did. -/
def fnLoopsOfSpec : ChangeSpec := { name := "fnLoopsOf", fn := fun _ => fun
  | [d] => { results := [.lit (.bool true)], args := [d] }
  | _ => none }
def fnLoopsOfRow : OpenClaim := { program := "ythhaodjjfofogaa", sum := "7076b529ab5d00cfab151c43a6b0bada6508330830f69b407de5f2cd4abd6f80", func := "loop.example/hypersets/laws.FnLoopsOf", spec := "fnLoopsOf", unfollowed := true, recurses := true, apart := false }
def FnLoopsOfSaid : Prop := fnLoopsOfRow.holds Try.pinned (OpenSpec.ofChange fnLoopsOfSpec)

/-- ITS FALSE NEIGHBOUR: 'it returns false'. Refute it at one input. -/
def fnLoopsOfWrong : ChangeSpec := { name := "fnLoopsOf", fn := fun _ => fun
  | [d] => { results := [.lit (.bool false)], args := [d] }
  | _ => none }
def FnLoopsOfWrongFalsely : Prop := fnLoopsOfRow.holds Try.pinned (OpenSpec.ofChange fnLoopsOfWrong)

/-- 'laws.FnExactLoopsCut': WHATEVER THE INPUT: true; the input reads as it did. -/
def fnExactLoopsCutSpec : ChangeSpec := { name := "fnExactLoopsCut", fn := fun _ => fun
  | [d] => { results := [.lit (.bool true)], args := [d] }
  | _ => none }
def fnExactLoopsCutRow : OpenClaim := { program := "ythhaodjjfofogaa", sum := "7076b529ab5d00cfab151c43a6b0bada6508330830f69b407de5f2cd4abd6f80", func := "loop.example/hypersets/laws.FnExactLoopsCut", spec := "fnExactLoopsCut", unfollowed := true, recurses := true, apart := false }
def FnExactLoopsCutSaid : Prop := fnExactLoopsCutRow.holds Try.pinned (OpenSpec.ofChange fnExactLoopsCutSpec)

/-- ITS FALSE NEIGHBOUR: 'it returns false'. Refute it at one input. -/
def fnExactLoopsCutWrong : ChangeSpec := { name := "fnExactLoopsCut", fn := fun _ => fun
  | [d] => { results := [.lit (.bool false)], args := [d] }
  | _ => none }
def FnExactLoopsCutWrongFalsely : Prop := fnExactLoopsCutRow.holds Try.pinned (OpenSpec.ofChange fnExactLoopsCutWrong)

/-- 'laws.FnLoopsCut': WHATEVER THE INPUT: true; the input reads as it did. -/
def fnLoopsCutSpec : ChangeSpec := { name := "fnLoopsCut", fn := fun _ => fun
  | [d] => { results := [.lit (.bool true)], args := [d] }
  | _ => none }
def fnLoopsCutRow : OpenClaim := { program := "ythhaodjjfofogaa", sum := "7076b529ab5d00cfab151c43a6b0bada6508330830f69b407de5f2cd4abd6f80", func := "loop.example/hypersets/laws.FnLoopsCut", spec := "fnLoopsCut", unfollowed := true, recurses := true, apart := false }
def FnLoopsCutSaid : Prop := fnLoopsCutRow.holds Try.pinned (OpenSpec.ofChange fnLoopsCutSpec)

/-- ITS FALSE NEIGHBOUR: 'it returns false'. Refute it at one input. -/
def fnLoopsCutWrong : ChangeSpec := { name := "fnLoopsCut", fn := fun _ => fun
  | [d] => { results := [.lit (.bool false)], args := [d] }
  | _ => none }
def FnLoopsCutWrongFalsely : Prop := fnLoopsCutRow.holds Try.pinned (OpenSpec.ofChange fnLoopsCutWrong)

/-- 'laws.FnDeepAt': WHATEVER THE INPUT: true; the input reads as it did. -/
def fnDeepAtSpec : ChangeSpec := { name := "fnDeepAt", fn := fun _ => fun
  | [d] => { results := [.lit (.bool true)], args := [d] }
  | _ => none }
def fnDeepAtRow : OpenClaim := { program := "ythhaodjjfofogaa", sum := "7076b529ab5d00cfab151c43a6b0bada6508330830f69b407de5f2cd4abd6f80", func := "loop.example/hypersets/laws.FnDeepAt", spec := "fnDeepAt", unfollowed := true, recurses := true, apart := false }
def FnDeepAtSaid : Prop := fnDeepAtRow.holds Try.pinned (OpenSpec.ofChange fnDeepAtSpec)

/-- ITS FALSE NEIGHBOUR: 'it returns false'. Refute it at one input. -/
def fnDeepAtWrong : ChangeSpec := { name := "fnDeepAt", fn := fun _ => fun
  | [d] => { results := [.lit (.bool false)], args := [d] }
  | _ => none }
def FnDeepAtWrongFalsely : Prop := fnDeepAtRow.holds Try.pinned (OpenSpec.ofChange fnDeepAtWrong)

/- THE SECOND FORM. 'bulk': how many values and letters a reading holds, each counted each time it is reached (what is shared counts as often as it is met; a slice's spare places count too). A statement '..UptoSaid' is the law's where the arguments, and the package variables that the reading takes, are together of bulk at most 1048576: NARROWER than '..Said'. Prove '..Said' where nothing that the law and all that it calls make is longer than what came in: it says more and counts as full. Else prove '..UptoSaid'. A law counts once. -/
mutual
def uptoBulk {H : Type} : DataW H → Nat
  | .lit (.string bytes) => bytes.length + 1
  | .lit _ => 1
  | .nil => 1
  | .ptr d => uptoBulk d + 1
  | .slice elems spare => uptoBulkAll elems + uptoBulkAll spare + 1
  | .agg parts => uptoBulkAll parts + 1
  | .iface _ d => uptoBulk d + 1
  | .map entries => uptoBulkEntries entries + 1
  | .held _ => 1
def uptoBulkAll {H : Type} : List (DataW H) → Nat
  | [] => 0
  | d :: r => uptoBulk d + uptoBulkAll r
def uptoBulkEntries {H : Type} : List (Lit × DataW H) → Nat
  | [] => 0
  | x :: r => uptoBulkEntry x + uptoBulkEntries r
def uptoBulkEntry {H : Type} : Lit × DataW H → Nat
  | (.string bytes, d) => bytes.length + uptoBulk d + 1
  | (_, d) => uptoBulk d + 1
 end
def uptoSmall : (H : Type) → List (DataW H) → Bool := fun _ ds => decide (uptoBulkAll ds ≤ 1048576)
def OpenSpec.upto (s : _root_.Go.ChangeSpec) : _root_.Go.OpenSpec := { _root_.Go.OpenSpec.ofChange s with cond := some uptoSmall }

/-- 'laws.FnExactFoundedIn', WHERE WHAT IT READS IS OF BULK AT MOST 1048576: true; the input reads as it did. -/
def fnExactFoundedInUptoRow : OpenClaim := { program := "ythhaodjjfofogaa", sum := "7076b529ab5d00cfab151c43a6b0bada6508330830f69b407de5f2cd4abd6f80", func := "loop.example/hypersets/laws.FnExactFoundedIn", spec := "fnExactFoundedIn", unfollowed := true, recurses := true, apart := false, narrowed := true }
def FnExactFoundedInUptoSaid : Prop := fnExactFoundedInUptoRow.holds Try.pinned (OpenSpec.upto fnExactFoundedInSpec)

/-- 'laws.FnExactDeepAt', WHERE WHAT IT READS IS OF BULK AT MOST 1048576: true; the input reads as it did. -/
def fnExactDeepAtUptoRow : OpenClaim := { program := "ythhaodjjfofogaa", sum := "7076b529ab5d00cfab151c43a6b0bada6508330830f69b407de5f2cd4abd6f80", func := "loop.example/hypersets/laws.FnExactDeepAt", spec := "fnExactDeepAt", unfollowed := true, recurses := true, apart := false, narrowed := true }
def FnExactDeepAtUptoSaid : Prop := fnExactDeepAtUptoRow.holds Try.pinned (OpenSpec.upto fnExactDeepAtSpec)

/-- 'laws.FnExactFoundedAll', WHERE WHAT IT READS IS OF BULK AT MOST 1048576: true; the input reads as it did. -/
def fnExactFoundedAllUptoRow : OpenClaim := { program := "ythhaodjjfofogaa", sum := "7076b529ab5d00cfab151c43a6b0bada6508330830f69b407de5f2cd4abd6f80", func := "loop.example/hypersets/laws.FnExactFoundedAll", spec := "fnExactFoundedAll", unfollowed := true, recurses := true, apart := false, narrowed := true }
def FnExactFoundedAllUptoSaid : Prop := fnExactFoundedAllUptoRow.holds Try.pinned (OpenSpec.upto fnExactFoundedAllSpec)

/-- 'laws.FnFoundedIn', WHERE WHAT IT READS IS OF BULK AT MOST 1048576: true; the input reads as it did. -/
def fnFoundedInUptoRow : OpenClaim := { program := "ythhaodjjfofogaa", sum := "7076b529ab5d00cfab151c43a6b0bada6508330830f69b407de5f2cd4abd6f80", func := "loop.example/hypersets/laws.FnFoundedIn", spec := "fnFoundedIn", unfollowed := true, recurses := true, apart := false, narrowed := true }
def FnFoundedInUptoSaid : Prop := fnFoundedInUptoRow.holds Try.pinned (OpenSpec.upto fnFoundedInSpec)

/-- 'laws.FnFoundedAll', WHERE WHAT IT READS IS OF BULK AT MOST 1048576: true; the input reads as it did. -/
def fnFoundedAllUptoRow : OpenClaim := { program := "ythhaodjjfofogaa", sum := "7076b529ab5d00cfab151c43a6b0bada6508330830f69b407de5f2cd4abd6f80", func := "loop.example/hypersets/laws.FnFoundedAll", spec := "fnFoundedAll", unfollowed := true, recurses := true, apart := false, narrowed := true }
def FnFoundedAllUptoSaid : Prop := fnFoundedAllUptoRow.holds Try.pinned (OpenSpec.upto fnFoundedAllSpec)

/-- 'laws.FnExactLoopsOf', WHERE WHAT IT READS IS OF BULK AT MOST 1048576: true; the input reads as it did. -/
def fnExactLoopsOfUptoRow : OpenClaim := { program := "ythhaodjjfofogaa", sum := "7076b529ab5d00cfab151c43a6b0bada6508330830f69b407de5f2cd4abd6f80", func := "loop.example/hypersets/laws.FnExactLoopsOf", spec := "fnExactLoopsOf", unfollowed := true, recurses := true, apart := false, narrowed := true }
def FnExactLoopsOfUptoSaid : Prop := fnExactLoopsOfUptoRow.holds Try.pinned (OpenSpec.upto fnExactLoopsOfSpec)

/-- 'laws.FnLoopsOf', WHERE WHAT IT READS IS OF BULK AT MOST 1048576: true; the input reads as it did. -/
def fnLoopsOfUptoRow : OpenClaim := { program := "ythhaodjjfofogaa", sum := "7076b529ab5d00cfab151c43a6b0bada6508330830f69b407de5f2cd4abd6f80", func := "loop.example/hypersets/laws.FnLoopsOf", spec := "fnLoopsOf", unfollowed := true, recurses := true, apart := false, narrowed := true }
def FnLoopsOfUptoSaid : Prop := fnLoopsOfUptoRow.holds Try.pinned (OpenSpec.upto fnLoopsOfSpec)

/-- 'laws.FnExactLoopsCut', WHERE WHAT IT READS IS OF BULK AT MOST 1048576: true; the input reads as it did. -/
def fnExactLoopsCutUptoRow : OpenClaim := { program := "ythhaodjjfofogaa", sum := "7076b529ab5d00cfab151c43a6b0bada6508330830f69b407de5f2cd4abd6f80", func := "loop.example/hypersets/laws.FnExactLoopsCut", spec := "fnExactLoopsCut", unfollowed := true, recurses := true, apart := false, narrowed := true }
def FnExactLoopsCutUptoSaid : Prop := fnExactLoopsCutUptoRow.holds Try.pinned (OpenSpec.upto fnExactLoopsCutSpec)

/-- 'laws.FnLoopsCut', WHERE WHAT IT READS IS OF BULK AT MOST 1048576: true; the input reads as it did. -/
def fnLoopsCutUptoRow : OpenClaim := { program := "ythhaodjjfofogaa", sum := "7076b529ab5d00cfab151c43a6b0bada6508330830f69b407de5f2cd4abd6f80", func := "loop.example/hypersets/laws.FnLoopsCut", spec := "fnLoopsCut", unfollowed := true, recurses := true, apart := false, narrowed := true }
def FnLoopsCutUptoSaid : Prop := fnLoopsCutUptoRow.holds Try.pinned (OpenSpec.upto fnLoopsCutSpec)

/-- 'laws.FnDeepAt', WHERE WHAT IT READS IS OF BULK AT MOST 1048576: true; the input reads as it did. -/
def fnDeepAtUptoRow : OpenClaim := { program := "ythhaodjjfofogaa", sum := "7076b529ab5d00cfab151c43a6b0bada6508330830f69b407de5f2cd4abd6f80", func := "loop.example/hypersets/laws.FnDeepAt", spec := "fnDeepAt", unfollowed := true, recurses := true, apart := false, narrowed := true }
def FnDeepAtUptoSaid : Prop := fnDeepAtUptoRow.holds Try.pinned (OpenSpec.upto fnDeepAtSpec)

end Rows
end Go.Proofs.Ythhaodjjfofogaa
