/- A truth value known ahead; a block beside a slice that is appended to. -/
import Derived.Test.YtgphoihilheoeaaDoorHsStr2
namespace Go.Hs
section
variable {P : Program} {op : Op} {ty : TypeId} {ρ : Env} {w : World} {b : Bool}
theorem opv_bt (h : OpV P op ty ρ w (.bool b)) (e : b = true) : OpV P op ty ρ w (.bool true) := e ▸ h
theorem opv_bf (h : OpV P op ty ρ w (.bool b)) (e : b = false) : OpV P op ty ρ w (.bool false) := e ▸ h
end
theorem Blk.movesOff {w w' : World} {v v' : Value} {b : Nat} {cs : List Value} (h : Blk w b cs) (M : Moves w v w' v') (hv : v.ownBlock ≠ some b) : Blk w' b cs :=
  h.of_heap (M.1.block b h.lt fun e => hv e.symm)
/-- What a call leaves that hands back data of its own, and a truth value. -/
def RetOB {α : Type} (w : World) (X : World → List Nat → Value → α → Prop) (x : α) (b : Bool) : Value → World → Prop := fun v w' => ∃ u, v = .tuple #[u, .bool b] ∧ Ext w w' ∧ Owned w.heap.size X w' u x
end Go.Hs
