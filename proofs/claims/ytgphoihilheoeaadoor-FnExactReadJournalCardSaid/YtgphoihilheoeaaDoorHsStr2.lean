/- What calls leave that hand back two structs of two lists, or draw them. -/
import Derived.Test.YtgphoihilheoeaaDoorHsSub
import Derived.Test.YtgphoihilheoeaaDoorHsDraw
set_option linter.unusedVariables false
namespace Go.Hs
theorem OwnedB.nil {α : Type} {X : World → List Nat → Value → α → Prop} {w : World} {e : TypeId} {lo hi : Nat} : OwnedB lo hi (XSl e X) w (.slice none 0 0) [] := ⟨[], List.nodup_nil, (fun _ h => by cases h), [], [], World.ownsRow_nil w 0 e 1, rfl, trivial⟩
theorem own_lit1 {w : World} {e : TypeId} {lo b : Nat} {x : Int} (hb : w.heap[b]? = some (.cells [.int .i64 x].toArray e (0, 0))) (hl : lo ≤ b) : Owned lo (XSl e XInt) w (.slice (some ⟨b, 0, none⟩) 1 1) [x] := Owned.block hb hl rfl (by decide) ⟨⟨rfl, rfl⟩, trivial⟩
theorem own_lit2 {w : World} {e : TypeId} {lo b : Nat} {x y : Int} (hb : w.heap[b]? = some (.cells [.int .i64 x, .int .i64 y].toArray e (0, 0))) (hl : lo ≤ b) : Owned lo (XSl e XInt) w (.slice (some ⟨b, 0, none⟩) 2 2) [x, y] := Owned.block hb hl rfl (by decide) ⟨⟨rfl, rfl⟩, ⟨rfl, rfl⟩, trivial⟩
theorem opv_build2 {P : Program} {ρ : Env} {w : World} {ty t : TypeId} {parts : Array (Nat × Operand)} {z1 z2 v1 v2 : Value} (hF : Flat P t [z1, z2]) (hp : parts.toList.map (fun p => (p.1, evalE ρ p.2)) = [(0, v1), (1, v2)]) (h1 : isCell v1 = true) (h2 : isCell v2 = true) :
    OpV P (.build t parts) ty ρ w (.agg #[v1, v2]) := opv_build hF hp (by simp [fillF, h1, h2]; rfl)
theorem Moves.off {w w' : World} {v v' : Value} {b : Nat} (M : Moves w v w' v') (hv : v.ownBlock ≠ some b) (hb : b < w.heap.size) : v'.ownBlock ≠ some b := by
  rcases M.2 with h | ⟨g, h, hg⟩
  · rw [h]; exact hv
  · rw [h]; intro e; injection e with e; omega
theorem Moves.offS {w w' : World} {v v' : Value} {b c n k : Nat} (M : Moves w v w' v') (hv : v = .slice (some ⟨c, 0, none⟩) n k) (hc : c ≠ b) (hb : b < w.heap.size) : v'.ownBlock ≠ some b :=
  M.off (by subst hv; simp [Value.ownBlock]; exact hc) hb
theorem OwnedB.wroteOff {w w' : World} {v : Value} {xs : List Int} {e : TypeId} {lo hi b : Nat} (h : OwnedB lo hi (XSl e XInt) w v xs) (hv : v.ownBlock ≠ some b) (K : ∀ k, k ≠ b → w'.heap[k]? = w.heap[k]?) : OwnedB lo hi (XSl e XInt) w' v xs := by
  obtain ⟨fp, h1, h2, cs, fps, h3, rfl, h5⟩ := h
  have hf := XInt_flat2 h5
  have h0 : ∀ k ∈ v.ownBlock.toList ++ fps.flatten, w'.heap[k]? = w.heap[k]? := fun k hk => K k (by
    rintro rfl
    rw [hf, List.append_nil] at hk
    cases hv' : v.ownBlock with
    | none => rw [hv'] at hk; simp at hk
    | some c => rw [hv'] at hk hv; simp at hk; subst hk; exact hv rfl)
  exact ⟨_, h1, h2, Loc.loc (X := XSl e XInt) h0 ⟨cs, fps, h3, rfl, h5⟩⟩
/-- two structs of two lists of the call's own, the second's data behind the first's -/
def RetS22 (w : World) (e : TypeId) (xs ys xs' ys' : List Int) : Value → World → Prop := fun v w' => ∃ u1 u2 q1 q2 m, v = .tuple #[.agg #[u1, u2], .agg #[q1, q2]] ∧ Ext w w' ∧ OwnedB w.heap.size m (XSl e XInt) w' u1 xs ∧ OwnedB w.heap.size m (XSl e XInt) w' u2 ys ∧ (u1.ownBlock ≠ u2.ownBlock ∨ u1.ownBlock = none) ∧ Owned m (XSl e XInt) w' q1 xs' ∧ Owned m (XSl e XInt) w' q2 ys' ∧ (q1.ownBlock ≠ q2.ownBlock ∨ q1.ownBlock = none) ∧ w.heap.size ≤ m ∧ m ≤ w'.heap.size
/-- a struct drawn beside a reader -/
def RetDS (w0 w : World) (br m : Nat) (e : TypeId) (p : List Int → List Int → Prop) : Value → World → Prop := fun v w' => ∃ u1 u2 xs ys, v = .agg #[u1, u2] ∧ w.grownBy w' (some br) ∧ Rdr w0 w' br m ∧ Owned w.heap.size (XSl e XInt) w' u1 xs ∧ Owned w.heap.size (XSl e XInt) w' u2 ys ∧ p xs ys
/-- a struct drawn -/
def RetE1 (w : World) (e : TypeId) (p : List Int → List Int → Prop) : Value → World → Prop := fun v w' => ∃ u1 u2 xs ys, v = .agg #[u1, u2] ∧ Ext w w' ∧ Owned w.heap.size (XSl e XInt) w' u1 xs ∧ Owned w.heap.size (XSl e XInt) w' u2 ys ∧ p xs ys
/-- a struct and a number drawn -/
def RetE1z (w : World) (e : TypeId) (p : List Int → List Int → Int → Prop) : Value → World → Prop := fun v w' => ∃ u1 u2 z xs ys, v = .tuple #[.agg #[u1, u2], .int .i64 z] ∧ Ext w w' ∧ Owned w.heap.size (XSl e XInt) w' u1 xs ∧ Owned w.heap.size (XSl e XInt) w' u2 ys ∧ p xs ys z
/-- a number and a struct drawn -/
def RetEz1 (w : World) (e : TypeId) (p : Int → List Int → List Int → Prop) : Value → World → Prop := fun v w' => ∃ z u1 u2 xs ys, v = .tuple #[.int .i64 z, .agg #[u1, u2]] ∧ Ext w w' ∧ Owned w.heap.size (XSl e XInt) w' u1 xs ∧ Owned w.heap.size (XSl e XInt) w' u2 ys ∧ p z xs ys
/-- two structs drawn -/
def RetE2 (w : World) (e : TypeId) (p : List Int → List Int → Prop) : Value → World → Prop := fun v w' => ∃ u1 u2 q1 q2 xs ys xs' ys', v = .tuple #[.agg #[u1, u2], .agg #[q1, q2]] ∧ Ext w w' ∧ Owned w.heap.size (XSl e XInt) w' u1 xs ∧ Owned w.heap.size (XSl e XInt) w' u2 ys ∧ Owned w.heap.size (XSl e XInt) w' q1 xs' ∧ Owned w.heap.size (XSl e XInt) w' q2 ys' ∧ p xs ys ∧ p xs' ys'
end Go.Hs
