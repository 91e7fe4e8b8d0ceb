/- Parts of slices. -/
import Derived.Test.YtgphoihilheoeaaDoorHsStr
set_option linter.unusedVariables false
namespace Go.Hs
section
variable {α : Type} {X : World → List Nat → Value → α → Prop} {w : World} {lo hi b o n c c' k : Nat} {e : TypeId}
theorem XAll_take : ∀ (k : Nat) {fs : List (List Nat)} {cs : List Value} {xs : List α}, XAll X w fs cs xs → XAll X w (fs.take k) (cs.take k) (xs.take k)
  | 0, fs, cs, xs, _ => by simp [XAll]
  | k + 1, f :: fs, c :: cs, x :: xs, h => ⟨h.1, XAll_take k h.2⟩
  | k + 1, [], [], [], _ => trivial
  | _ + 1, [], _ :: _, _, h => h.elim
  | _ + 1, [], [], _ :: _, h => h.elim
  | _ + 1, _ :: _, [], _, h => h.elim
  | _ + 1, _ :: _, _ :: _, [], h => h.elim
theorem XInt_flat' : ∀ {fs : List (List Nat)} {cs : List Value} {xs : List Int}, XAll XInt w fs cs xs → fs.flatten = []
  | [], _, _, _ => rfl
  | f :: fs, c :: cs, x :: xs, h => by rw [List.flatten_cons, h.1.1, XInt_flat' h.2]; rfl
  | _ :: _, [], _, h => h.elim
  | _ :: _, _ :: _, [], h => h.elim
theorem OwnedB.pre {xs : List Int} (h : OwnedB lo hi (XSl e XInt) w (.slice (some ⟨b, 0, none⟩) n c) xs) (hk : k ≤ n) : OwnedB lo hi (XSl e XInt) w (.slice (some ⟨b, 0, none⟩) k c) (xs.take k) := by
  obtain ⟨fp, h1, h2, cs, fps, h3, rfl, h5⟩ := h
  have hf := XInt_flat' h5
  have hf2 := XInt_flat' (XAll_take k h5)
  obtain ⟨h4, h6⟩ := h3
  rcases h6 with ⟨h7, _⟩ | ⟨g, cap, cur, h7, h8, h9, h10, h11, h12, h13⟩
  · cases h7
  · injection h7 with e1 e2 e3
    injection e1 with e1
    injection e1 with e1 _ _
    subst e1 e2 e3
    refine ⟨_, h1, h2, cs.take k, fps.take k, ⟨?_, .inr ⟨b, c, cur, ?_, h8, h9, by rw [List.length_take]; omega, h11, h12, ?_⟩⟩, by rw [hf, hf2]; rfl, XAll_take k h5⟩
    · rw [List.length_take, List.length_take, h4]; omega
    · rw [List.length_take, Nat.min_eq_left (by omega)]
    · rw [List.length_take, ← h13, List.take_take, Nat.mul_one, Nat.mul_one, Nat.min_eq_left (by omega)]
theorem OwnedB.preA {pa : Option Addr} {xs : List Int} (h : OwnedB lo hi (XSl e XInt) w (.slice pa n c) xs) (hk : k ≤ n) : OwnedB lo hi (XSl e XInt) w (.slice pa k c) (xs.take k) := by
  obtain ⟨fp, h1, h2, cs, fps, h3, rfl, h5⟩ := id h
  rcases h3.2 with ⟨h7, h8⟩ | ⟨g, cap, cur, h7, _⟩
  · injection h7 with e1 e2 e3
    subst e1 e2 e3
    obtain rfl : k = 0 := by omega
    rw [List.take_of_length_le (by omega)]; exact h
  · injection h7 with e1 e2 e3
    subst e1
    exact OwnedB.pre h hk
theorem own_rng {v : Value} {xs : List α} (h : OwnedB lo hi (XSl e X) w v xs) (hv : v.ownBlock = some k) : lo ≤ k ∧ k < hi := by
  obtain ⟨fp, h1, h2, cs, fps, h3, rfl, h5⟩ := h
  exact h2 k (by simp [hv])
theorem Ints_drop {xs : List Int} (h : ESl EInt w (.slice (some ⟨b, o, none⟩) n c) xs) (hk : k ≤ n) : ESl EInt w (.slice (some ⟨b, o + k, none⟩) (n - k) c') (xs.drop k) := by
  obtain ⟨a, c1, e1, hle, hr⟩ := h
  injection e1 with e1 e2 e3
  subst e1 e2
  refine ⟨some ⟨b, o + k, none⟩, c', by rw [List.length_drop], by rw [List.length_drop]; omega, ?_⟩
  rcases hr with rfl | ⟨b', o', e4, hr⟩
  · exact .inl (by simp)
  · injection e4 with e4
    injection e4 with e4 e5 _
    subst e4 e5
    refine .inr ⟨b, o + k, rfl, fun i hi => ?_⟩
    rw [List.length_drop] at hi
    obtain ⟨u, h1, h2⟩ := hr (k + i) (by omega)
    refine ⟨u, ?_, ?_⟩
    · rw [show o + k + i = o + (k + i) by omega]; exact h1
    · rw [List.getElem_drop]; exact h2
theorem Ints_take {xs : List Int} (h : ESl EInt w (.slice (some ⟨b, o, none⟩) n c) xs) (hk : k ≤ n) : ESl EInt w (.slice (some ⟨b, o, none⟩) k c') (xs.take k) := by
  obtain ⟨a, c1, e1, hle, hr⟩ := h
  injection e1 with e1 e2 e3
  subst e1 e2
  refine ⟨some ⟨b, o, none⟩, c', by rw [List.length_take, Nat.min_eq_left hk], by rw [List.length_take]; omega, ?_⟩
  rcases hr with rfl | ⟨b', o', e4, hr⟩
  · exact .inl (by simp)
  · injection e4 with e4
    injection e4 with e4 e5 _
    subst e4 e5
    refine .inr ⟨b, o, rfl, fun i hi => ?_⟩
    rw [List.length_take] at hi
    obtain ⟨u, h1, h2⟩ := hr i (by omega)
    exact ⟨u, h1, by rw [List.getElem_take]; exact h2⟩
end
/-- In the midst: what a piece of code leaves, told anew. -/
theorem W_mid {α : Type} {P : Program} {n : Nat} {c : Code} {N : Env → World → Prop} {X : Nat → Env → World → Prop} {R : Env → World → Prop} {ρ : Env} {w : World} (D : List Nat) (S : α → List (Nat × Value)) (I : α → World → Prop)
    (h : W P n c (fun ρ' w' => ∃ x', Slots ρ' (S x') ∧ Same D ρ ρ' ∧ I x' w') X R ρ w) (h2 : ∀ (x : α) (ρj : Env) (w' : World), I x w' → N (upds (mix D ρj ρ) (S x)) w') : W P n c N X R ρ w := by
  unfold W at *
  intro a ha
  refine Go.wp_mono (h a ha) fun e a w q => ?_
  cases e with
  | normal =>
    obtain ⟨ρ', hR, x', hS, hD, hI⟩ := q
    refine ⟨ρ', hR, ?_⟩
    have := h2 x' ρ' w hI
    rw [mix_same hD, upds_self hS] at this; exact this
  | ret => exact q
  | exit i => exact q
  | goto l => exact q
  | panic ch => exact q
  | outgrown => exact q
end Go.Hs
