/- Deeds and their texts, journals: no program in sight. -/
import Derived.Test.YtgphoihilheoeaaDoorHsPut
set_option linter.unusedVariables false
set_option linter.unusedSimpArgs false
namespace Go.Hs
open Classical
structure Deed where
  kind : Int
  text : List UInt8
  node : Int
deriving DecidableEq
def sSingle : List UInt8 := [115, 105, 110, 103, 108, 101]
def sBack : List UInt8 := [98, 97, 99, 107]
def sInto : List UInt8 := [105, 110, 116, 111, 32]
def sAdd : List UInt8 := [97, 100, 100, 32]
def sDrop : List UInt8 := [100, 114, 111, 112, 32]
section
variable {p q : List (List Int)} {a b : Deed} {s l : List UInt8}
/-- the text of a deed -/
noncomputable def dtV (a : Deed) : List UInt8 :=
  if a.kind = 0 ∧ a.text = [] ∧ a.node = 0 then sSingle
  else if a.kind = 4 ∧ a.text = [] ∧ a.node = 0 then sBack
  else if a.kind = 3 ∧ a.text = [] ∧ 0 ≤ a.node ∧ a.node ≤ 9 then sInto ++ [dig a.node.toNat]
  else if a.node = 0 ∧ (rdP a.text).isSome then (if a.kind = 1 then sAdd ++ a.text else if a.kind = 2 then sDrop ++ a.text else [])
  else []
theorem dtV_single : dtV ⟨0, [], 0⟩ = sSingle := if_pos ⟨rfl, rfl, rfl⟩
theorem dtV_back : dtV ⟨4, [], 0⟩ = sBack := by
  unfold dtV
  rw [if_neg (by simp), if_pos ⟨rfl, rfl, rfl⟩]
theorem dtV_into {d : Nat} (h : d ≤ 9) : dtV ⟨3, [], (d : Int)⟩ = sInto ++ [dig d] := by
  unfold dtV
  rw [if_neg (by simp), if_neg (by simp), if_pos ⟨rfl, rfl, Int.natCast_nonneg _, by simp only; omega⟩]
  rfl
theorem dtV_add (hp : Pic p) : dtV ⟨1, txt p, 0⟩ = sAdd ++ txt p := by
  unfold dtV
  rw [if_neg (by simp), if_neg (by simp), if_neg (by simp), if_pos ⟨rfl, by rw [rdP_txt hp]; rfl⟩, if_pos rfl]
theorem dtV_drop (hp : Pic p) : dtV ⟨2, txt p, 0⟩ = sDrop ++ txt p := by
  unfold dtV
  rw [if_neg (by simp), if_neg (by simp), if_neg (by simp), if_pos ⟨rfl, by rw [rdP_txt hp]; rfl⟩, if_neg (by simp), if_pos rfl]
/-- the deeds that have a text -/
inductive Told : Deed → Prop
  | single : Told ⟨0, [], 0⟩
  | back : Told ⟨4, [], 0⟩
  | into (d : Nat) (h : d ≤ 9) : Told ⟨3, [], (d : Int)⟩
  | add (p : List (List Int)) (h : Pic p) : Told ⟨1, txt p, 0⟩
  | drop (p : List (List Int)) (h : Pic p) : Told ⟨2, txt p, 0⟩
theorem told_of (h : dtV a ≠ []) : Told a := by
  obtain ⟨k, t, n⟩ := a
  unfold dtV at h
  simp only at h
  split at h
  · rename_i h1; obtain ⟨rfl, rfl, rfl⟩ := h1; exact .single
  split at h
  · rename_i h1; obtain ⟨rfl, rfl, rfl⟩ := h1; exact .back
  split at h
  · rename_i h1
    obtain ⟨rfl, rfl, h2, h3⟩ := h1
    obtain ⟨d, rfl⟩ := Int.eq_ofNat_of_zero_le h2
    exact .into d (by omega)
  split at h
  · rename_i h1
    obtain ⟨rfl, h2⟩ := h1
    obtain ⟨p, hp⟩ := Option.isSome_iff_exists.1 h2
    obtain ⟨h3, rfl⟩ := rdP_some hp
    split at h
    · rename_i h4; subst h4; exact .add p h3
    split at h
    · rename_i h4; subst h4; exact .drop p h3
    · exact absurd rfl h
  · exact absurd rfl h
theorem Told.ne (h : Told a) : dtV a ≠ [] := by
  cases h with
  | single => rw [dtV_single]; simp [sSingle]
  | back => rw [dtV_back]; simp [sBack]
  | into d h => rw [dtV_into h]; simp
  | add p h => rw [dtV_add h]; simp [sAdd]
  | drop p h => rw [dtV_drop h]; simp [sDrop]
theorem dtV_inj (ha : dtV a ≠ []) (h : dtV a = dtV b) : a = b := by
  have hb : dtV b ≠ [] := by rw [← h]; exact ha
  have h1 := told_of ha
  have h2 := told_of hb
  clear ha hb
  cases h1 with
  | single =>
    rw [dtV_single] at h
    cases h2 with
    | single => rfl
    | back => rw [dtV_back] at h; simp [sSingle, sBack] at h
    | into d hd => rw [dtV_into hd] at h; simp [sSingle, sInto] at h
    | add p hp => rw [dtV_add hp] at h; simp [sSingle, sAdd] at h
    | drop p hp => rw [dtV_drop hp] at h; simp [sSingle, sDrop] at h
  | back =>
    rw [dtV_back] at h
    cases h2 with
    | single => rw [dtV_single] at h; simp [sSingle, sBack] at h
    | back => rfl
    | into d hd => rw [dtV_into hd] at h; simp [sBack, sInto] at h
    | add p hp => rw [dtV_add hp] at h; simp [sBack, sAdd] at h
    | drop p hp => rw [dtV_drop hp] at h; simp [sBack, sDrop] at h
  | into d hd =>
    rw [dtV_into hd] at h
    cases h2 with
    | single => rw [dtV_single] at h; simp [sSingle, sInto] at h
    | back => rw [dtV_back] at h; simp [sInto, sBack] at h
    | into d' hd' =>
      rw [dtV_into hd'] at h
      have := List.append_cancel_left h
      simp only [List.cons.injEq, and_true] at this
      rw [dig_inj (by omega) (by omega) this]
    | add p hp => rw [dtV_add hp] at h; simp [sInto, sAdd] at h
    | drop p hp => rw [dtV_drop hp] at h; simp [sInto, sDrop] at h
  | add p hp =>
    rw [dtV_add hp] at h
    cases h2 with
    | single => rw [dtV_single] at h; simp [sSingle, sAdd] at h
    | back => rw [dtV_back] at h; simp [sAdd, sBack] at h
    | into d' hd' => rw [dtV_into hd'] at h; simp [sAdd, sInto] at h
    | add p hp => rw [dtV_add hp] at h; rw [List.append_cancel_left h]
    | drop p hp => rw [dtV_drop hp] at h; simp [sAdd, sDrop] at h
  | drop p hp =>
    rw [dtV_drop hp] at h
    cases h2 with
    | single => rw [dtV_single] at h; simp [sSingle, sDrop] at h
    | back => rw [dtV_back] at h; simp [sDrop, sBack] at h
    | into d' hd' => rw [dtV_into hd'] at h; simp [sDrop, sInto] at h
    | add p hp => rw [dtV_add hp] at h; simp [sAdd, sDrop] at h
    | drop p hp => rw [dtV_drop hp] at h; rw [List.append_cancel_left h]
/-- bytes of texts of pictures -/
theorem txt_bytes (hp : Gr p) {c : UInt8} (hc : c ∈ txt p) : 47 ≤ c.toNat ∧ c.toNat ≤ 58 := by
  have key : ∀ (l : List (List UInt8)), (∀ x ∈ l, ∀ c ∈ x, 47 ≤ c.toNat ∧ c.toNat ≤ 58) → ∀ c ∈ joinB 47 l, 47 ≤ c.toNat ∧ c.toNat ≤ 58 := by
    intro l h c hc
    cases l with
    | nil => cases hc
    | cons x l =>
      unfold joinB at hc
      rcases List.mem_append.1 hc with hc | hc
      · exact h x (by simp) c hc
      · obtain ⟨y, hy, hc⟩ := List.mem_flatMap.1 hc
        rcases List.mem_cons.1 hc with rfl | hc
        · decide
        · exact h y (by simp [hy]) c hc
  refine key _ (fun x hx c hc => ?_) c hc
  obtain ⟨r, hr, rfl⟩ := List.mem_map.1 hx
  obtain ⟨j, hj, rfl⟩ := List.mem_map.1 hc
  have h1 := (mem_arrR.1 hj).1
  rw [(hp.2.2 r hr).1] at h1
  have := hp.2.1
  rw [dig_toNat (by omega)]; omega
theorem txt_no (hp : Gr p) {c : UInt8} (h : c.toNat < 47) : c ∉ txt p := fun hm => by have := txt_bytes hp hm; omega
/-- no newline in it -/
theorem dtV_no10 (a : Deed) : (10 : UInt8) ∉ dtV a := by
  by_cases ha : dtV a = []
  · rw [ha]; simp
  · cases told_of ha with
    | single => rw [dtV_single]; decide
    | back => rw [dtV_back]; decide
    | into d h =>
      rw [dtV_into h]
      intro hm
      rcases List.mem_append.1 hm with hm | hm
      · revert hm; decide
      · simp only [List.mem_singleton] at hm
        have := congrArg UInt8.toNat hm
        rw [dig_toNat (by omega)] at this
        have e : (10 : UInt8).toNat = 10 := rfl
        omega
    | add p h =>
      rw [dtV_add h]
      intro hm
      rcases List.mem_append.1 hm with hm | hm
      · revert hm; decide
      · exact txt_no h.gr (by decide) hm
    | drop p h =>
      rw [dtV_drop h]
      intro hm
      rcases List.mem_append.1 hm with hm | hm
      · revert hm; decide
      · exact txt_no h.gr (by decide) hm
theorem dtV_len (a : Deed) : (dtV a).length ≤ 210 := by
  by_cases ha : dtV a = []
  · rw [ha]; simp
  · cases told_of ha with
    | single => rw [dtV_single]; decide
    | back => rw [dtV_back]; decide
    | into d h => rw [dtV_into h]; simp [sInto]
    | add p h => rw [dtV_add h]; have := txt_len h.gr; simp [sAdd]; omega
    | drop p h => rw [dtV_drop h]; have := txt_len h.gr; simp [sDrop]; omega
/-- the deed of a text -/
noncomputable def rdD (s : List UInt8) : Option Deed := if h : ∃ a, dtV a = s ∧ s ≠ [] then some (Classical.choose h) else none
theorem rdD_eq (h : dtV a = s) (hs : s ≠ []) : rdD s = some a := by
  have hx : ∃ a, dtV a = s ∧ s ≠ [] := ⟨a, h, hs⟩
  unfold rdD
  rw [dif_pos hx]
  have := Classical.choose_spec hx
  exact congrArg some (dtV_inj (by rw [this.1]; exact this.2) (this.1.trans h.symm))
theorem rdD_some (h : rdD s = some a) : dtV a = s ∧ s ≠ [] := by
  unfold rdD at h
  split at h
  · rename_i hx
    have := Classical.choose_spec hx
    rw [← Option.some.inj h]; exact this
  · cases h
theorem rdD_none (h : ∀ a, Told a → dtV a ≠ s) : rdD s = none := by
  refine dif_neg fun ⟨a, h1, h2⟩ => h a (told_of (by rw [h1]; exact h2)) h1
theorem rdD_told (h : rdD s = some a) : Told a := told_of (by rw [(rdD_some h).1]; exact (rdD_some h).2)

/-- the text of a journal -/
noncomputable def jtV (l : List Deed) : List UInt8 := if ∀ a ∈ l, dtV a ≠ [] then l.flatMap fun a => dtV a ++ [10] else []
/-- what is read of lines: the last piece is none -/
noncomputable def rjP : List (List UInt8) → List Deed × Nat
  | [] => ([], 0)
  | [_] => ([], 0)
  | x :: y :: r => match rdD x with
    | none => ([], 0)
    | some a => (a :: (rjP (y :: r)).1, x.length + 1 + (rjP (y :: r)).2)
noncomputable def rjV (s : List UInt8) : List Deed × Nat := rjP (cutB 10 s)
theorem rjV_one (h : (10 : UInt8) ∉ s) : rjV s = ([], 0) := by unfold rjV; rw [cutB_one h]; rfl
theorem rjV_line {x r : List UInt8} (h : (10 : UInt8) ∉ x) : rjV (x ++ 10 :: r) = match rdD x with
    | none => ([], 0)
    | some a => (a :: (rjV r).1, x.length + 1 + (rjV r).2) := by
  unfold rjV
  rw [cutB_app h]
  cases hc : cutB 10 r with
  | nil => exact absurd hc (cutB_ne r)
  | cons y ys => rfl
/-- a text falls into lines -/
theorem line_ind (s : List UInt8) : (10 : UInt8) ∉ s ∨ ∃ x r, s = x ++ 10 :: r ∧ (10 : UInt8) ∉ x := by
  induction s with
  | nil => left; simp
  | cons c s ih =>
    by_cases hc : c = 10
    · right; exact ⟨[], s, by rw [hc]; rfl, by simp⟩
    · rcases ih with h | ⟨x, r, e, hx⟩
      · left
        simp only [List.mem_cons, not_or]
        exact ⟨fun e => hc e.symm, h⟩
      · right
        refine ⟨c :: x, r, by rw [e]; rfl, ?_⟩
        simp only [List.mem_cons, not_or]
        exact ⟨fun e => hc e.symm, hx⟩
theorem rjV_ok : ∀ (n : Nat) (s : List UInt8), s.length ≤ n → (∀ a ∈ (rjV s).1, dtV a ≠ []) ∧ (rjV s).2 ≤ s.length ∧ s.take (rjV s).2 = (rjV s).1.flatMap fun a => dtV a ++ [10] := by
  intro n
  induction n with
  | zero =>
    intro s hs
    have : s = [] := List.eq_nil_of_length_eq_zero (by omega)
    subst this
    rw [rjV_one (by simp)]
    simp
  | succ n ih =>
    intro s hs
    rcases line_ind s with h | ⟨x, r, rfl, hx⟩
    · rw [rjV_one h]; simp
    · rw [rjV_line hx]
      cases hd : rdD x with
      | none => simp
      | some a =>
        simp only
        obtain ⟨h1, h2, h3⟩ := ih r (by simp at hs; omega)
        have h4 := rdD_some hd
        refine ⟨fun b hb => ?_, by simp; omega, ?_⟩
        · rcases List.mem_cons.1 hb with rfl | hb
          · rw [h4.1]; exact h4.2
          · exact h1 b hb
        · rw [List.flatMap_cons, ← h3, h4.1]
          rw [show x ++ 10 :: r = (x ++ [10]) ++ r by simp, List.take_append]
          rw [List.take_of_length_le (by simp only [List.length_append, List.length_cons, List.length_nil]; omega)]
          congr 2
          simp only [List.length_append, List.length_cons, List.length_nil]; omega
theorem jtV_rjV (s : List UInt8) : jtV (rjV s).1 = s.take (rjV s).2 := by
  obtain ⟨h1, _, h3⟩ := rjV_ok _ s (Nat.le_refl _)
  unfold jtV
  rw [if_pos h1, h3]
theorem rjV_jtV {l : List Deed} (h : ∀ a ∈ l, dtV a ≠ []) : rjV (l.flatMap fun a => dtV a ++ [10]) = (l, (l.flatMap fun a => dtV a ++ [10]).length) := by
  induction l with
  | nil => exact rjV_one (by simp)
  | cons a l ih =>
    have := ih (fun b hb => h b (by simp [hb]))
    rw [List.flatMap_cons, show dtV a ++ [10] ++ (l.flatMap fun a => dtV a ++ [10]) = dtV a ++ 10 :: (l.flatMap fun a => dtV a ++ [10]) by simp, rjV_line (dtV_no10 a), rdD_eq rfl (h a (by simp)), this]
    simp
    omega
/-- of a beginning the first ones are read -/
theorem rjV_take : ∀ (n : Nat) (s : List UInt8) (k : Nat), s.length ≤ n → k ≤ s.length → (rjV (s.take k)).1 <+: (rjV s).1 ∧ (rjV (s.take k)).2 ≤ k := by
  intro n
  induction n with
  | zero =>
    intro s k hs hk
    have : s = [] := List.eq_nil_of_length_eq_zero (by omega)
    subst this
    simp
    have e : k = 0 := by simpa using hk
    subst e
    rw [rjV_one (by simp)]; simp
  | succ n ih =>
    intro s k hs hk
    have hle := (rjV_ok _ (s.take k) (Nat.le_refl _)).2.1
    rw [List.length_take, Nat.min_eq_left hk] at hle
    refine ⟨?_, hle⟩
    rcases line_ind s with h | ⟨x, r, rfl, hx⟩
    · rw [rjV_one h, rjV_one (fun hm => h (List.mem_of_mem_take hm))]; simp
    · by_cases hk2 : k ≤ x.length
      · rw [List.take_append_of_le_length hk2, rjV_one (fun hm => hx (List.mem_of_mem_take hm))]
        exact List.nil_prefix
      · have e : (x ++ 10 :: r).take k = x ++ 10 :: r.take (k - x.length - 1) := by
          rw [List.take_append, List.take_of_length_le (by omega)]
          congr 1
          rw [show k - x.length = (k - x.length - 1) + 1 by omega]
          simp
        rw [e, rjV_line hx, rjV_line hx]
        cases hd : rdD x with
        | none => simp
        | some a =>
          simp only
          have := (ih r (k - x.length - 1) (by simp at hs; omega) (by simp at hk; omega)).1
          exact (List.prefix_cons_inj a).2 this
end
end Go.Hs
