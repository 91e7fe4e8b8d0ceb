/- Texts cut and joined, and texts of pictures: no program in sight. -/
import Derived.Test.YtgphoihilheoeaaDoorHsBisG
import Derived.Test.YtgphoihilheoeaaDoorHsOps
set_option linter.unusedVariables false
set_option linter.unusedSimpArgs false
namespace Go.Hs
section
variable {s : UInt8} {l r x : List UInt8} {ps qs : List (List UInt8)}
/-- what stands between the bytes s -/
def cutB (s : UInt8) : List UInt8 → List (List UInt8)
  | [] => [[]]
  | c :: l => if c = s then [] :: cutB s l else match cutB s l with
    | [] => [[c]]
    | x :: xs => (c :: x) :: xs
/-- put together, with s between them -/
def joinB (s : UInt8) : List (List UInt8) → List UInt8
  | [] => []
  | x :: xs => x ++ xs.flatMap fun y => s :: y
theorem cutB_cons (c : UInt8) (l : List UInt8) : cutB s (c :: l) = if c = s then [] :: cutB s l else match cutB s l with
    | [] => [[c]]
    | x :: xs => (c :: x) :: xs := rfl
theorem cutB_ne : ∀ (l : List UInt8), cutB s l ≠ []
  | [] => by simp [cutB]
  | c :: l => by
    unfold cutB
    split
    · simp
    · split <;> simp
theorem cutB_snoc (c : UInt8) : ∀ (l : List UInt8) (ps : List (List UInt8)) (x : List UInt8), cutB s l = ps ++ [x] → cutB s (l ++ [c]) = if c = s then ps ++ [x, []] else ps ++ [x ++ [c]] := by
  intro l
  induction l with
  | nil =>
    intro ps x h
    have : ps = [] ∧ x = [] := by
      cases ps with
      | nil => simpa [cutB] using h.symm
      | cons a b => simp [cutB] at h
    obtain ⟨rfl, rfl⟩ := this
    by_cases hc : c = s <;> simp [cutB, hc]
  | cons d l ih =>
    intro ps x h
    rw [List.cons_append]
    unfold cutB at h ⊢
    by_cases hd : d = s
    · rw [if_pos hd] at h ⊢
      cases ps with
      | nil => simp only [List.nil_append, List.cons.injEq] at h; exact absurd h.2 (cutB_ne l)
      | cons a ps =>
        simp only [List.cons_append, List.cons.injEq] at h
        rw [ih ps x h.2, ← h.1]
        split <;> simp
    · rw [if_neg hd] at h ⊢
      cases hl : cutB s l with
      | nil => exact absurd hl (cutB_ne l)
      | cons y ys =>
        rw [hl] at h
        simp only at h
        cases ps with
        | nil =>
          simp only [List.nil_append, List.cons.injEq] at h
          have := ih [] y (by rw [hl, h.2]; rfl)
          rw [this, ← h.1]
          by_cases hc : c = s <;> simp [hc]
        | cons a ps =>
          simp only [List.cons_append, List.cons.injEq] at h
          have := ih (y :: ps) x (by rw [hl, h.2]; rfl)
          rw [this, ← h.1]
          by_cases hc : c = s <;> simp [hc]
theorem cutB_app (h : s ∉ l) : cutB s (l ++ s :: r) = l :: cutB s r := by
  induction l with
  | nil => simp [cutB]
  | cons c l ih =>
    rw [List.cons_append, cutB_cons, if_neg (fun e => h (by simp [e])), ih (fun hm => h (by simp [hm]))]
theorem cutB_one (h : s ∉ l) : cutB s l = [l] := by
  induction l with
  | nil => rfl
  | cons c l ih =>
    unfold cutB
    rw [if_neg (fun e => h (by simp [e])), ih (fun hm => h (by simp [hm]))]
theorem cutB_join (hne : ps ≠ []) (h : ∀ x ∈ ps, s ∉ x) : cutB s (joinB s ps) = ps := by
  induction ps with
  | nil => exact absurd rfl hne
  | cons x ps ih =>
    cases ps with
    | nil =>
      have : joinB s [x] = x := by simp [joinB]
      rw [this]; exact cutB_one (h x (by simp))
    | cons y ps =>
      have : joinB s (x :: y :: ps) = x ++ s :: joinB s (y :: ps) := by simp [joinB]
      rw [this, cutB_app (h x (by simp)), ih (by simp) (fun z hz => h z (by simp only [List.mem_cons] at hz ⊢; exact .inr hz))]
theorem joinB_cut (l : List UInt8) : joinB s (cutB s l) = l := by
  induction l with
  | nil => rfl
  | cons c l ih =>
    rw [cutB_cons]
    cases hl : cutB s l with
    | nil => exact absurd hl (cutB_ne l)
    | cons y ys =>
      rw [hl] at ih
      split
      · rename_i hc
        subst hc
        have : joinB c ([] :: y :: ys) = c :: joinB c (y :: ys) := by simp [joinB]
        rw [this, ih]
      · have : joinB s ((c :: y) :: ys) = c :: joinB s (y :: ys) := by simp [joinB]
        rw [this, ih]
theorem joinB_snoc (hne : ps ≠ []) : joinB s (ps ++ [x]) = joinB s ps ++ s :: x := by
  cases ps with
  | nil => exact absurd rfl hne
  | cons y ps => simp [joinB]
theorem cutB_mem (l : List UInt8) : ∀ x ∈ cutB s l, s ∉ x := by
  induction l with
  | nil => intro x h; simp [cutB] at h; subst h; simp
  | cons c l ih =>
    intro x h
    rw [cutB_cons] at h
    split at h
    · rcases List.mem_cons.1 h with rfl | h
      · simp
      · exact ih x h
    · rename_i hc
      cases hl : cutB s l with
      | nil => exact absurd hl (cutB_ne l)
      | cons y ys =>
        rw [hl] at h ih
        simp only at h
        rcases List.mem_cons.1 h with rfl | h
        · have := ih y (by simp)
          simp only [List.mem_cons, not_or]
          exact ⟨fun e => hc e.symm, this⟩
        · exact ih x (by simp [h])
theorem cutB_len (l : List UInt8) : (cutB s l).length = l.count s + 1 := by
  induction l with
  | nil => rfl
  | cons c l ih =>
    unfold cutB
    split
    · rename_i hc; subst hc; simp [ih]
    · rename_i hc
      rw [List.count_cons_of_ne hc, ← ih]
      cases hl : cutB s l with
      | nil => exact absurd hl (cutB_ne l)
      | cons y ys => rfl
/-- one more byte looked at -/
theorem cut_step {l : List UInt8} {from_ k : Nat} {ps : List (List UInt8)} (hk : k < l.length) (hf : from_ ≤ k) (h : cutB s (l.take k) = ps ++ [(l.drop from_).take (k - from_)]) :
    (l[k] = s → cutB s (l.take (k + 1)) = (ps ++ [(l.drop from_).take (k - from_)]) ++ [(l.drop (k + 1)).take (k + 1 - (k + 1))]) ∧ (l[k] ≠ s → cutB s (l.take (k + 1)) = ps ++ [(l.drop from_).take (k + 1 - from_)]) := by
  have e : l.take (k + 1) = l.take k ++ [l[k]] := by rw [List.take_succ_eq_append_getElem hk]
  have e2 : (l.drop from_).take (k + 1 - from_) = (l.drop from_).take (k - from_) ++ [l[k]] := by
    rw [show k + 1 - from_ = (k - from_) + 1 by omega, List.take_succ_eq_append_getElem (by simp; omega)]
    simp only [List.getElem_drop]
    congr 3; omega
  have := cutB_snoc (s := s) l[k] _ _ _ h
  rw [e]
  refine ⟨fun hc => ?_, fun hc => ?_⟩
  · rw [this, if_pos hc]; simp
  · rw [this, if_neg hc, e2]
end

/-! ### the order of texts -/
section
open Op
theorem bless_irr : ∀ (a : List UInt8), bytesLess a a = false
  | [] => rfl
  | x :: a => by
    have := bless_irr a
    simp [bytesLess, this]
theorem bless_trans : ∀ (a b c : List UInt8), bytesLess a b = true → bytesLess b c = true → bytesLess a c = true := by
  intro a
  induction a with
  | nil =>
    intro b c h1 h2
    cases b with
    | nil => simp [bytesLess] at h1
    | cons y b =>
      cases c with
      | nil => simp [bytesLess] at h2
      | cons z c => rfl
  | cons x a ih =>
    intro b c h1 h2
    cases b with
    | nil => simp [bytesLess] at h1
    | cons y b =>
      cases c with
      | nil => simp [bytesLess] at h2
      | cons z c =>
        simp only [bytesLess, Bool.or_eq_true, Bool.and_eq_true, decide_eq_true_eq, beq_iff_eq] at h1 h2 ⊢
        rcases h1 with h1 | ⟨rfl, h1⟩
        · rcases h2 with h2 | ⟨rfl, h2⟩
          · exact .inl (UInt8.lt_trans h1 h2)
          · exact .inl h1
        · rcases h2 with h2 | ⟨rfl, h2⟩
          · exact .inl h2
          · exact .inr ⟨rfl, ih b c h1 h2⟩
theorem bless_tri : ∀ (a b : List UInt8), bytesLess a b = false → bytesLess b a = false → a = b := by
  intro a
  induction a with
  | nil =>
    intro b h1 h2
    cases b with
    | nil => rfl
    | cons y b => simp [bytesLess] at h1
  | cons x a ih =>
    intro b h1 h2
    cases b with
    | nil => simp [bytesLess] at h2
    | cons y b =>
      simp only [bytesLess, Bool.or_eq_false_iff, Bool.and_eq_false_iff, decide_eq_false_iff_not, beq_eq_false_iff_ne, ne_eq] at h1 h2
      obtain ⟨h3, h4⟩ := h1
      obtain ⟨h5, h6⟩ := h2
      have e : x = y := UInt8.le_antisymm (UInt8.not_lt.1 h5) (UInt8.not_lt.1 h3)
      subst e
      rw [ih b (h4.resolve_left (fun h => h rfl)) (h6.resolve_left (fun h => h rfl))]
/-- not less, one behind the other -/
theorem bless_ge {a b c : List UInt8} (h1 : bytesLess a b = false) (h2 : bytesLess b c = false) : bytesLess a c = false := by
  cases h : bytesLess a c with
  | false => rfl
  | true =>
    by_cases e : b = a
    · subst e; rw [h] at h2; cases h2
    · cases h3 : bytesLess b a with
      | true => rw [bless_trans _ _ _ h3 h] at h2; cases h2
      | false => exact absurd (bless_tri _ _ h3 h1) e
end

/-! ### texts of pictures -/
section
variable {p q : List (List Int)} {r r' : List Int} {n m : Nat}
def dig (n : Nat) : UInt8 := UInt8.ofNat (48 + n)
theorem dig_toNat (h : n < 200) : (dig n).toNat = 48 + n := by unfold dig; rw [UInt8.toNat_ofNat']; omega
theorem dig_inj (h : n < 200) (h' : m < 200) (e : dig n = dig m) : n = m := by
  have := congrArg UInt8.toNat e
  rw [dig_toNat h, dig_toNat h'] at this; omega
/-- the numbers of the nodes to which there are arrows -/
def txR (r : List Int) : List UInt8 := (arrR r).map dig
/-- the text of a picture -/
def txt (p : List (List Int)) : List UInt8 := joinB 47 (p.map txR)
theorem txR_sep (h : r.length ≤ 100) : (47 : UInt8) ∉ txR r := by
  intro hm
  obtain ⟨j, hj, e⟩ := List.mem_map.1 hm
  have := (mem_arrR.1 hj).1
  have e2 := congrArg UInt8.toNat e
  rw [dig_toNat (by omega)] at e2
  have : (47 : UInt8).toNat = 47 := rfl
  omega
theorem map_inj_on {f : Nat → UInt8} : ∀ {a b : List Nat}, (∀ x ∈ a, ∀ y ∈ b, f x = f y → x = y) → a.map f = b.map f → a = b
  | [], [], _, _ => rfl
  | [], _ :: _, _, h => by simp at h
  | _ :: _, [], _, h => by simp at h
  | x :: a, y :: b, hi, h => by
    simp only [List.map_cons, List.cons.injEq] at h
    rw [hi x (by simp) y (by simp) h.1, map_inj_on (fun x hx y hy => hi x (by simp [hx]) y (by simp [hy])) h.2]
theorem arrR_inj (hl : r.length = r'.length) (h1 : ∀ x ∈ r, x = 0 ∨ x = 1) (h2 : ∀ x ∈ r', x = 0 ∨ x = 1) (h : arrR r = arrR r') : r = r' := by
  refine List.ext_getElem hl fun i hi hi' => ?_
  have h3 := h1 _ (List.getElem_mem hi)
  have h4 := h2 _ (List.getElem_mem hi')
  have e1 : i ∈ arrR r ↔ r[i] = 1 := by rw [mem_arrR, getD_lt hi]; exact ⟨fun h => h.2, fun h => ⟨hi, h⟩⟩
  have e2 : i ∈ arrR r' ↔ r'[i] = 1 := by rw [mem_arrR, getD_lt hi']; exact ⟨fun h => h.2, fun h => ⟨hi', h⟩⟩
  rw [h] at e1
  have := e1.symm.trans e2
  rcases h3 with h3 | h3 <;> rcases h4 with h4 | h4 <;> rw [h3, h4] at this ⊢ <;> simp at this
theorem txR_inj (hl : r.length = r'.length) (hr : r.length ≤ 100) (h1 : ∀ x ∈ r, x = 0 ∨ x = 1) (h2 : ∀ x ∈ r', x = 0 ∨ x = 1) (h : txR r = txR r') : r = r' := by
  refine arrR_inj hl h1 h2 (map_inj_on (fun x hx y hy e => ?_) h)
  have := (mem_arrR.1 hx).1
  have := (mem_arrR.1 hy).1
  exact dig_inj (by omega) (by omega) e
theorem cut_txt (hp : Gr p) : cutB 47 (txt p) = p.map txR := by
  refine cutB_join (by have := hp.1; intro h; simp at h; subst h; simp at this) fun x hx => ?_
  obtain ⟨r, hr, rfl⟩ := List.mem_map.1 hx
  exact txR_sep (by rw [(hp.2.2 r hr).1]; have := hp.2.1; omega)
theorem txt_inj (hp : Gr p) (hq : Gr q) (h : txt p = txt q) : p = q := by
  have e : p.map txR = q.map txR := by rw [← cut_txt hp, ← cut_txt hq, h]
  have hl : p.length = q.length := by simpa using congrArg List.length e
  refine List.ext_getElem hl fun i hi hi' => ?_
  have h1 := hp.2.2 _ (List.getElem_mem hi)
  have h2 := hq.2.2 _ (List.getElem_mem hi')
  have := hp.2.1
  refine txR_inj (by rw [h1.1, h2.1, hl]) (by rw [h1.1]; omega) h1.2 h2.2 ?_
  have := congrArg (fun l => l[i]?) e
  simpa [hi, hi'] using this
theorem txR_len (r : List Int) : (txR r).length ≤ r.length := by unfold txR; rw [List.length_map]; exact arrR_len r
theorem txt_len (hp : Gr p) : (txt p).length ≤ 200 := by
  have key : ∀ (l : List (List UInt8)) (n : Nat), (∀ x ∈ l, x.length ≤ n) → (joinB 47 l).length ≤ l.length * (n + 1) := by
    intro l n h
    cases l with
    | nil => simp [joinB]
    | cons x l =>
      have : ∀ (l : List (List UInt8)), (∀ x ∈ l, x.length ≤ n) → (l.flatMap fun y => (47 : UInt8) :: y).length ≤ l.length * (n + 1) := by
        intro l
        induction l with
        | nil => intro _; simp
        | cons y l ih =>
          intro h
          have h1 := ih (fun x hx => h x (by simp [hx]))
          have h2 := h y (by simp)
          simp only [List.flatMap_cons, List.length_append, List.length_cons, Nat.succ_mul] at *
          omega
      have h1 := this l (fun x hx => h x (by simp [hx]))
      have h2 := h x (by simp)
      simp only [joinB, List.length_append, List.length_cons, Nat.succ_mul] at *
      omega
  have h1 := key (p.map txR) p.length (fun x hx => by
    obtain ⟨r, hr, rfl⟩ := List.mem_map.1 hx
    have := txR_len r
    rw [(hp.2.2 r hr).1] at this; exact this)
  rw [List.length_map] at h1
  have h2 := hp.2.1
  have : p.length * (p.length + 1) ≤ 11 * 12 := Nat.mul_le_mul h2 (by omega)
  unfold txt; omega
open Classical in
/-- the picture of a text -/
noncomputable def rdP (l : List UInt8) : Option (List (List Int)) := if h : ∃ p, Pic p ∧ txt p = l then some (Classical.choose h) else none
theorem rdP_txt (hp : Pic p) : rdP (txt p) = some p := by
  have h : ∃ q, Pic q ∧ txt q = txt p := ⟨p, hp, rfl⟩
  unfold rdP
  rw [dif_pos h]
  have := Classical.choose_spec h
  rw [txt_inj this.1.gr hp.gr this.2]
theorem rdP_some {l : List UInt8} (h : rdP l = some p) : Pic p ∧ txt p = l := by
  unfold rdP at h
  split at h
  · rename_i hx
    have := Classical.choose_spec hx
    rw [← Option.some.inj h]; exact this
  · cases h
theorem rdP_none {l : List UInt8} (h : ∀ p, Pic p → txt p ≠ l) : rdP l = none := dif_neg fun ⟨p, h1, h2⟩ => h p h1 h2
end
end Go.Hs
