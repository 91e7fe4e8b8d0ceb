/- Pictures as lists of rows: no program in sight. -/
namespace Go.Hs

def bit (p : List (List Int)) (i j : Nat) : Int := (p.getD i []).getD j 0
def Pic (p : List (List Int)) : Prop := 1 ≤ p.length ∧ p.length ≤ 5 ∧ ∀ r ∈ p, r.length = p.length ∧ ∀ x ∈ r, x = 0 ∨ x = 1
instance (p : List (List Int)) : Decidable (Pic p) := by unfold Pic; infer_instance
/-- rows of arrows, of some more nodes -/
def Gr (p : List (List Int)) : Prop := 1 ≤ p.length ∧ p.length ≤ 11 ∧ ∀ r ∈ p, r.length = p.length ∧ ∀ x ∈ r, x = 0 ∨ x = 1
theorem Pic.gr {p : List (List Int)} (h : Pic p) : Gr p := ⟨h.1, Nat.le_trans h.2.1 (by decide), h.2.2⟩
instance (p : List (List Int)) : Coe (Pic p) (Gr p) := ⟨Pic.gr⟩
def Nod (p : List (List Int)) (z : Int) : Prop := Pic p ∧ 0 ≤ z ∧ z < p.length
instance (p : List (List Int)) (z : Int) : Decidable (Nod p z) := by unfold Nod; infer_instance
theorem getD_lt {α : Type} {l : List α} {i : Nat} {d : α} (h : i < l.length) : l.getD i d = l[i] := by simp [List.getD_eq_getElem?_getD, h]
theorem Gr.row {p : List (List Int)} (h : Gr p) {i : Nat} (hi : i < p.length) : p[i].length = p.length := (h.2.2 _ (List.getElem_mem hi)).1
theorem Pic.row {p : List (List Int)} (h : Pic p) {i : Nat} (hi : i < p.length) : p[i].length = p.length := (h.2.2 _ (List.getElem_mem hi)).1
theorem Gr.bit01 {p : List (List Int)} (h : Gr p) (i j : Nat) : bit p i j = 0 ∨ bit p i j = 1 := by
  unfold bit
  by_cases hi : i < p.length
  · rw [getD_lt hi]
    by_cases hj : j < p[i].length
    · rw [getD_lt hj]; exact (h.2.2 _ (List.getElem_mem hi)).2 _ (List.getElem_mem hj)
    · left; rw [List.getD_eq_getElem?_getD, List.getElem?_eq_none (by omega)]; rfl
  · left; rw [List.getD_eq_getElem?_getD (l := p), List.getElem?_eq_none (by omega)]; simp
theorem Pic.bit01 {p : List (List Int)} (h : Pic p) (i j : Nat) : bit p i j = 0 ∨ bit p i j = 1 := h.gr.bit01 i j

/-- the places of the 1s of a row -/
def arrR (r : List Int) : List Nat := (List.range r.length).filter fun j => decide (r.getD j 0 = 1)
def arr (p : List (List Int)) (i : Nat) : List Nat := arrR (p.getD i [])
def ints (l : List Nat) : List Int := l.map fun (n : Nat) => (n : Int)
theorem ints_inj {a b : List Nat} (h : ints a = ints b) : a = b := by
  induction a generalizing b with
  | nil => cases b with
    | nil => rfl
    | cons _ _ => simp [ints] at h
  | cons x a ih => cases b with
    | nil => simp [ints] at h
    | cons y b =>
      simp [ints] at h
      rw [show x = y by omega, ih (b := b) (by simp only [ints]; exact h.2)]
theorem ints_len (l : List Nat) : (ints l).length = l.length := by simp [ints]
theorem ints_append (a b : List Nat) : ints (a ++ b) = ints a ++ ints b := by simp [ints]
theorem mem_arrR {r : List Int} {j : Nat} : j ∈ arrR r ↔ j < r.length ∧ r.getD j 0 = 1 := by simp [arrR]
theorem arrR_len (r : List Int) : (arrR r).length ≤ r.length := by
  unfold arrR; exact Nat.le_trans (List.length_filter_le _ _) (by simp)
theorem mem_arr {p : List (List Int)} (h : Gr p) {i j : Nat} (hi : i < p.length) : j ∈ arr p i ↔ j < p.length ∧ bit p i j = 1 := by
  unfold arr bit
  rw [mem_arrR, getD_lt hi, h.row hi]
theorem filter_range_succ (f : Nat → Bool) (k : Nat) : (List.range (k + 1)).filter f = (List.range k).filter f ++ if f k then [k] else [] := by
  rw [List.range_succ, List.filter_append]; simp [List.filter_cons]
/-- the marks k, k+1, .. -/
def marks (k : Int) (n : Nat) : List Int := (List.range n).map fun (i : Nat) => k + (i : Int)
theorem marks_len (k : Int) (n : Nat) : (marks k n).length = n := by simp [marks]
theorem marks_at {k : Int} {n i : Nat} (h : i < n) : (marks k n)[i]'(by rw [marks_len]; exact h) = k + i := by simp [marks]
def marksS (k : Int) : List (List Int) → List (List Int)
  | [] => []
  | r :: p => marks k r.length :: marksS (k + r.length) p
def total {α : Type} : List (List α) → Nat
  | [] => 0
  | r :: p => r.length + total p
theorem ext_take {α : Type} {xs ys : List α} (hl : xs.length = ys.length) (h : xs.take xs.length = ys.take xs.length) : xs = ys := by
  rw [List.take_length, hl, List.take_length] at h; exact h
theorem take_snoc {α : Type} (l : List α) (k : Nat) (h : k < l.length) : l.take (k + 1) = l.take k ++ [l[k]] := by
  rw [List.take_succ_eq_append_getElem h]
theorem set_fill {α : Type} (l : List α) (k : Nat) (h : k < l.length) (z : α) : (l.take k ++ List.replicate (l.length - k) z).set k l[k] = l.take (k + 1) ++ List.replicate (l.length - (k + 1)) z := by
  have e : l.length - k = (l.length - (k + 1)) + 1 := by omega
  rw [e, List.replicate_succ, List.set_append_right _ _ (by simp; omega)]
  rw [take_snoc l k h]
  simp [Nat.min_eq_left (Nat.le_of_lt h), -List.take_append_getElem]
theorem total_snoc {α : Type} (p : List (List α)) (r : List α) : total (p ++ [r]) = total p + r.length := by
  induction p with
  | nil => simp [total]
  | cons a p ih => simp [total, ih]; omega
theorem total_take_le {α : Type} (p : List (List α)) (k : Nat) : total (p.take k) ≤ total p := by
  induction p generalizing k with
  | nil => simp
  | cons a p ih => cases k with
    | zero => simp [total]
    | succ k => simp [total]; exact ih k
theorem total_ge {α : Type} (p : List (List α)) {k : Nat} (h : k < p.length) : total (p.take (k + 1)) = total (p.take k) + p[k].length := by
  rw [take_snoc _ _ h, total_snoc]
theorem len_le_total {α : Type} {p : List (List α)} {r : List α} (h : r ∈ p) : r.length ≤ total p := by
  induction p with
  | nil => cases h
  | cons a p ih =>
    rcases List.mem_cons.1 h with rfl | h
    · simp [total]
    · have := ih h; simp [total]; omega
end Go.Hs
