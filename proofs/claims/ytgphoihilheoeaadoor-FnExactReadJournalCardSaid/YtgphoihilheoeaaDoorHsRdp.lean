/- A text read as a picture, the way both sides do it: no program in sight. -/
import Derived.Test.YtgphoihilheoeaaDoorHsTxt
set_option linter.unusedVariables false
set_option linter.unusedSimpArgs false
namespace Go.Hs
/-- the row that a text of numbers tells -/
def rowB (n : Nat) (l : List UInt8) : List Int := (List.range n).map fun i => if l.any fun c => decide (c.toNat = 48 + i) then 1 else 0
def rdM (s : List UInt8) : List (List Int) := (cutB 47 s).map (rowB (cutB 47 s).length)
/-- each byte is a number below n -/
def inR (n : Nat) (l : List UInt8) : Prop := ∀ c ∈ l, 48 ≤ c.toNat ∧ c.toNat < 48 + n
section
variable {n a : Nat} {l : List UInt8} {r : List Int} {s : List UInt8} {p : List (List Int)}
theorem rowB_len : (rowB n l).length = n := by simp [rowB]
theorem rowB_nil : rowB n [] = List.replicate n 0 := by
  simp only [rowB, List.any_nil, Bool.false_eq_true, if_false]
  apply List.ext_getElem <;> simp
theorem rowB_get (h : a < n) : (rowB n l)[a]'(by rw [rowB_len]; exact h) = if l.any (fun c => decide (c.toNat = 48 + a)) then 1 else 0 := by simp [rowB]
theorem rowB_set {c : UInt8} (hc : c.toNat = 48 + a) (ha : a < n) : (rowB n l).set a 1 = rowB n (l ++ [c]) := by
  apply List.ext_getElem
  · simp [rowB_len]
  · intro i h1 h2
    rw [rowB_len] at h2
    rw [List.getElem_set]
    by_cases e : a = i
    · subst e
      rw [if_pos rfl, rowB_get h2, if_pos]
      simp [hc]
    · rw [if_neg e, rowB_get h2, rowB_get h2]
      have : (decide (c.toNat = 48 + i)) = false := decide_eq_false (by omega)
      simp [List.any_append, this]
theorem rowB_bits : ∀ x ∈ rowB n l, x = 0 ∨ x = 1 := by
  intro x hx
  obtain ⟨i, _, rfl⟩ := List.mem_map.1 hx
  split <;> simp
theorem rowB_txR (hl : r.length = n) (hn : n ≤ 100) (h1 : ∀ x ∈ r, x = 0 ∨ x = 1) : rowB n (txR r) = r := by
  apply List.ext_getElem
  · rw [rowB_len, hl]
  · intro i hi h2
    rw [rowB_len] at hi
    rw [rowB_get hi]
    have hx := h1 _ (List.getElem_mem h2)
    by_cases h : r[i] = 1
    · rw [if_pos, h]
      refine List.any_eq_true.2 ⟨dig i, List.mem_map.2 ⟨i, mem_arrR.2 ⟨h2, ?_⟩, rfl⟩, ?_⟩
      · rw [getD_lt h2]; exact h
      · rw [decide_eq_true_eq, dig_toNat (by omega)]
    · rw [if_neg]
      · rcases hx with hx | hx
        · exact hx.symm
        · exact absurd hx h
      · intro hany
        obtain ⟨c, hc, hc2⟩ := List.any_eq_true.1 hany
        obtain ⟨j, hj, rfl⟩ := List.mem_map.1 hc
        obtain ⟨hj1, hj2⟩ := mem_arrR.1 hj
        rw [decide_eq_true_eq, dig_toNat (by omega)] at hc2
        obtain rfl : j = i := by omega
        rw [getD_lt h2] at hj2
        exact h hj2
theorem inR_txR (hl : r.length = n) (hn : n ≤ 100) : inR n (txR r) := by
  intro c hc
  obtain ⟨j, hj, rfl⟩ := List.mem_map.1 hc
  have := (mem_arrR.1 hj).1
  rw [dig_toNat (by omega)]; omega
theorem rdM_len : (rdM s).length = (cutB 47 s).length := by simp [rdM]
theorem rdM_txt (hp : Pic p) : rdM (txt p) = p := by
  have h5 := hp.2.1
  unfold rdM
  rw [cut_txt hp.gr, List.map_map, List.length_map]
  conv => rhs; rw [← List.map_id p]
  refine List.map_congr_left fun r hr => ?_
  exact rowB_txR (hp.2.2 r hr).1 (by omega) (hp.2.2 r hr).2
theorem rdM_pic (h : (cutB 47 s).length ≤ 5) : Pic (rdM s) := by
  refine ⟨?_, by rw [rdM_len]; exact h, ?_⟩
  · rw [rdM_len]; have := List.length_pos_iff.2 (cutB_ne (s := 47) s); omega
  · intro r hr
    obtain ⟨x, _, rfl⟩ := List.mem_map.1 hr
    exact ⟨by rw [rowB_len, rdM_len], rowB_bits⟩
theorem rd_yes (hp : Pic (rdM s)) (h : txt (rdM s) = s) : rdP s = some (rdM s) := by
  have := rdP_txt hp
  rwa [h] at this
theorem rd_is (h : rdP s = some p) : p = rdM s ∧ Pic p ∧ txt p = s ∧ (∀ x ∈ cutB 47 s, inR (cutB 47 s).length x) ∧ (cutB 47 s).length = p.length := by
  obtain ⟨h1, h2⟩ := rdP_some h
  subst h2
  have h5 := h1.2.1
  refine ⟨(rdM_txt h1).symm, h1, rfl, ?_, ?_⟩
  · rw [cut_txt h1.gr, List.length_map]
    intro x hx
    obtain ⟨r, hr, rfl⟩ := List.mem_map.1 hx
    exact inR_txR (h1.2.2 r hr).1 (by omega)
  · rw [cut_txt h1.gr, List.length_map]
theorem opt_none {α : Type} {o : Option α} (h : ∀ x, o ≠ some x) : o = none := by
  cases o with
  | none => rfl
  | some x => exact absurd rfl (h x)
theorem rd_no1 {x : List UInt8} {c : UInt8} (hx : x ∈ cutB 47 s) (hc : c ∈ x) (h : ¬ (48 ≤ c.toNat ∧ c.toNat < 48 + (cutB 47 s).length)) : rdP s = none := opt_none fun p hp => h ((rd_is hp).2.2.2.1 x hx c hc)
theorem rd_no2 (h : ¬ Pic (rdM s)) : rdP s = none := opt_none fun p hp => h ((rd_is hp).1 ▸ (rd_is hp).2.1)
theorem rd_no3 (h : txt (rdM s) ≠ s) : rdP s = none := opt_none fun p hp => h ((rd_is hp).1 ▸ (rd_is hp).2.2.1)
theorem rd_no4 (h : 5 < (cutB 47 s).length) : rdP s = none := opt_none fun p hp => by have := (rd_is hp).2.2.2.2; have := (rd_is hp).2.1.2.1; omega
end
end Go.Hs
