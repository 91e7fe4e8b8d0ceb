/- A text read as a deed, the way the program does it: no program in sight. -/
import Derived.Test.YtgphoihilheoeaaDoorHsDeed
import Derived.Test.YtgphoihilheoeaaDoorHsLib
set_option linter.unusedVariables false
set_option linter.unusedSimpArgs false
namespace Go.Hs
def wInto : List UInt8 := [105, 110, 116, 111]
def wAdd : List UInt8 := [97, 100, 100]
def wDrop : List UInt8 := [100, 114, 111, 112]
/-- the deed that a text could be that of -/
def cand (s : List UInt8) : Option Deed :=
  if s = sSingle then some ⟨0, [], 0⟩
  else if s = sBack then some ⟨4, [], 0⟩
  else if (cutF 32 s).1 = wInto ∧ (cutF 32 s).2.1.length = 1 ∧ 48 ≤ ((cutF 32 s).2.1.getD 0 0).toNat ∧ ((cutF 32 s).2.1.getD 0 0).toNat ≤ 57 then some ⟨3, [], ((cutF 32 s).2.1.getD 0 0).toNat - 48⟩
  else if (cutF 32 s).1 = wAdd ∧ (cutF 32 s).2.2 = true then some ⟨1, (cutF 32 s).2.1, 0⟩
  else if (cutF 32 s).1 = wDrop ∧ (cutF 32 s).2.2 = true then some ⟨2, (cutF 32 s).2.1, 0⟩
  else none
theorem cand_told {a : Deed} (h : Told a) : cand (dtV a) = some a := by
  cases h with
  | single => rw [dtV_single]; rfl
  | back => rw [dtV_back]; rfl
  | into d h =>
    rw [dtV_into h]
    have e : cutF 32 (sInto ++ [dig d]) = (wInto, [dig d], true) := cutF_at (a := wInto) (r := [dig d]) (by decide)
    have h1 : sInto ++ [dig d] ≠ sSingle := by intro h; injection h with h1 h2; revert h1; decide
    have h2 : sInto ++ [dig d] ≠ sBack := by intro h; injection h with h1 h2; revert h1; decide
    have ed : (dig d).toNat = 48 + d := dig_toNat (by omega)
    rw [cand, if_neg h1, if_neg h2, e]
    simp only [List.length_cons, List.length_nil, List.getD_cons_zero, ed]
    rw [if_pos ⟨by trivial, by trivial, by omega, by omega⟩]
    congr 2; omega
  | add p h =>
    rw [dtV_add h]
    have e : cutF 32 (sAdd ++ txt p) = (wAdd, txt p, true) := cutF_at (a := wAdd) (r := txt p) (by decide)
    have h1 : sAdd ++ txt p ≠ sSingle := by intro h; injection h with h1 h2; revert h1; decide
    have h2 : sAdd ++ txt p ≠ sBack := by intro h; injection h with h1 h2; revert h1; decide
    rw [cand, if_neg h1, if_neg h2, e]
    simp only
    rw [if_neg (fun h => by have := h.1; revert this; decide), if_pos ⟨by trivial, by trivial⟩]
  | drop p h =>
    rw [dtV_drop h]
    have e : cutF 32 (sDrop ++ txt p) = (wDrop, txt p, true) := cutF_at (a := wDrop) (r := txt p) (by decide)
    have h1 : sDrop ++ txt p ≠ sSingle := by intro h; injection h with h1 h2; revert h1; decide
    have h2 : sDrop ++ txt p ≠ sBack := by intro h; injection h with h1 h2; revert h1; decide
    rw [cand, if_neg h1, if_neg h2, e]
    simp only
    rw [if_neg (fun h => by have := h.1; revert this; decide), if_neg (fun h => by have := h.1; revert this; decide), if_pos ⟨by trivial, by trivial⟩]
theorem rdD_cand (s : List UInt8) : rdD s = match cand s with | some a => if dtV a = s then some a else none | none => none := by
  cases hr : rdD s with
  | some a =>
    have ht := rdD_told hr
    have h1 := (rdD_some hr).1
    have := cand_told ht
    rw [h1] at this
    rw [this]
    simp only
    rw [if_pos h1]
  | none =>
    cases hc : cand s with
    | none => rfl
    | some a =>
      simp only
      by_cases h : dtV a = s
      · by_cases hs : s = []
        · subst hs; revert hc; unfold cand; intro hc; simp [cutF, sSingle, sBack, wInto, wAdd, wDrop] at hc
        · rw [rdD_eq h hs] at hr; cases hr
      · rw [if_neg h]
end Go.Hs
