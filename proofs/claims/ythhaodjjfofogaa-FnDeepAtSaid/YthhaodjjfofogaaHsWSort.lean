/- The library's sort of integers, by the shelf's contract, on data of the call's own. -/
import Derived.Test.YthhaodjjfofogaaHsWEl
import Derived.Test.YthhaodjjfofogaaHsSet
import Derived.Test.YthhaodjjfofogaaHsRch
import Derived.Shelf.Lay
import Derived.Ground.NamesProg
import Derived.Shelf.Sort.Plain
import Derived.Shelf.Slices.In.SortNone
import Derived.Sort.OwnSortedInts
namespace Go.Proofs.Ythhaodjjfofogaa
open Go.Hs
set_option maxRecDepth 10000
set_option maxHeartbeats 4000000
set_option linter.unusedVariables false
set_option linter.unusedSimpArgs false

open Go.Shelf Go.Sort in
shelf_lay Lays.n189 Nm 189 at Try as Try.laysSort
theorem XAll_ints {w : World} {fps : List (List Nat)} {cs : List Value} {xs : List Int} (h : XAll XInt w fps cs xs) : cs = xs.map (Value.int .i64) ∧ fps.flatten = [] := by
  induction xs generalizing fps cs with
  | nil => cases fps <;> cases cs <;> first | exact ⟨rfl, rfl⟩ | exact h.elim
  | cons x xs ih =>
    cases fps <;> cases cs <;> first | exact h.elim | skip
    obtain ⟨⟨rfl, rfl⟩, h2⟩ := h
    obtain ⟨rfl, h4⟩ := ih h2
    exact ⟨rfl, h4⟩
theorem XAll_ints_mk {w : World} (xs : List Int) : XAll XInt w (xs.map fun _ => []) (xs.map (Value.int .i64)) xs := by
  induction xs with
  | nil => trivial
  | cons x xs ih => exact ⟨⟨rfl, rfl⟩, ih⟩


theorem Sort_ok (w : World) {lo hi : Nat} (v : Value) (xs : List Int) (h : OwnedB lo hi XI w v xs) (h0 : xs ≠ []) (hl : xs.length ≤ 1000000) :
    Does Try.prog 79 [v] w (RetSO lo hi w (.tuple #[]) XI v (sortI xs)) := by
  obtain ⟨fp, hnd, hfp, cs, fps, hrow, rfl, hX⟩ := h
  obtain ⟨rfl, hf⟩ := XAll_ints hX
  rcases hrow.2 with ⟨h6, h7⟩ | ⟨g, cap, cur, rfl, hg, hb, hn, hcap, hsz, htk⟩
  · exact absurd (List.length_eq_zero_iff.1 h7) h0
  have hin := hfp g (by simp [Value.ownBlock])
  have hH := holds_of_blockI hb (by simpa using htk)
  have hlt : g < w.heap.size := (Array.getElem?_eq_some_iff.1 hb).1
  have hc := Go.Proofs.Any.slices_Sort_int Try.laysSort g 0 cap xs w hH hlt (by omega)
  unfold Does
  refine Calls.mono (show Calls Try.prog 79 _ w _ from hc) ?_
  rintro e w' ⟨he, n, os, rfl⟩
  refine ⟨_, he, rfl, ?_, ?_⟩
  · have G := grownBy_sortedI (w := w) (g := g) (n := n) (os := os) ((xs.mergeSort fun x y => decide (x ≤ y)).toArray)
    exact ⟨G.os, G.tape, G.output, G.size, fun k hk hk2 => G.block k hk2 (by simp; omega)⟩
  · have hr := ownsRow_sortedI (n := n) (os := os) (base := 0) (ss := xs) (ts := sortI xs) (sortI_len xs) (Nat.zero_le _) hb hn hcap hsz
    have hfl : ∀ ys : List Int, (ys.map fun _ => ([] : List Nat)).flatten = [] := by intro ys; induction ys <;> simp_all
    refine ⟨_, ?_, ?_, _, (sortI xs).map fun _ => [], ?_, rfl, XAll_ints_mk _⟩
    · rw [hfl]; simp [Value.ownBlock]
    · intro k hk; rw [hfl] at hk; simp [Value.ownBlock] at hk; omega
    · rw [sortI_len]; exact hr

end Go.Proofs.Ythhaodjjfofogaa
