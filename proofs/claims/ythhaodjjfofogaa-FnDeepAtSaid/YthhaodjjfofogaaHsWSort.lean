/- The library's sort of integers, by the shelf's contract, on data of the call's own. -/
import Derived.Test.YthhaodjjfofogaaHsWEl
import Derived.Test.YthhaodjjfofogaaHsSet
import Derived.Test.YthhaodjjfofogaaHsRch
import Derived.Shelf.Lay
import Derived.Ground.NamesProg
import Derived.Shelf.Sort.Plain
import Derived.Shelf.Slices.In.SortNone
import Derived.Sort.OwnSortedInts
namespace Go.Proofs.Ythhaodjjfofogaa
open Go.Hs
set_option maxRecDepth 10000
set_option maxHeartbeats 4000000
set_option linter.unusedVariables false
set_option linter.unusedSimpArgs false

def Try.laysSort_ren : Go.Shelf.Ren := ⟨fun | 189 => 79 | 125 => 83 | 257 => 82 | 128 => 93 | 129 => 94 | 294 => 84 | 295 => 85 | 296 => 86 | 297 => 87 | 298 => 88 | 299 => 89 | 216 => 90 | 300 => 91 | 301 => 92 | 328 => 95 | 329 => 96 | 330 => 97 | 331 => 98 | 332 => 99 | 215 => 100 | 343 => 101 | n => n, fun | 28 => 24 | 3 => 3 | 46 => 62 | 0 => 0 | 51 => 71 | 53 => 73 | 4 => 4 | 183 => 65 | 182 => 64 | 131 => 41 | 5 => 5 | 9 => 9 | 218 => 74 | 222 => 78 | 228 => 80 | 229 => 81 | n => n, fun | n => n⟩
theorem Try.laysSort : Go.Proofs.Lays.n189 Try.prog Try.laysSort_ren := {
  mixed := by kernel_rfl
  f125 := Try.func83.trans (congrArg some (by kernel_rfl))
  f128 := Try.func93.trans (congrArg some (by kernel_rfl))
  f129 := Try.func94.trans (congrArg some (by kernel_rfl))
  f189 := Try.func79.trans (congrArg some (by kernel_rfl))
  f215 := Try.func100.trans (congrArg some (by kernel_rfl))
  f216 := Try.func90.trans (congrArg some (by kernel_rfl))
  f257 := Try.func82.trans (congrArg some (by kernel_rfl))
  f294 := Try.func84.trans (congrArg some (by kernel_rfl))
  f295 := Try.func85.trans (congrArg some (by kernel_rfl))
  f296 := Try.func86.trans (congrArg some (by kernel_rfl))
  f297 := Try.func87.trans (congrArg some (by kernel_rfl))
  f298 := Try.func88.trans (congrArg some (by kernel_rfl))
  f299 := Try.func89.trans (congrArg some (by kernel_rfl))
  f300 := Try.func91.trans (congrArg some (by kernel_rfl))
  f301 := Try.func92.trans (congrArg some (by kernel_rfl))
  f328 := Try.func95.trans (congrArg some (by kernel_rfl))
  f329 := Try.func96.trans (congrArg some (by kernel_rfl))
  f330 := Try.func97.trans (congrArg some (by kernel_rfl))
  f331 := Try.func98.trans (congrArg some (by kernel_rfl))
  f332 := Try.func99.trans (congrArg some (by kernel_rfl))
  f343 := Try.func101.trans (congrArg some (by kernel_rfl))
  t0 := Try.underlying0
  a0 := Try.isAgg0
  z0 := Try.sizeOf0
  v0 := Try.zeroValue0
  t3 := Try.underlying3
  a3 := Try.isAgg3
  z3 := Try.sizeOf3
  v3 := Try.zeroValue3
  t4 := Try.underlying4
  a4 := Try.isAgg4
  z4 := Try.sizeOf4
  v4 := Try.zeroValue4
  t5 := Try.underlying5
  a5 := Try.isAgg5
  z5 := Try.sizeOf5
  v5 := Try.zeroValue5
  t9 := Try.underlying9
  a9 := Try.isAgg9
  z9 := Try.sizeOf9
  v9 := Try.zeroValue9
  t28 := Try.underlying24
  a28 := Try.isAgg24
  z28 := Try.sizeOf24
  v28 := Try.zeroValue24
  t46 := Try.underlying62
  a46 := Try.isAgg62
  z46 := Try.sizeOf62
  v46 := Try.zeroValue62
  t51 := Try.underlying71
  a51 := Try.isAgg71
  z51 := Try.sizeOf71
  v51 := Try.zeroValue71
  t53 := Try.underlying73
  a53 := Try.isAgg73
  z53 := Try.sizeOf73
  v53 := Try.zeroValue73
  t131 := Try.underlying41
  a131 := Try.isAgg41
  z131 := Try.sizeOf41
  v131 := Try.zeroValue41
  t182 := Try.underlying64
  a182 := Try.isAgg64
  z182 := Try.sizeOf64
  v182 := Try.zeroValue64
  t183 := Try.underlying65
  a183 := Try.isAgg65
  z183 := Try.sizeOf65
  v183 := Try.zeroValue65
  t218 := Try.underlying74
  a218 := Try.isAgg74
  z218 := Try.sizeOf74
  v218 := Try.zeroValue74
  t222 := Try.underlying78
  a222 := Try.isAgg78
  z222 := Try.sizeOf78
  v222 := Try.zeroValue78
  t228 := Try.underlying80
  a228 := Try.isAgg80
  z228 := Try.sizeOf80
  v228 := Try.zeroValue80
  t229 := Try.underlying81
  a229 := Try.isAgg81
  z229 := Try.sizeOf81
  v229 := Try.zeroValue81 }
theorem XAll_ints {w : World} {fps : List (List Nat)} {cs : List Value} {xs : List Int} (h : XAll XInt w fps cs xs) : cs = xs.map (Value.int .i64) ∧ fps.flatten = [] := by
  induction xs generalizing fps cs with
  | nil => cases fps <;> cases cs <;> first | exact ⟨rfl, rfl⟩ | exact h.elim
  | cons x xs ih =>
    cases fps <;> cases cs <;> first | exact h.elim | skip
    obtain ⟨⟨rfl, rfl⟩, h2⟩ := h
    obtain ⟨rfl, h4⟩ := ih h2
    exact ⟨rfl, h4⟩
theorem XAll_ints_mk {w : World} (xs : List Int) : XAll XInt w (xs.map fun _ => []) (xs.map (Value.int .i64)) xs := by
  induction xs with
  | nil => trivial
  | cons x xs ih => exact ⟨⟨rfl, rfl⟩, ih⟩


theorem Sort_ok (w : World) {lo hi : Nat} (v : Value) (xs : List Int) (h : OwnedB lo hi XI w v xs) (h0 : xs ≠ []) (hl : xs.length ≤ 1000000) :
    Does Try.prog 79 [v] w (RetSO lo hi w (.tuple #[]) XI v (sortI xs)) := by
  obtain ⟨fp, hnd, hfp, cs, fps, hrow, rfl, hX⟩ := h
  obtain ⟨rfl, hf⟩ := XAll_ints hX
  rcases hrow.2 with ⟨h6, h7⟩ | ⟨g, cap, cur, rfl, hg, hb, hn, hcap, hsz, htk⟩
  · exact absurd (List.length_eq_zero_iff.1 h7) h0
  have hin := hfp g (by simp [Value.ownBlock])
  have hH := holds_of_blockI hb (by simpa using htk)
  have hlt : g < w.heap.size := (Array.getElem?_eq_some_iff.1 hb).1
  have hc := Go.Proofs.Any.slices_Sort_int Try.laysSort g 0 cap xs w hH hlt (by omega)
  unfold Does
  refine Calls.mono (show Calls Try.prog 79 _ w _ from hc) ?_
  rintro e w' ⟨he, n, os, rfl⟩
  refine ⟨_, he, rfl, ?_, ?_⟩
  · have G := grownBy_sortedI (w := w) (g := g) (n := n) (os := os) ((xs.mergeSort fun x y => decide (x ≤ y)).toArray)
    exact ⟨G.os, G.tape, G.output, G.size, fun k hk hk2 => G.block k hk2 (by simp; omega)⟩
  · have hr := ownsRow_sortedI (n := n) (os := os) (base := 0) (ss := xs) (ts := sortI xs) (sortI_len xs) (Nat.zero_le _) hb hn hcap hsz
    have hfl : ∀ ys : List Int, (ys.map fun _ => ([] : List Nat)).flatten = [] := by intro ys; induction ys <;> simp_all
    refine ⟨_, ?_, ?_, _, (sortI xs).map fun _ => [], ?_, rfl, XAll_ints_mk _⟩
    · rw [hfl]; simp [Value.ownBlock]
    · intro k hk; rw [hfl] at hk; simp [Value.ownBlock] at hk; omega
    · rw [sortI_len]; exact hr

end Go.Proofs.Ythhaodjjfofogaa
