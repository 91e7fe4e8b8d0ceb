/- Pictures beside each other, and sets made of nodes: no program in sight. -/
import Derived.Test.YtgphoihilheoeaaDoorHsLst
set_option linter.unusedVariables false
set_option linter.unusedSimpArgs false
namespace Go.Hs
open Classical
section
variable {p q g : List (List Int)} {a b i j n m : Nat} {ms : List Nat}
/-- arrows of a row, place by place -/
theorem mem_arr' {r : List Int} (hi : i < p.length) (hr : p[i] = r) : j ∈ arr p i ↔ ∃ hj : j < r.length, r[j] = 1 := by
  unfold arr
  rw [getD_lt hi, hr, mem_arrR]
  constructor
  · rintro ⟨h1, h2⟩; exact ⟨h1, by rw [getD_lt h1] at h2; exact h2⟩
  · rintro ⟨h1, h2⟩; exact ⟨h1, by rw [getD_lt h1]; exact h2⟩
/-- both as one -/
def bes (p q : List (List Int)) : List (List Int) := (p.map fun r => r ++ List.replicate q.length 0) ++ q.map fun r => List.replicate p.length 0 ++ r
theorem bes_len : (bes p q).length = p.length + q.length := by simp [bes]
theorem bes_fst (hi : i < p.length) : (bes p q)[i]'(by rw [bes_len]; omega) = p[i] ++ List.replicate q.length 0 := by
  unfold bes
  rw [List.getElem_append_left (by simpa using hi)]
  simp
theorem bes_snd (hi : i < q.length) : (bes p q)[p.length + i]'(by rw [bes_len]; omega) = List.replicate p.length 0 ++ q[i] := by
  unfold bes
  rw [List.getElem_append_right (by simp)]
  simp
theorem bes_gr (hp : Gr p) (hq : Gr q) (h : p.length + q.length ≤ 11) : Gr (bes p q) := by
  refine ⟨by rw [bes_len]; have := hp.1; omega, by rw [bes_len]; exact h, fun r hr => ?_⟩
  rw [bes_len]
  rcases List.mem_append.1 hr with hr | hr
  · obtain ⟨r', h1, rfl⟩ := List.mem_map.1 hr
    obtain ⟨h2, h3⟩ := hp.2.2 r' h1
    refine ⟨by simp [h2], fun x hx => ?_⟩
    rcases List.mem_append.1 hx with hx | hx
    · exact h3 x hx
    · exact .inl (List.eq_of_mem_replicate hx)
  · obtain ⟨r', h1, rfl⟩ := List.mem_map.1 hr
    obtain ⟨h2, h3⟩ := hq.2.2 r' h1
    refine ⟨by simp [h2], fun x hx => ?_⟩
    rcases List.mem_append.1 hx with hx | hx
    · exact .inl (List.eq_of_mem_replicate hx)
    · exact h3 x hx
theorem arr_bes1 (hp : Gr p) (hi : i < p.length) : j ∈ arr (bes p q) i ↔ j ∈ arr p i := by
  rw [mem_arr' (by rw [bes_len]; omega) (bes_fst hi), mem_arr' hi rfl]
  constructor
  · rintro ⟨h1, h2⟩
    by_cases hj : j < p[i].length
    · exact ⟨hj, by rw [List.getElem_append_left hj] at h2; exact h2⟩
    · rw [List.getElem_append_right (by omega)] at h2
      simp at h2
  · rintro ⟨h1, h2⟩
    exact ⟨by simp; omega, by rw [List.getElem_append_left h1]; exact h2⟩
theorem arr_bes2 (hq : Gr q) (hi : i < q.length) : j ∈ arr (bes p q) (p.length + i) ↔ ∃ k ∈ arr q i, j = p.length + k := by
  rw [mem_arr' (by rw [bes_len]; omega) (bes_snd hi)]
  constructor
  · rintro ⟨h1, h2⟩
    by_cases hj : j < p.length
    · rw [List.getElem_append_left (by simpa using hj)] at h2
      simp at h2
    · rw [List.getElem_append_right (by simp; omega)] at h2
      simp only [List.length_replicate] at h2
      simp only [List.length_append, List.length_replicate] at h1
      exact ⟨j - p.length, (mem_arr' hi rfl).2 ⟨by omega, h2⟩, by omega⟩
  · rintro ⟨k, hk, rfl⟩
    obtain ⟨h1, h2⟩ := (mem_arr' hi rfl).1 hk
    refine ⟨by simp; omega, ?_⟩
    rw [List.getElem_append_right (by simp)]
    simpa using h2
theorem bes_bis1 (hp : Gr p) (ha : a < p.length) : Bis (bes p q) a p a := by
  refine ⟨fun x y => x = y ∧ x < p.length, ⟨rfl, ha⟩, ?_⟩
  rintro x _ ⟨rfl, hx⟩
  refine ⟨fun k hk => ?_, fun k hk => ?_⟩
  · have := (arr_bes1 hp hx).1 hk
    exact ⟨k, this, rfl, arr_lt hp hx this⟩
  · exact ⟨k, (arr_bes1 hp hx).2 hk, rfl, arr_lt hp hx hk⟩
theorem bes_bis2 (hq : Gr q) (hb : b < q.length) : Bis (bes p q) (p.length + b) q b := by
  refine ⟨fun x y => x = p.length + y ∧ y < q.length, ⟨rfl, hb⟩, ?_⟩
  rintro _ y ⟨rfl, hy⟩
  refine ⟨fun k hk => ?_, fun k hk => ?_⟩
  · obtain ⟨j, hj, rfl⟩ := (arr_bes2 hq hy).1 hk
    exact ⟨j, hj, rfl, arr_lt hq hy hj⟩
  · exact ⟨_, (arr_bes2 hq hy).2 ⟨k, hk, rfl⟩, rfl, arr_lt hq hy hk⟩
/-- whether both draw the same set, looked up in both as one -/
theorem bes_eqv (hp : Gr p) (hq : Gr q) (h : p.length + q.length ≤ 11) (ha : a < p.length) (hb : b < q.length) : eqv (bes p q) a (p.length + b) = true ↔ Bis p a q b := by
  rw [eqv_iff (bes_gr hp hq h) (by rw [bes_len]; omega) (by rw [bes_len]; omega)]
  exact ⟨fun h => ((bes_bis1 hp ha).symm.trans h).trans (bes_bis2 hq hb), fun h => ((bes_bis1 hp ha).trans h).trans (bes_bis2 hq hb).symm⟩

/-- a node ahead, with arrows to these -/
def put (g : List (List Int)) (ms : List Nat) : List (List Int) := (0 :: (List.range g.length).map fun j => b01 (ms.contains j)) :: g.map fun r => 0 :: r
theorem put_len : (put g ms).length = g.length + 1 := by simp [put]
theorem put_gr (hg : Gr g) (h : g.length ≤ 10) : Gr (put g ms) := by
  refine ⟨by rw [put_len]; omega, by rw [put_len]; omega, fun r hr => ?_⟩
  rw [put_len]
  rcases List.mem_cons.1 hr with rfl | hr
  · refine ⟨by simp, fun x hx => ?_⟩
    rcases List.mem_cons.1 hx with rfl | hx
    · exact .inl rfl
    · obtain ⟨j, _, rfl⟩ := List.mem_map.1 hx
      unfold b01; split <;> simp
  · obtain ⟨r', h1, rfl⟩ := List.mem_map.1 hr
    obtain ⟨h2, h3⟩ := hg.2.2 r' h1
    refine ⟨by simp [h2], fun x hx => ?_⟩
    rcases List.mem_cons.1 hx with rfl | hx
    · exact .inl rfl
    · exact h3 x hx
theorem arr_put0 : j ∈ arr (put g ms) 0 ↔ ∃ k ∈ ms, k < g.length ∧ j = k + 1 := by
  rw [mem_arr' (r := 0 :: (List.range g.length).map fun j => b01 (ms.contains j)) (by rw [put_len]; omega) (by simp [put])]
  constructor
  · rintro ⟨h1, h2⟩
    cases j with
    | zero => simp at h2
    | succ j =>
      simp only [List.getElem_cons_succ, List.getElem_map, List.getElem_range, b01_one, List.contains_eq_mem, decide_eq_true_eq] at h2
      exact ⟨j, h2, by simpa using h1, rfl⟩
  · rintro ⟨k, h1, h2, rfl⟩
    refine ⟨by simpa using h2, ?_⟩
    simp only [List.getElem_cons_succ, List.getElem_map, List.getElem_range, b01_one, List.contains_eq_mem, decide_eq_true_eq]
    exact h1
theorem arr_put1 (hi : i < g.length) : j ∈ arr (put g ms) (i + 1) ↔ ∃ k ∈ arr g i, j = k + 1 := by
  rw [mem_arr' (r := 0 :: g[i]) (by rw [put_len]; omega) (by simp [put])]
  constructor
  · rintro ⟨h1, h2⟩
    cases j with
    | zero => simp at h2
    | succ j => exact ⟨j, (mem_arr' hi rfl).2 ⟨by simpa using h1, by simpa using h2⟩, rfl⟩
  · rintro ⟨k, hk, rfl⟩
    obtain ⟨h1, h2⟩ := (mem_arr' hi rfl).1 hk
    exact ⟨by simpa using h1, by simpa using h2⟩
theorem put_bis (hg : Gr g) (hi : i < g.length) : Bis (put g ms) (i + 1) g i := by
  refine ⟨fun x y => x = y + 1 ∧ y < g.length, ⟨rfl, hi⟩, ?_⟩
  rintro _ y ⟨rfl, hy⟩
  refine ⟨fun k hk => ?_, fun k hk => ?_⟩
  · obtain ⟨j, hj, rfl⟩ := (arr_put1 hy).1 hk
    exact ⟨j, hj, rfl, arr_lt hg hy hj⟩
  · exact ⟨_, (arr_put1 hy).2 ⟨k, hk, rfl⟩, rfl, arr_lt hg hy hk⟩
/-- the least picture of the set of these, if it has not too many nodes -/
noncomputable def putV (g : List (List Int)) (ms : List Nat) : Option (List (List Int)) := if (lst (put g ms) 0).length ≤ 5 then some (lst (put g ms) 0) else none
theorem putV_some {c : List (List Int)} (hg : Gr g) (h : g.length ≤ 10) (hc : putV g ms = some c) : LeastP c ∧ Bis (put g ms) 0 c 0 := by
  have h0 : 0 < (put g ms).length := by rw [put_len]; omega
  unfold putV at hc
  split at hc
  · rename_i h5
    cases hc
    exact ⟨LeastP.lst (put_gr hg h) h0 h5, lst_bis (put_gr hg h) h0⟩
  · cases hc
/-- told by their members: what has them draws the set -/
theorem putV_mem {c : List (List Int)} (hg : Gr g) (h : g.length ≤ 10) (hc : putV g ms = some c) (hm : ∀ m ∈ ms, m < g.length) :
    (∀ k ∈ arr c 0, ∃ m ∈ ms, Bis c k g m) ∧ (∀ m ∈ ms, ∃ k ∈ arr c 0, Bis c k g m) := by
  obtain ⟨_, h1⟩ := putV_some hg h hc
  refine ⟨fun k hk => ?_, fun m hm' => ?_⟩
  · obtain ⟨x, hx, e⟩ := h1.snd k hk
    obtain ⟨m, h2, h3, rfl⟩ := arr_put0.1 hx
    exact ⟨m, h2, e.symm.trans (put_bis hg h3)⟩
  · obtain ⟨k, hk, e⟩ := h1.fst (m + 1) (arr_put0.2 ⟨m, hm', hm m hm', rfl⟩)
    exact ⟨k, hk, e.symm.trans (put_bis hg (hm m hm'))⟩

/-! ### the sets that are made -/
noncomputable def pairV (p : List (List Int)) (a : Nat) (q : List (List Int)) (b : Nat) : Option (List (List Int)) := putV (bes p q) [a, p.length + b]
noncomputable def togV (p : List (List Int)) (a : Nat) (q : List (List Int)) (b : Nat) : Option (List (List Int)) := putV (bes p q) (arr (bes p q) a ++ arr (bes p q) (p.length + b))
noncomputable def wosV (p : List (List Int)) (a : Nat) (q : List (List Int)) (b : Nat) : Option (List (List Int)) := putV p ((arr p a).filter fun v => !decide (Bis p v q b))
theorem Pic.bes5 (hp : Pic p) (hq : Pic q) : Gr (bes p q) ∧ (bes p q).length ≤ 10 := by
  have h1 := hp.2.1
  have h2 := hq.2.1
  exact ⟨bes_gr hp.gr hq.gr (by omega), by rw [bes_len]; omega⟩
theorem pairV_some {c : List (List Int)} (hp : Pic p) (hq : Pic q) (h : pairV p a q b = some c) : LeastP c := (putV_some (hp.bes5 hq).1 (hp.bes5 hq).2 h).1
theorem togV_some {c : List (List Int)} (hp : Pic p) (hq : Pic q) (h : togV p a q b = some c) : LeastP c := (putV_some (hp.bes5 hq).1 (hp.bes5 hq).2 h).1
theorem wosV_some {c : List (List Int)} (hp : Pic p) (h : wosV p a q b = some c) : LeastP c := (putV_some hp.gr (by have := hp.2.1; omega) h).1
/-- the set of one set: its only member -/
theorem pairV_self {c : List (List Int)} (hp : Pic p) (h : pairV p 0 p 0 = some c) : (∃ k, k ∈ arr c 0) ∧ ∀ k ∈ arr c 0, Bis c k p 0 := by
  have h0 : 0 < p.length := hp.1
  obtain ⟨h1, h2⟩ := putV_mem (hp.bes5 hp).1 (hp.bes5 hp).2 h (fun m hm => by
    rw [bes_len]
    simp only [List.mem_cons, List.not_mem_nil, or_false] at hm
    rcases hm with rfl | rfl <;> omega)
  refine ⟨?_, fun k hk => ?_⟩
  · obtain ⟨k, hk, _⟩ := h2 0 (by simp)
    exact ⟨k, hk⟩
  · obtain ⟨m, hm, e⟩ := h1 k hk
    simp only [List.mem_cons, List.not_mem_nil, or_false] at hm
    rcases hm with rfl | rfl
    · exact e.trans (bes_bis1 hp.gr h0)
    · exact e.trans (bes_bis2 hp.gr h0)
/-- how many different sets -/
noncomputable def manyV (p : List (List Int)) (a : Nat) : Nat := ((List.range p.length).filter fun x => decide (∃ k ∈ arr p a, knd p k = x)).length
theorem manyV_one (hp : Gr p) (ha : a < p.length) (h1 : ∃ k, k ∈ arr p a) (h2 : ∀ k ∈ arr p a, ∀ j ∈ arr p a, Bis p k p j) : manyV p a = 1 := by
  obtain ⟨k, hk⟩ := h1
  have hkl := arr_lt hp ha hk
  have e : ((List.range p.length).filter fun x => decide (∃ k ∈ arr p a, knd p k = x)).Perm [knd p k] := by
    refine (List.perm_ext_iff_of_nodup (pw_nodup (range_filter_pw _ _)) (by simp)).2 fun x => ?_
    simp only [List.mem_filter, List.mem_range, decide_eq_true_eq, List.mem_singleton]
    constructor
    · rintro ⟨_, j, hj, rfl⟩
      exact (knd_bis hp (arr_lt hp ha hj) hkl).2 (h2 j hj k hk)
    · rintro rfl
      exact ⟨knd_lt hkl, k, hk, rfl⟩
  unfold manyV
  rw [e.length_eq]; rfl
/-- whether some member is that set -/
noncomputable def hasV (p : List (List Int)) (a : Nat) (q : List (List Int)) (b : Nat) : Bool := (arr p a).any fun v => decide (Bis p v q b)
theorem hasV_self {c : List (List Int)} (hp : Pic p) (h : pairV p 0 p 0 = some c) : hasV c 0 p 0 = true ∧ manyV c 0 = 1 := by
  obtain ⟨⟨k, hk⟩, h2⟩ := pairV_self hp h
  have hc := (pairV_some hp hp h).1
  refine ⟨?_, manyV_one hc.gr hc.1 ⟨k, hk⟩ fun i hi j hj => (h2 i hi).trans (h2 j hj).symm⟩
  unfold hasV
  rw [List.any_eq_true]
  exact ⟨k, hk, decide_eq_true (h2 k hk)⟩
end
end Go.Hs
