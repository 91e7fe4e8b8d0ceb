/- Walks: what a node reaches, on the clever side. -/
import Derived.Test.YthhaodjjfofogaaHsWRch
import Derived.Test.YthhaodjjfofogaaHsLit
namespace Go.Proofs.Ythhaodjjfofogaa
open Go.Hs
set_option maxRecDepth 10000
set_option maxHeartbeats 4000000
set_option linter.unusedVariables false
set_option linter.unusedSimpArgs false

theorem Index_ok (w : World) (v : Value) (xs : List Int) (h : Ints w v xs) (n : Int) :
    Does Try.prog 81 [v, .int .i64 n] w (RetX w (Value.int .i64) (fun z _ => (z = -1 ∧ n ∉ xs) ∨ (0 ≤ z ∧ n ∈ xs))) := by
  have hle := h.le
  refine fn_of_W1 Try.func81 rfl Try.results81 Try.ntmps81 rfl ?_
  focus
    refine W_seq ?_; refine W_region rfl ?_; refine Wo rfl (opv_assign (v := .int _ _) rfl) ?_; refine Wo_nil ?_; refine W_seq ?_; refine W_seq ?_; refine W_region rfl ?_; refine Wo rfl (opv_move (v := v) rfl) ?_
    refine Wo rfl (opv_len Try.underlying24 rfl h) ?_; refine Wo rfl (opv_move (v := .int _ _) rfl) ?_; refine Wo_nil ?_; refine W_block ?_
  refine W_loop [4, 5, 8, 9, 10, 11, 12, 13, 14, 15, 16, 17, 18] (fun (k : Nat) => [(8, .int .i64 (k : Nat))]) (fun k w' => Ext w w' ∧ k ≤ xs.length ∧ n ∉ xs.take k) (fun x => xs.length - x) 0 (by repeat (first | exact trivial | refine And.intro rfl ?_)) ?_ ?_
  · exact ⟨Ext.refl _, Nat.zero_le _, by simp⟩
  rintro k ρj w1 ⟨E1, hk, hg⟩
  by_cases hlt : k < xs.length
  · have hmem := List.getElem_mem hlt
    focus
      have szE1 := E1.size; refine W_seq ?_; refine W_region rfl ?_; refine Wo rfl (opv_lss rfl rfl) ?_; refine Wo_nil ?_; refine W_seq ?_; refine W_cond_dec rfl (fun h1 => ?_) (fun h1 => ?_); refine W_skip ?_; refine W_seq ?_
      refine W_block ?_; refine W_seq ?_; refine W_region rfl ?_; refine Wo rfl (opv_move (v := .int _ _) rfl) ?_; refine Wo rfl (opv_assign (v := .int _ _) rfl) ?_; refine Wo_nil ?_; refine W_seq ?_; refine W_region rfl ?_
      refine Wo rfl (opv_move (v := .int _ _) rfl) ?_; refine Wo rfl (opv_move (v := v) rfl) ?_; refine Wo rfl (opv_move (v := .int _ _) rfl) ?_
      refine Wo_get Try.underlying24 Try.sizeOf3 Try.isAgg3 rfl (fun _ => rfl) rfl h E1 rfl (by first | omega | (simp <;> omega)) ?_; rintro _ _ rfl; refine Wo rfl (opv_eql rfl rfl) ?_; refine Wo_nil ?_
      refine W_cond_dec rfl (fun h2 => ?_) (fun h2 => ?_); refine W_seq ?_; refine W_region rfl ?_; refine Wo rfl (opv_move (v := .int _ _) rfl) ?_; refine Wo rfl (opv_assign (v := .int _ _) rfl) ?_; refine Wo_nil ?_; refine W_ret ?_
      refine at_ret (v := .int _ _) rfl ?_; refine ⟨E1, _, rfl, ?_⟩; (try dsimp only); rotate_left; refine W_skip ?_; refine W_region rfl ?_; refine Wo rfl (opv_add rfl rfl (by omega)) ?_; refine Wo rfl (opv_move (v := .int _ _) rfl) ?_
      refine Wo_nil ?_; rotate_left; (exfalso; omega)
    · right
      have e : n = xs[k] := by assumption
      exact ⟨by omega, by rw [e]; exact hmem⟩
    · have e : ¬ n = xs[k] := by assumption
      refine ⟨(k + 1), by repeat (first | exact trivial | refine And.intro rfl ?_), by repeat (first | with_reducible exact Same.refl | refine Same.upd rfl ?_ | refine Same.upds rfl ?_ | refine Same.mix rfl ?_), ?_, ?_⟩
      · refine ⟨E1, by omega, ?_⟩
        rw [take_snoc _ _ hlt, List.mem_append]
        rintro (h9 | h9)
        · exact hg h9
        · exact e (List.mem_singleton.1 h9)
      · omega
  · obtain rfl : k = xs.length := by omega
    focus
      have szE1 := E1.size; refine W_seq ?_; refine W_region rfl ?_; refine Wo rfl (opv_lss rfl rfl) ?_; refine Wo_nil ?_; refine W_seq ?_; refine W_cond_dec rfl (fun h1 => ?_) (fun h1 => ?_); (exfalso; omega); refine W_exit ?_
      refine exitX_same ?_; refine W_seq ?_; refine W_region rfl ?_; refine Wo rfl (opv_assign (v := .int _ _) rfl) ?_; refine Wo_nil ?_; refine W_ret ?_; refine at_ret (v := .int _ _) rfl ?_; refine ⟨E1, _, rfl, ?_⟩; (try dsimp only)
    exact .inl ⟨rfl, by simpa using hg⟩

theorem Contains_ok (w : World) (v : Value) (xs : List Int) (h : Ints w v xs) (n : Int) :
    Does Try.prog 77 [v, .int .i64 n] w (Ret w (.bool (decide (n ∈ xs)))) := by
  refine fn_of_W1 Try.func77 rfl Try.results77 Try.ntmps77 rfl ?_
  focus
    refine W_seq ?_; refine W_region rfl ?_; refine Wo rfl (opv_assign (v := .bool _) rfl) ?_; refine Wo_nil ?_; refine W_seq ?_; refine W_region rfl ?_; refine Wo rfl (opv_move (v := v) rfl) ?_
    refine Wo rfl (opv_move (v := .int _ _) rfl) ?_; refine Wo_call rfl (opc2 (a := v) (b := .int _ _) Try.call81 rfl rfl) (Index_ok _ _ _ (h) _) ?_; rintro _ w1 ⟨E1, y1, rfl, hy1⟩; have hs1 := E1.size
    refine Wo rfl (opv_geq rfl rfl) ?_; refine Wo rfl (opv_assign (v := .bool _) rfl) ?_; refine Wo_nil ?_; refine W_ret ?_; refine at_ret (v := .bool _) rfl ?_; refine ⟨congrArg Value.bool ?_, E1⟩
  rcases hy1 with ⟨rfl, h9⟩ | ⟨h8, h9⟩
  · rw [decide_eq_false h9]; rfl
  · rw [decide_eq_true h9]; exact decide_eq_true h8

theorem reachedFrom_ok (w : World) (v : Value) (p : List (List Int)) (h : ESl Ints w v p) (hp : Pic p) (i : Nat) (hi : i < p.length) : Does Try.prog 73 [v, .int .i64 (i : Int)] w (RetO w XI (ints (rf p i))) := by
  have hle := h.le
  have hp5 := hp.2.1
  refine fn_of_W1 Try.func73 rfl Try.results73 Try.ntmps73 rfl ?_
  focus
    refine W_seq ?_; refine W_region rfl ?_; refine Wo rfl (opv_assign (v := .slice _ _ _) rfl) ?_; refine Wo_nil ?_; refine W_seq ?_; refine W_region rfl ?_; refine Wo rfl (opv_move (v := .int _ _) rfl) ?_
    refine Wo_buildSliceH (ps := [(0, .int _ _)]) (cs := [_]) rfl Try.underlying24 Try.sizeOf3 Try.zeroValue3 rfl rfl rfl rfl ?_; rintro b1 w1 hb1 E1 hB1 hHb1; have hlb1 := hB1.lt; have hs1 := E1.size
    refine Wo rfl (opv_assign (v := .slice _ _ _) rfl) ?_; refine Wo_nil ?_; refine W_seq ?_; refine W_seq ?_; refine W_region rfl ?_; refine Wo rfl (opv_assign (v := .int _ _) rfl) ?_; refine Wo_nil ?_; refine W_block ?_
  have hO1 : Owned w.heap.size XI w1 (.slice (some ⟨b1, 0, none⟩) 1 1) (ints [i]) := Owned.block hHb1 hb1 rfl (by decide) ⟨⟨rfl, rfl⟩, trivial⟩
  clear hHb1 hB1
  refine W_loop [5, 6, 8, 11, 12, 13, 14, 15, 16, 17, 18, 19, 20, 21, 22, 23, 24, 25, 26, 27, 28, 29, 30, 31, 32, 33, 34, 35, 36] (fun (t, u, l) => [(6, .int .i64 (t : Nat)), (5, u)]) (fun (t, u, l) w' => Ext w w' ∧ Owned w.heap.size XI w' u (ints l) ∧ t ≤ l.length ∧ l.Nodup ∧ i ∈ l ∧ (∀ j ∈ l, Rch p i j) ∧ ∀ k ∈ l.take t, ∀ j ∈ arr p k, j ∈ l) (fun x => p.length - x.1) (0, .slice (some ⟨b1, 0, none⟩) 1 1, [i]) (by repeat (first | exact trivial | refine And.intro rfl ?_)) ?_ ?_
  · exact ⟨E1, hO1, Nat.zero_le _, by simp, by simp, fun j hj => by rw [List.mem_singleton.1 hj]; exact .refl _, by simp⟩
  rintro ⟨t, u, l⟩ ρj w2 ⟨E2, hO2, ht, hnd, hil, hrl, hcl⟩
  have hll : l.length ≤ p.length := nodup_len hnd fun j hj => (hrl j hj).lt hp hi
  have hil' := ints_len l
  by_cases hlt : t < l.length
  · have hlm := (hrl _ (List.getElem_mem hlt)).lt hp hi
    have hgt : (ints l)[t]'(by omega) = (l[t] : Int) := by simp [ints]
    have harr : ∀ (w1 : World) (pv : Value), ESl Ints w1 pv p → Does Try.prog 50 [pv, .int .i64 ((ints l)[t]'(by omega))] w1 (RetO w1 XI (ints (arr p l[t]))) := fun w1 pv h1 => by
      rw [hgt]
      exact arrowsOf_ok w1 pv p h1 (l[t] : Int) ⟨by omega, by omega⟩ (by rw [getD_lt (by omega), hp.row (by omega)]; omega)
    focus
      have szE2 := E2.size; have szE1 := E1.size; refine W_seq ?_; refine W_seq ?_; refine W_region rfl ?_; refine Wo rfl (opv_move (v := .int _ _) rfl) ?_; refine Wo rfl (opv_move (v := u) rfl) ?_
      refine Wo rfl (opv_len Try.underlying24 rfl (Owned.read hO2)) ?_; refine Wo rfl (opv_lss rfl rfl) ?_; refine Wo_nil ?_; refine W_cond_dec rfl (fun h1 => ?_) (fun h1 => ?_); refine W_skip ?_; refine W_seq ?_; refine W_block ?_
      refine W_seq ?_; refine W_region rfl ?_; refine Wo rfl (opv_move (v := v) rfl) ?_; refine Wo rfl (opv_move (v := u) rfl) ?_; refine Wo rfl (opv_move (v := .int _ _) rfl) ?_
      refine Wo_get Try.underlying24 Try.sizeOf3 Try.isAgg3 rfl (fun _ => rfl) rfl (Owned.read hO2) (Ext.refl _) rfl (by first | omega | (simp <;> omega)) ?_; rintro _ _ rfl
      refine Wo_call rfl (opc2 (a := v) (b := .int _ _) Try.call50 rfl rfl) (harr _ _ ((Mono.mono E2 h))) ?_; rintro u1 w3 ⟨E3, hO3⟩; have hs2 := E3.size; refine Wo rfl (opv_len Try.underlying24 rfl (Owned.read hO3)) ?_
      refine Wo rfl (opv_move (v := .int _ _) rfl) ?_; refine Wo_nil ?_; refine W_block ?_; rotate_left; (exfalso; omega)
    have hBe : Besides u.ownBlock Ints w3 u1 (ints (arr p l[t])) := Besides.start hO2 hO3.above
    have hla := ints_len (arr p l[t])
    refine W_loop [5, 8, 24, 25, 26, 27, 28, 29, 30, 31, 32, 33, 34, 35, 36] (fun (m, u', l') => [(24, .int .i64 (m : Nat)), (5, u')]) (fun (m, u', l') w' => Ext w w' ∧ Owned w.heap.size XI w' u' (ints l') ∧ m ≤ (arr p l[t]).length ∧ Besides u'.ownBlock Ints w' u1 (ints (arr p l[t])) ∧ l'.Nodup ∧ i ∈ l' ∧ (∀ j ∈ l', Rch p i j) ∧ (∃ e, l' = l ++ e) ∧ ∀ j ∈ (arr p l[t]).take m, j ∈ l') (fun x => (arr p l[t]).length - x.1) (0, u, l) (by repeat (first | exact trivial | refine And.intro rfl ?_)) ?_ ?_
    · exact ⟨E2.trans E3, hO2.ext E3, Nat.zero_le _, hBe, hnd, hil, hrl, ⟨[], by simp⟩, by simp⟩
    clear hO2 hBe
    rintro ⟨m, u', l'⟩ ρk w4 ⟨E4, hO4, hm, hBe, hnd', hil', hrl', hex, hcm⟩
    have hll' : l'.length ≤ p.length := nodup_len hnd' fun j hj => (hrl' j hj).lt hp hi
    have hlil := ints_len l'
    by_cases hml : m < (arr p l[t]).length
    · have hal : (arr p l[t]).length ≤ 5 := by
        have h8 := arrR_len (p.getD l[t] [])
        rw [getD_lt (by omega), hp.row (by omega)] at h8
        have : (arr p l[t]).length ≤ p.length := by unfold arr; rw [getD_lt (by omega)]; exact h8
        omega
      have hgm := ints_get hml
      have hmm := List.getElem_mem hml
      have hmi := mem_ints (l := l') (x := (arr p l[t])[m])
      rw [← hgm] at hmi
      have hts := take_snoc _ _ hml
      obtain ⟨e, he⟩ := hex
      focus
        have szE4 := E4.size; have szE3 := E3.size; have szE2 := E2.size; have szE1 := E1.size; refine W_seq ?_; refine W_region rfl ?_; refine Wo rfl (opv_lss rfl rfl) ?_; refine Wo_nil ?_; refine W_seq ?_
        refine W_cond_dec rfl (fun h2 => ?_) (fun h2 => ?_); refine W_skip ?_; refine W_seq ?_; refine W_block ?_; refine W_seq ?_; refine W_region rfl ?_
        refine Wo_get Try.underlying24 Try.sizeOf3 Try.isAgg3 rfl (fun _ => rfl) rfl (Besides.here hBe) (Ext.refl _) rfl (by first | omega | (simp <;> omega)) ?_; rintro _ _ rfl; refine Wo rfl (opv_assign (v := .int _ _) rfl) ?_
        refine Wo_nil ?_; refine W_seq ?_; refine W_region rfl ?_; refine Wo rfl (opv_move (v := u') rfl) ?_; refine Wo rfl (opv_move (v := .int _ _) rfl) ?_
        refine Wo_call rfl (opc2 (a := u') (b := .int _ _) Try.call77 rfl rfl) (Contains_ok _ _ _ ((Owned.read hO4)) _) ?_; rintro _ w5 ⟨rfl, E5⟩; have hs3 := E5.size; refine Wo rfl (opv_not rfl) ?_; refine Wo_nil ?_
        refine W_cond_ndec rfl (fun h3 => ?_) (fun h3 => ?_); refine W_region rfl ?_; refine Wo rfl (opv_move (v := u') rfl) ?_; refine Wo rfl (opv_move (v := .int _ _) rfl) ?_
        refine Wo_buildSliceH (ps := [(0, .int _ _)]) (cs := [_]) rfl Try.underlying24 Try.sizeOf3 Try.zeroValue3 rfl rfl rfl rfl ?_; rintro b2 w6 hb2 E6 hB1 hHb2; have hlb2 := hB1.lt; have hs4 := E6.size
        refine Wo_app1 rfl el24 rfl rfl hB1 (hO4.toB.ext (E5.trans E6)) Owned.int (Nat.le_refl _) (by first | omega | (simp <;> omega)) (by omega) (by omega) ((E4.trans E5).trans E6) (by omega) ?_; have hT1 := (hO4.toB.ext (E5.trans E6))
        rintro v1 w7 hO4 E7 M1; have hBe := (hBe.ext (E5.trans E6)).moves M1; have hB1 := hB1.moves M1 hT1 (by omega); have hs5 := E7.size; refine Wo rfl (opv_assign (v := v1) rfl) ?_; refine Wo_nil ?_; refine W_region rfl ?_
        refine Wo rfl (opv_add rfl rfl (by omega)) ?_; refine Wo rfl (opv_move (v := .int _ _) rfl) ?_; refine Wo_nil ?_; rotate_left; refine W_skip ?_; refine W_region rfl ?_; refine Wo rfl (opv_add rfl rfl (by omega)) ?_
        refine Wo rfl (opv_move (v := .int _ _) rfl) ?_; refine Wo_nil ?_; rotate_left; (exfalso; omega)
      · have hno : ¬ (arr p l[t])[m] ∈ l' := fun h9 => by
          have h10 : ¬ (ints (arr p l[t]))[m]'(by omega) ∈ ints l' := by assumption
          exact h10 (hmi.2 h9)
        refine ⟨((m + 1, v1, l' ++ [(arr p l[t])[m]])), by repeat (first | exact trivial | refine And.intro rfl ?_), by repeat (first | with_reducible exact Same.refl | refine Same.upd rfl ?_ | refine Same.upds rfl ?_ | refine Same.mix rfl ?_), ?_, ?_⟩
        · refine ⟨by assumption, ?_, by omega, by assumption, ?_, ?_, ?_, ⟨e ++ [(arr p l[t])[m]], by rw [he, List.append_assoc]⟩, ?_⟩
          · rw [ints_append, show ints [(arr p l[t])[m]] = [(ints (arr p l[t]))[m]'(by omega)] by rw [hgm]; rfl]
            assumption
          · exact List.nodup_append.2 ⟨hnd', by simp, fun a ha b hb hab => hno (by rw [← List.mem_singleton.1 hb, ← hab]; exact ha)⟩
          · exact List.mem_append_left _ hil'
          · intro j hj
            rcases List.mem_append.1 hj with h9 | h9
            · exact hrl' j h9
            · rw [List.mem_singleton.1 h9]; exact (hrl _ (List.getElem_mem hlt)).step hmm
          · intro j hj
            rw [hts] at hj
            rcases List.mem_append.1 hj with h9 | h9
            · exact List.mem_append_left _ (hcm j h9)
            · exact List.mem_append_right _ h9
        · simp only; omega
      · have hyes : (arr p l[t])[m] ∈ l' := hmi.1 (by assumption)
        refine ⟨((m + 1, u', l')), by repeat (first | exact trivial | refine And.intro rfl ?_), by repeat (first | with_reducible exact Same.refl | refine Same.upd rfl ?_ | refine Same.upds rfl ?_ | refine Same.mix rfl ?_), ?_, ?_⟩
        · refine ⟨E4.trans E5, hO4.ext E5, by omega, hBe.ext E5, hnd', hil', hrl', ⟨e, he⟩, fun j hj => ?_⟩
          rw [hts] at hj
          rcases List.mem_append.1 hj with h9 | h9
          · exact hcm j h9
          · rw [List.mem_singleton.1 h9]; exact hyes
        · simp only; omega
    · obtain rfl : m = (arr p l[t]).length := by omega
      focus
        have szE4 := E4.size; have szE3 := E3.size; have szE2 := E2.size; have szE1 := E1.size; refine W_seq ?_; refine W_region rfl ?_; refine Wo rfl (opv_lss rfl rfl) ?_; refine Wo_nil ?_; refine W_seq ?_
        refine W_cond_dec rfl (fun h2 => ?_) (fun h2 => ?_); (exfalso; omega); refine W_exit ?_; refine exitX_same ?_; refine W_region rfl ?_; refine Wo rfl (opv_move (v := .int _ _) rfl) ?_; refine Wo rfl (opv_add rfl rfl (by omega)) ?_
        refine Wo rfl (opv_assign (v := .int _ _) rfl) ?_; refine Wo_nil ?_
      obtain ⟨e, rfl⟩ := hex
      refine ⟨((t + 1, u', l ++ e)), by repeat (first | exact trivial | refine And.intro rfl ?_), by repeat (first | with_reducible exact Same.refl | refine Same.upd rfl ?_ | refine Same.upds rfl ?_ | refine Same.mix rfl ?_), ?_, ?_⟩
      · refine ⟨by assumption, by assumption, by simp; omega, hnd', hil', hrl', fun k hk j hj => ?_⟩
        rw [List.take_append_of_le_length (by omega), take_snoc _ _ hlt] at hk
        rcases List.mem_append.1 hk with h9 | h9
        · exact List.mem_append_left _ (hcl k h9 j hj)
        · rw [List.mem_singleton.1 h9] at hj
          exact hcm j (by rw [List.take_length]; exact hj)
      · simp only; omega
  · obtain rfl : t = l.length := by omega
    have hB2 := hO2.toB
    have hne : ints l ≠ [] := by cases l with
      | nil => cases hil
      | cons a l => simp [ints]
    focus
      have szE2 := E2.size; have szE1 := E1.size; refine W_seq ?_; refine W_seq ?_; refine W_region rfl ?_; refine Wo rfl (opv_move (v := .int _ _) rfl) ?_; refine Wo rfl (opv_move (v := u) rfl) ?_
      refine Wo rfl (opv_len Try.underlying24 rfl (OwnedB.read hB2)) ?_; refine Wo rfl (opv_lss rfl rfl) ?_; refine Wo_nil ?_; refine W_cond_dec rfl (fun h1 => ?_) (fun h1 => ?_); (exfalso; omega); refine W_exit ?_; refine exitX_same ?_
      refine W_seq ?_; refine W_region rfl ?_; refine Wo rfl (opv_move (v := u) rfl) ?_; refine Wo_call rfl (opc1 (a := u) Try.call79 rfl) (Sort_ok _ _ _ (hB2) (by assumption) (by omega)) ?_; rintro _ w3 ⟨rfl, E3, hO3⟩
      have E4 := E2.span E3 (by omega); have hs2 := E3.size; refine Wo_nil ?_; refine W_seq ?_; refine W_region rfl ?_; refine Wo rfl (opv_move (v := u) rfl) ?_; refine Wo rfl (opv_assign (v := u) rfl) ?_; refine Wo_nil ?_
      refine W_ret ?_; refine ⟨E4, (congrArg (Owned _ _ _ _) ?_).mp (hO3.o.mono (by omega))⟩
    exact bfs hp hi hnd hil hrl (fun k hk => hcl k (by rw [List.take_length]; exact hk))

end Go.Proofs.Ythhaodjjfofogaa
