/- Walks: pictures without loops, on both sides. -/
import Derived.Test.YthhaodjjfofogaaHsWLp
import Derived.Test.YthhaodjjfofogaaHsWGen2
import Derived.Test.YthhaodjjfofogaaHsLit
namespace Go.Proofs.Ythhaodjjfofogaa
open Go.Hs
set_option maxRecDepth 10000
set_option maxHeartbeats 4000000
set_option linter.unusedVariables false
set_option linter.unusedSimpArgs false
def offB (u : Value) (lo hi : Nat) : Prop := ∀ k, u.ownBlock = some k → k < lo ∨ hi ≤ k
theorem OwnedB.off {α : Type} {X : World → List Nat → Value → α → Prop} [Go.Hs.Loc X] {lo hi : Nat} {w w' : World} {v u u' : Value} {x : α} (h : OwnedB lo hi X w v x) (M : Moves w u w' u') (ho : offB u lo hi) : OwnedB lo hi X w' v x := by
  obtain ⟨fp, h1, h2, h3⟩ := h
  refine ⟨fp, h1, h2, Go.Hs.Loc.loc (fun k hk => M.1.block k (Go.Hs.Loc.lt h3 k hk) (fun e => ?_)) h3⟩
  have := h2 k hk
  have := ho k e.symm
  omega
theorem offB_moves {lo hi : Nat} {w w' : World} {u u' : Value} (h : offB u lo hi) (M : Moves w u w' u') (hs : hi ≤ w.heap.size) : offB u' lo hi := fun k hk => by
  rcases M.2 with h1 | ⟨g, h1, h2⟩
  · rw [h1] at hk; exact h k hk
  · rw [h1] at hk; cases hk; right; omega

noncomputable def cutE (p : List (List Int)) (k j : Nat) : Int := if lpV p k = lpV p j ∧ 0 ≤ lpV p k then 0 else bit p k j
noncomputable def cutP (p : List (List Int)) (k j : Nat) : List Int := (List.range j).map (cutE p k)
noncomputable def cutM (p : List (List Int)) (k : Nat) : List (List Int) := (List.range k).map fun i => cutP p i p.length
theorem cutP_len (p : List (List Int)) (k j : Nat) : (cutP p k j).length = j := by simp [cutP]
theorem cutM_len (p : List (List Int)) (k : Nat) : (cutM p k).length = k := by simp [cutM]
theorem cutP_succ (p : List (List Int)) (k j : Nat) : cutP p k (j + 1) = cutP p k j ++ [cutE p k j] := by unfold cutP; rw [List.range_succ, List.map_append]; rfl
theorem cutM_succ (p : List (List Int)) (k : Nat) : cutM p (k + 1) = cutM p k ++ [cutP p k p.length] := by unfold cutM; rw [List.range_succ, List.map_append]; rfl
theorem cutM_all (p : List (List Int)) : cutM p p.length = cutV p := rfl
noncomputable def lcV (p : List (List Int)) : List (List Int) := if Pic p then cutV p else []
theorem bit_at {p : List (List Int)} (hp : Pic p) {k j : Nat} (hk : k < p.length) (hj : j < p.length) : bit p k j = (p[k])[j]'(by rw [hp.row hk]; exact hj) := by
  unfold bit
  rw [getD_lt hk, getD_lt (by rw [hp.row hk]; exact hj)]
theorem spec_LoopsCut_ok (w : World) (v : Value) (p : List (List Int)) (h : ESl Ints w v p) : Does Try.prog 37 [v] w (RetO w XR (lcV p)) := by
  have hle := h.le
  have k1 : ∀ l, lpsV p = l → ∀ (w : World) (pv : Value), ESl Ints w pv p → Does Try.prog 33 [pv] w (RetO w XI l) := fun l e w pv h => e ▸ spec_LoopsOf_ok w pv p h
  by_cases hp : Pic p
  · have hp5 := hp.2.1
    have hV : lpsV p = (List.range p.length).map (lpV p) := if_pos hp
    obtain ⟨L, hL⟩ : ∃ L, L = lpsV p := ⟨_, rfl⟩
    have k2 := k1 L hL.symm
    have hLl : L.length = p.length := by rw [hL, hV]; simp
    have hLe : ∀ (k : Nat) (hk : k < L.length), L[k] = lpV p k := fun k hk => by simp [hL, hV]
    rw [show lcV p = cutM p p.length from (if_pos hp).trans (cutM_all p).symm]
    clear k1 hV hL
    refine fn_of_W1 Try.func37 rfl Try.results37 Try.ntmps37 rfl ?_
    focus
      refine W_seq ?_; refine W_region rfl ?_; refine Wo rfl (opv_assign (v := .slice _ _ _) rfl) ?_; refine Wo_nil ?_; refine W_seq ?_; refine W_region rfl ?_; refine Wo_lit0 (XSl 3 XInt) rfl el22 Try.sizeOf24 ?_
      rintro b1 w1 hb1 b1lt E1 hO1; have hs1 := E1.size; refine Wo rfl (opv_assign (v := .slice _ _ _) rfl) ?_; refine Wo_nil ?_; refine W_seq ?_; refine W_region rfl ?_; refine Wo rfl (opv_move (v := v) rfl) ?_
      refine Wo_call rfl (opc1 (a := v) Try.call33 rfl) (k2 _ _ ((Mono.mono E1 h))) ?_; rintro u1 w2 ⟨E2, hO2⟩; have hs2 := E2.size; refine Wo rfl (opv_assign (v := u1) rfl) ?_; refine Wo_nil ?_; refine W_seq ?_; refine W_seq ?_
      refine W_region rfl ?_; refine Wo rfl (opv_assign (v := .int _ _) rfl) ?_; refine Wo_nil ?_; refine W_block ?_
    refine W_loop [3, 5, 6, 7, 8, 12, 13, 14, 15, 16, 17, 18, 19, 20, 21, 22, 23, 24, 25, 26, 27, 28, 29, 30, 31, 32, 33, 34, 35, 36, 37, 38, 39, 40, 41, 42, 43, 44, 45, 46, 47, 48, 49, 50, 51, 52, 53, 54, 55] (fun (k, u) => [(5, .int .i64 (k : Nat)), (3, u)]) (fun (k, u) w' => Ext w w' ∧ w2.heap.size ≤ w'.heap.size ∧ k ≤ p.length ∧ Owned w.heap.size XR w' u (cutM p k) ∧ OwnedB w1.heap.size w2.heap.size XI w' u1 L ∧ offB u w1.heap.size w2.heap.size) (fun x => p.length - x.1) (0, .slice (some ⟨b1, 0, none⟩) 0 0) (by repeat (first | exact trivial | refine And.intro rfl ?_)) ?_ ?_
    · exact ⟨E1.trans E2, Nat.le_refl _, Nat.zero_le _, by have := hO1.ext E2; simpa [cutM] using this, hO2.toB, fun k hk => by cases hk; left; exact b1lt⟩
    clear hO1 hO2
    rintro ⟨k, u⟩ ρj w3 ⟨E3, hs3, hk, hO3, hLB, hoff⟩
    have hml := cutM_len p k
    by_cases hkl : k < p.length
    · have hrow := hp.row hkl
      have hLk := hLe k (by omega)
      focus
        have szE3 := E3.size; have szE2 := E2.size; have szE1 := E1.size; refine W_seq ?_; refine W_seq ?_; refine W_region rfl ?_; refine Wo rfl (opv_move (v := .int _ _) rfl) ?_; refine Wo rfl (opv_move (v := u1) rfl) ?_
        refine Wo rfl (opv_len Try.underlying24 rfl (OwnedB.read hLB)) ?_; refine Wo rfl (opv_lss rfl rfl) ?_; refine Wo_nil ?_; refine W_cond_dec rfl (fun h1 => ?_) (fun h1 => ?_); refine W_skip ?_; refine W_seq ?_; refine W_block ?_
        refine W_seq ?_; refine W_region rfl ?_; refine Wo_lit0 XInt rfl el24 Try.sizeOf3 ?_; rintro b2 w4 hb2 b2lt E4 hO1; have hs4 := E4.size; refine Wo rfl (opv_assign (v := .slice _ _ _) rfl) ?_; refine Wo_nil ?_; refine W_seq ?_
        refine W_seq ?_; refine W_region rfl ?_; refine Wo rfl (opv_assign (v := .int _ _) rfl) ?_; refine Wo_nil ?_; refine W_block ?_; rotate_left; (exfalso; omega)
      refine W_loop [6, 7, 8, 19, 20, 21, 22, 23, 24, 25, 26, 27, 28, 29, 30, 31, 32, 33, 34, 35, 36, 37, 38, 39, 40, 41, 42, 43, 44, 45, 46, 47, 48, 49, 50, 51] (fun (j, r) => [(7, .int .i64 (j : Nat)), (6, r)]) (fun (j, r) w' => Ext w w' ∧ w3.heap.size ≤ w'.heap.size ∧ j ≤ p.length ∧ OwnedB w.heap.size w3.heap.size XR w' u (cutM p k) ∧ OwnedB w1.heap.size w2.heap.size XI w' u1 L ∧ Owned w3.heap.size XI w' r (cutP p k j)) (fun x => p.length - x.1) (0, .slice (some ⟨b2, 0, none⟩) 0 0) (by repeat (first | exact trivial | refine And.intro rfl ?_)) ?_ ?_
      · exact ⟨E3.trans E4, E4.size, Nat.zero_le _, hO3.toB.ext E4, hLB.ext E4, by simpa [cutP] using hO1⟩
      clear hO3 hLB
      rintro ⟨j, r⟩ ρk w5 ⟨E5, hs5, hj, hB5, hLB, hR⟩
      have hpl := cutP_len p k j
      by_cases hjl : j < p.length
      · have hLj := hLe j (by omega)
        have hsn := cutP_succ p k j
        have hbt := bit_at hp hkl hjl
        have fin : ∀ x : Int, x = cutE p k j → cutP p k (j + 1) = cutP p k j ++ [x] := fun x hx => by rw [hx]; exact hsn
        focus
          have szE5 := E5.size; have szE4 := E4.size; have szE3 := E3.size; have szE2 := E2.size; have szE1 := E1.size; refine W_seq ?_; refine W_seq ?_; refine W_region rfl ?_; refine Wo rfl (opv_move (v := .int _ _) rfl) ?_
          refine Wo rfl (opv_move (v := u1) rfl) ?_; refine Wo rfl (opv_len Try.underlying24 rfl (OwnedB.read hLB)) ?_; refine Wo rfl (opv_lss rfl rfl) ?_; refine Wo_nil ?_; refine W_cond_dec rfl (fun h2 => ?_) (fun h2 => ?_)
          refine W_skip ?_; refine W_seq ?_; refine W_block ?_; refine W_seq ?_; refine W_region rfl ?_; refine Wo rfl (opv_move (v := v) rfl) ?_; refine Wo rfl (opv_move (v := .int _ _) rfl) ?_
          refine Wo_get Try.underlying22 Try.sizeOf24 Try.isAgg24 rfl (fun _ => rfl) rfl h E5 rfl (by first | omega | (simp <;> omega)) ?_; rintro _ u2 hu1; refine Wo rfl (opv_move (v := .int _ _) rfl) ?_
          refine Wo_get Try.underlying24 Try.sizeOf3 Try.isAgg3 rfl (fun _ => rfl) rfl hu1 E5 rfl (by first | omega | (simp <;> omega)) ?_; rintro _ _ rfl; refine Wo rfl (opv_assign (v := .int _ _) rfl) ?_; refine Wo_nil ?_; refine W_seq ?_
          refine W_seq ?_; refine W_draw mixed (by kernel_rfl) rfl ?_; refine Wq_o rfl (fun _ _ => opv_move (v := u1) rfl) ?_; refine Wq_o rfl (fun _ _ => opv_move (v := .int _ _) rfl) ?_
          refine Wq_get Try.underlying24 Try.sizeOf3 Try.isAgg3 rfl (fun _ => rfl) rfl (OwnedB.read hLB) (Ext.refl _) rfl (by first | omega | (simp <;> omega)) ?_; rintro _ _ rfl; refine Wq_o rfl (fun _ _ => opv_move (v := u1) rfl) ?_
          refine Wq_o rfl (fun _ _ => opv_move (v := .int _ _) rfl) ?_; refine Wq_get Try.underlying24 Try.sizeOf3 Try.isAgg3 rfl (fun _ => rfl) rfl (OwnedB.read hLB) (Ext.refl _) rfl (by first | omega | (simp <;> omega)) ?_; rintro _ _ rfl
          refine Wq_o rfl (fun _ _ => opv_eql rfl rfl) ?_; refine Wq_split_dec rfl (fun _ _ => opv_move (v := .bool _) rfl) (fun h3 => ?_) (fun h3 => ?_); refine Wq_o rfl (fun _ _ => opv_move (v := u1) rfl) ?_
          refine Wq_o rfl (fun _ _ => opv_move (v := .int _ _) rfl) ?_; refine Wq_get Try.underlying24 Try.sizeOf3 Try.isAgg3 rfl (fun _ => rfl) rfl (OwnedB.read hLB) (Ext.refl _) rfl (by first | omega | (simp <;> omega)) ?_; rintro _ _ rfl
          refine Wq_o rfl (fun _ _ => opv_geq rfl rfl) ?_; refine Wq_o rfl (fun _ _ => opv_pick_t (v := .bool _) rfl rfl) ?_; refine Wq_nil (fun w6 E6 => ?_); have hs6 := E6.size; refine W_cond_dec rfl (fun h4 => ?_) (fun h4 => ?_)
          refine W_region rfl ?_; refine Wo rfl (opv_assign (v := .int _ _) rfl) ?_; refine Wo_nil ?_; refine W_region rfl ?_; refine Wo rfl (opv_move (v := r) rfl) ?_; refine Wo rfl (opv_move (v := .int _ _) rfl) ?_
          refine Wo_buildSliceH (ps := [(0, .int _ _)]) (cs := [_]) rfl Try.underlying24 Try.sizeOf3 Try.zeroValue3 rfl rfl rfl rfl ?_; rintro b3 w7 hb3 E7 hB1 hHb3; have hlb3 := hB1.lt; have hs7 := E7.size
          refine Wo_app1 rfl el24 rfl rfl hB1 (hR.toB.ext (E6.trans E7)) Owned.int (Nat.le_refl _) (by first | omega | (simp <;> omega)) (by omega) (by omega) ((E5.trans E6).trans E7) (by omega) ?_; have hT1 := (hR.toB.ext (E6.trans E7))
          rintro v1 w8 hR E8 M1; have hB5 := (hB5.ext (E6.trans E7)).moves M1 hT1 (by omega); have hLB := (hLB.ext (E6.trans E7)).moves M1 hT1 (by omega); have hB1 := hB1.moves M1 hT1 (by omega); have hs8 := E8.size
          refine Wo rfl (opv_assign (v := v1) rfl) ?_; refine Wo_nil ?_; refine W_region rfl ?_; refine Wo rfl (opv_move (v := .int _ _) rfl) ?_; refine Wo rfl (opv_add rfl rfl (by omega)) ?_; refine Wo rfl (opv_assign (v := .int _ _) rfl) ?_
          refine Wo_nil ?_; rotate_left; refine W_skip ?_; refine W_region rfl ?_; refine Wo rfl (opv_move (v := r) rfl) ?_; refine Wo rfl (opv_move (v := .int _ _) rfl) ?_
          refine Wo_buildSliceH (ps := [(0, .int _ _)]) (cs := [_]) rfl Try.underlying24 Try.sizeOf3 Try.zeroValue3 rfl rfl rfl rfl ?_; rintro b3 w7 hb3 E7 hB1 hHb3; have hlb3 := hB1.lt; have hs7 := E7.size
          refine Wo_app1 rfl el24 rfl rfl hB1 (hR.toB.ext (E6.trans E7)) Owned.int (Nat.le_refl _) (by first | omega | (simp <;> omega)) (by omega) (by omega) ((E5.trans E6).trans E7) (by omega) ?_; have hT1 := (hR.toB.ext (E6.trans E7))
          rintro v1 w8 hR E8 M1; have hB5 := (hB5.ext (E6.trans E7)).moves M1 hT1 (by omega); have hLB := (hLB.ext (E6.trans E7)).moves M1 hT1 (by omega); have hB1 := hB1.moves M1 hT1 (by omega); have hs8 := E8.size
          refine Wo rfl (opv_assign (v := v1) rfl) ?_; refine Wo_nil ?_; refine W_region rfl ?_; refine Wo rfl (opv_move (v := .int _ _) rfl) ?_; refine Wo rfl (opv_add rfl rfl (by omega)) ?_; refine Wo rfl (opv_assign (v := .int _ _) rfl) ?_
          refine Wo_nil ?_; rotate_left; refine Wq_skip rfl ?_; refine Wq_skip rfl ?_; refine Wq_skip rfl ?_; refine Wq_skip rfl ?_; refine Wq_skip rfl ?_; refine Wq_o rfl (fun _ _ => opv_pick_f (v := .bool _) rfl rfl) ?_
          refine Wq_nil (fun w6 E6 => ?_); have hs6 := E6.size; refine W_cond_false rfl ?_; refine W_skip ?_; refine W_region rfl ?_; refine Wo rfl (opv_move (v := r) rfl) ?_; refine Wo rfl (opv_move (v := .int _ _) rfl) ?_
          refine Wo_buildSliceH (ps := [(0, .int _ _)]) (cs := [_]) rfl Try.underlying24 Try.sizeOf3 Try.zeroValue3 rfl rfl rfl rfl ?_; rintro b3 w7 hb3 E7 hB1 hHb3; have hlb3 := hB1.lt; have hs7 := E7.size
          refine Wo_app1 rfl el24 rfl rfl hB1 (hR.toB.ext (E6.trans E7)) Owned.int (Nat.le_refl _) (by first | omega | (simp <;> omega)) (by omega) (by omega) ((E5.trans E6).trans E7) (by omega) ?_; have hT1 := (hR.toB.ext (E6.trans E7))
          rintro v1 w8 hR E8 M1; have hB5 := (hB5.ext (E6.trans E7)).moves M1 hT1 (by omega); have hLB := (hLB.ext (E6.trans E7)).moves M1 hT1 (by omega); have hB1 := hB1.moves M1 hT1 (by omega); have hs8 := E8.size
          refine Wo rfl (opv_assign (v := v1) rfl) ?_; refine Wo_nil ?_; refine W_region rfl ?_; refine Wo rfl (opv_move (v := .int _ _) rfl) ?_; refine Wo rfl (opv_add rfl rfl (by omega)) ?_; refine Wo rfl (opv_assign (v := .int _ _) rfl) ?_
          refine Wo_nil ?_; rotate_left; (exfalso; omega)
        · have hx : (0 : Int) = cutE p k j := by
            unfold cutE
            rw [if_pos ⟨by rw [← hLk, ← hLj]; assumption, by rw [← hLk]; assumption⟩]
          refine ⟨((j + 1, v1)), by repeat (first | exact trivial | refine And.intro rfl ?_), by repeat (first | with_reducible exact Same.refl | refine Same.upd rfl ?_ | refine Same.upds rfl ?_ | refine Same.mix rfl ?_), ?_, ?_⟩
          · refine ⟨by assumption, by have := M1.1.size; omega, by omega, by assumption, by assumption, ?_⟩
            rw [fin _ hx]; assumption
          · simp only; omega
        · have hx : (p[k])[j]'(by omega) = cutE p k j := by
            unfold cutE
            rw [if_neg (fun hc => by
              have h9 : ¬ 0 ≤ L[k]'(by omega) := by assumption
              rw [hLk] at h9; exact h9 hc.2), hbt]
          refine ⟨((j + 1, v1)), by repeat (first | exact trivial | refine And.intro rfl ?_), by repeat (first | with_reducible exact Same.refl | refine Same.upd rfl ?_ | refine Same.upds rfl ?_ | refine Same.mix rfl ?_), ?_, ?_⟩
          · refine ⟨by assumption, by have := M1.1.size; omega, by omega, by assumption, by assumption, ?_⟩
            rw [fin _ hx]; assumption
          · simp only; omega
        · have hx : (p[k])[j]'(by omega) = cutE p k j := by
            unfold cutE
            rw [if_neg (fun hc => by
              have h9 : ¬ L[k]'(by omega) = L[j]'(by omega) := by assumption
              rw [hLk, hLj] at h9; exact h9 hc.1), hbt]
          refine ⟨((j + 1, v1)), by repeat (first | exact trivial | refine And.intro rfl ?_), by repeat (first | with_reducible exact Same.refl | refine Same.upd rfl ?_ | refine Same.upds rfl ?_ | refine Same.mix rfl ?_), ?_, ?_⟩
          · refine ⟨by assumption, by have := M1.1.size; omega, by omega, by assumption, by assumption, ?_⟩
            rw [fin _ hx]; assumption
          · simp only; omega
      · obtain rfl : j = p.length := by omega
        have hsn := cutM_succ p k
        obtain ⟨rb, rc, rfl, _⟩ := hR.lit (by rw [cutP_len]; omega)
        have hrb := hR.lt_own (k := rb) rfl
        rw [cutP_len] at *
        focus
          have szE5 := E5.size; have szE4 := E4.size; have szE3 := E3.size; have szE2 := E2.size; have szE1 := E1.size; refine W_seq ?_; refine W_seq ?_; refine W_region rfl ?_; refine Wo rfl (opv_move (v := .int _ _) rfl) ?_
          refine Wo rfl (opv_move (v := u1) rfl) ?_; refine Wo rfl (opv_len Try.underlying24 rfl (OwnedB.read hLB)) ?_; refine Wo rfl (opv_lss rfl rfl) ?_; refine Wo_nil ?_; refine W_cond_dec rfl (fun h2 => ?_) (fun h2 => ?_)
          (exfalso; omega); refine W_exit ?_; refine exitX_same ?_; refine W_region rfl ?_; refine Wo rfl (opv_move (v := u) rfl) ?_; refine Wo rfl (opv_move (v := .slice _ _ _) rfl) ?_
          refine Wo_buildSlice (ps := [(0, .slice _ _ _)]) (cs := [_]) rfl Try.underlying22 Try.sizeOf24 Try.zeroValue24 rfl rfl rfl rfl ?_; rintro b3 w6 hb3 E6 hB1; have hlb3 := hB1.lt; have hs6 := E6.size
          refine Wo_app1 rfl el22 rfl rfl hB1 (hB5.ext E6) (hR.toB.ext E6).o (by omega) (by first | omega | (simp <;> omega)) (by omega) (by omega) (E5.trans E6) (by omega) ?_; have hT1 := (hB5.ext E6); rintro v1 w7 hB5 E7 M1
          have hR := (hR.toB.ext E6).moves M1 hT1 (by omega); have hB1 := hB1.moves M1 hT1 (by omega); have hs7 := E7.size; refine Wo rfl (opv_assign (v := v1) rfl) ?_; refine Wo_nil ?_; refine W_region rfl ?_
          refine Wo rfl (opv_move (v := .int _ _) rfl) ?_; refine Wo rfl (opv_add rfl rfl (by omega)) ?_; refine Wo rfl (opv_assign (v := .int _ _) rfl) ?_; refine Wo_nil ?_
        refine ⟨((k + 1, v1)), by repeat (first | exact trivial | refine And.intro rfl ?_), by repeat (first | with_reducible exact Same.refl | refine Same.upd rfl ?_ | refine Same.upds rfl ?_ | refine Same.mix rfl ?_), ?_, ?_⟩
        · refine ⟨by assumption, by have := M1.1.size; omega, by omega, by rw [hsn]; assumption, OwnedB.off (u := u) (hLB.ext E6) M1 hoff, offB_moves (u := u) hoff M1 (by omega)⟩
        · simp only; omega
    · obtain rfl : k = p.length := by omega
      focus
        have szE3 := E3.size; have szE2 := E2.size; have szE1 := E1.size; refine W_seq ?_; refine W_seq ?_; refine W_region rfl ?_; refine Wo rfl (opv_move (v := .int _ _) rfl) ?_; refine Wo rfl (opv_move (v := u1) rfl) ?_
        refine Wo rfl (opv_len Try.underlying24 rfl (OwnedB.read hLB)) ?_; refine Wo rfl (opv_lss rfl rfl) ?_; refine Wo_nil ?_; refine W_cond_dec rfl (fun h1 => ?_) (fun h1 => ?_); (exfalso; omega); refine W_exit ?_; refine exitX_same ?_
        refine W_seq ?_; refine W_region rfl ?_; refine Wo rfl (opv_move (v := u) rfl) ?_; refine Wo rfl (opv_assign (v := u) rfl) ?_; refine Wo_nil ?_; refine W_ret ?_; exact ⟨E3, hO3.toB.o.mono (by omega)⟩
  · rw [show lcV p = [] from if_neg hp]
    have k2 := k1 [] (if_neg hp)
    have h00 : ([] : List Int).length = 0 := rfl
    clear k1
    refine fn_of_W1 Try.func37 rfl Try.results37 Try.ntmps37 rfl ?_
    focus
      refine W_seq ?_; refine W_region rfl ?_; refine Wo rfl (opv_assign (v := .slice _ _ _) rfl) ?_; refine Wo_nil ?_; refine W_seq ?_; refine W_region rfl ?_; refine Wo_lit0 (XSl 3 XInt) rfl el22 Try.sizeOf24 ?_
      rintro b1 w1 hb1 b1lt E1 hO1; have hs1 := E1.size; refine Wo rfl (opv_assign (v := .slice _ _ _) rfl) ?_; refine Wo_nil ?_; refine W_seq ?_; refine W_region rfl ?_; refine Wo rfl (opv_move (v := v) rfl) ?_
      refine Wo_call rfl (opc1 (a := v) Try.call33 rfl) (k2 _ _ ((Mono.mono E1 h))) ?_; rintro u1 w2 ⟨E2, hO2⟩; have hs2 := E2.size; refine Wo rfl (opv_assign (v := u1) rfl) ?_; refine Wo_nil ?_; refine W_seq ?_; refine W_seq ?_
      refine W_region rfl ?_; refine Wo rfl (opv_assign (v := .int _ _) rfl) ?_; refine Wo_nil ?_; refine W_block ?_
    refine W_loop [3, 5, 6, 7, 8, 12, 13, 14, 15, 16, 17, 18, 19, 20, 21, 22, 23, 24, 25, 26, 27, 28, 29, 30, 31, 32, 33, 34, 35, 36, 37, 38, 39, 40, 41, 42, 43, 44, 45, 46, 47, 48, 49, 50, 51, 52, 53, 54, 55] (fun ((k : Nat), u) => [(5, .int .i64 (k : Nat)), (3, u)]) (fun (k, u) w' => Ext w w' ∧ k = 0 ∧ OwnedB w1.heap.size w2.heap.size XI w' u1 [] ∧ Owned w.heap.size XR w' u []) (fun x => x.1) (0, .slice (some ⟨b1, 0, none⟩) 0 0) (by repeat (first | exact trivial | refine And.intro rfl ?_)) ?_ ?_
    · exact ⟨E1.trans E2, rfl, hO2.toB, hO1.ext E2⟩
    clear hO1 hO2
    rintro ⟨k, u⟩ ρj w3 ⟨E3, rfl, hLB, hO3⟩
    focus
      have szE3 := E3.size; have szE2 := E2.size; have szE1 := E1.size; refine W_seq ?_; refine W_seq ?_; refine W_region rfl ?_; refine Wo rfl (opv_move (v := .int _ _) rfl) ?_; refine Wo rfl (opv_move (v := u1) rfl) ?_
      refine Wo rfl (opv_len Try.underlying24 rfl (OwnedB.read hLB)) ?_; refine Wo rfl (opv_lss rfl rfl) ?_; refine Wo_nil ?_; refine W_cond_dec rfl (fun h1 => ?_) (fun h1 => ?_); contradiction; refine W_exit ?_; refine exitX_same ?_
      refine W_seq ?_; refine W_region rfl ?_; refine Wo rfl (opv_move (v := u) rfl) ?_; refine Wo rfl (opv_assign (v := u) rfl) ?_; refine Wo_nil ?_; refine W_ret ?_; exact ⟨E3, hO3.toB.o.mono (by omega)⟩

theorem copyRows_ok (w : World) (v : Value) (p : List (List Int)) (h : ESl Ints w v p) (hp : Pic p) : Does Try.prog 65 [v] w (RetO w XR p) := by
  have hle := h.le
  have hp5 := hp.2.1
  refine fn_of_W1 Try.func65 rfl Try.results65 Try.ntmps65 rfl ?_
  focus
    refine W_seq ?_; refine W_region rfl ?_; refine Wo rfl (opv_assign (v := .slice _ _ _) rfl) ?_; refine Wo_nil ?_; refine W_seq ?_; refine W_region rfl ?_; refine Wo_lit0 (XSl 3 XInt) rfl el22 Try.sizeOf24 ?_
    rintro b1 w1 hb1 b1lt E1 hO1; have hs1 := E1.size; refine Wo rfl (opv_assign (v := .slice _ _ _) rfl) ?_; refine Wo_nil ?_; refine W_seq ?_; refine W_seq ?_; refine W_region rfl ?_; refine Wo rfl (opv_move (v := v) rfl) ?_
    refine Wo rfl (opv_len Try.underlying22 rfl h) ?_; refine Wo rfl (opv_move (v := .int _ _) rfl) ?_; refine Wo_nil ?_; refine W_block ?_
  refine W_loop [3, 5, 9, 10, 11, 12, 13, 14, 15, 16, 17, 18, 19] (fun (k, u) => [(9, .int .i64 (k : Nat)), (3, u)]) (fun (k, u) w' => Ext w w' ∧ k ≤ p.length ∧ Owned w.heap.size XR w' u (p.take k)) (fun x => p.length - x.1) (0, .slice (some ⟨b1, 0, none⟩) 0 0) (by repeat (first | exact trivial | refine And.intro rfl ?_)) ?_ ?_
  · exact ⟨by assumption, Nat.zero_le _, by simpa using hO1⟩
  rintro ⟨k, u⟩ ρj w2 ⟨E2, hk, hO2⟩
  have hll : (p.take k).length = k := by rw [List.length_take]; omega
  by_cases hkl : k < p.length
  · have hrow := hp.row hkl
    have hts := take_snoc _ _ hkl
    focus
      have szE2 := E2.size; have szE1 := E1.size; refine W_seq ?_; refine W_region rfl ?_; refine Wo rfl (opv_lss rfl rfl) ?_; refine Wo_nil ?_; refine W_seq ?_; refine W_cond_dec rfl (fun h1 => ?_) (fun h1 => ?_); refine W_skip ?_
      refine W_seq ?_; refine W_block ?_; refine W_seq ?_; refine W_region rfl ?_; refine Wo_get Try.underlying22 Try.sizeOf24 Try.isAgg24 rfl (fun _ => rfl) rfl h E2 rfl (by first | omega | (simp <;> omega)) ?_; rintro _ u1 hu1
      refine Wo rfl (opv_assign (v := u1) rfl) ?_; refine Wo_nil ?_; refine W_region rfl ?_; refine Wo rfl (opv_move (v := u) rfl) ?_; refine Wo_lit0 XInt rfl el24 Try.sizeOf3 ?_; rintro b2 w3 hb2 b2lt E3 hO3; have hs2 := E3.size
      refine Wo rfl (opv_move (v := u1) rfl) ?_; refine Wo_appS rfl el24 rfl rfl (Mono.mono (E2.trans E3) hu1) hO3.toB (by first | omega | (simp <;> omega)) (by omega) (by omega) (E2.trans E3) (by omega) ?_; have hT1 := hO3.toB
      rintro v1 w4 hO3 E4 M1; have E5 := M1.ext hT1 E3 (by omega); have szE5 := E5.size; have hO2 := (hO2.toB.ext E3).moves M1 hT1 (by omega); have hs3 := E4.size; rotate_left; (exfalso; omega)
    rw [List.nil_append] at hO3
    obtain ⟨rb, rc, rfl, _⟩ := hO3.lit (by omega)
    have hrb := hO3.lt_own (k := rb) rfl
    focus
      have szE5 := E5.size; have szE4 := E4.size; have szE3 := E3.size; have szE2 := E2.size; have szE1 := E1.size
      refine Wo_buildSlice (ps := [(0, .slice _ _ _)]) (cs := [_]) rfl Try.underlying22 Try.sizeOf24 Try.zeroValue24 rfl rfl rfl rfl ?_; rintro b3 w5 hb3 E6 hB1; have hlb3 := hB1.lt; have hs4 := E6.size
      refine Wo_app1 rfl el22 rfl rfl hB1 (hO2.ext E6) (hO3.toB.ext E6).o (by omega) (by first | omega | (simp <;> omega)) (by omega) (by omega) (E4.trans E6) (by omega) ?_; have hT2 := (hO2.ext E6); rintro v1 w6 hO2 E7 M2
      have hO3 := (hO3.toB.ext E6).moves M2 hT2 (by omega); have hB1 := hB1.moves M2 hT2 (by omega); have hs5 := E7.size; refine Wo rfl (opv_assign (v := v1) rfl) ?_; refine Wo_nil ?_; refine W_region rfl ?_
      refine Wo rfl (opv_add rfl rfl (by omega)) ?_; refine Wo rfl (opv_move (v := .int _ _) rfl) ?_; refine Wo_nil ?_
    refine ⟨((k + 1, v1)), by repeat (first | exact trivial | refine And.intro rfl ?_), by repeat (first | with_reducible exact Same.refl | refine Same.upd rfl ?_ | refine Same.upds rfl ?_ | refine Same.mix rfl ?_), ?_, ?_⟩
    · exact ⟨by assumption, by omega, by rw [hts]; assumption⟩
    · simp only; omega
  · obtain rfl : k = p.length := by omega
    rw [List.take_length] at *
    focus
      have szE2 := E2.size; have szE1 := E1.size; refine W_seq ?_; refine W_region rfl ?_; refine Wo rfl (opv_lss rfl rfl) ?_; refine Wo_nil ?_; refine W_seq ?_; refine W_cond_dec rfl (fun h1 => ?_) (fun h1 => ?_); (exfalso; omega)
      refine W_exit ?_; refine exitX_same ?_; refine W_seq ?_; refine W_region rfl ?_; refine Wo rfl (opv_move (v := u) rfl) ?_; refine Wo rfl (opv_assign (v := u) rfl) ?_; refine Wo_nil ?_; refine W_ret ?_
      exact ⟨E2, hO2.toB.o.mono (by omega)⟩

theorem set_drop {α : Type} (A l : List α) (j : Nat) (hA : A.length = j) (h : j < l.length) (x : α) : (A ++ l.drop j).set j x = (A ++ [x]) ++ l.drop (j + 1) := by
  rw [List.set_append_right _ _ (by omega), hA, Nat.sub_self, List.drop_eq_getElem_cons h, List.set_cons_zero, List.append_assoc]; rfl
theorem skip_drop {α : Type} (A l : List α) (j : Nat) (h : j < l.length) : A ++ l.drop j = (A ++ [l[j]]) ++ l.drop (j + 1) := by
  rw [List.drop_eq_getElem_cons h, List.append_assoc]; rfl
theorem RowAt.same {w w' : World} {ub n uc i br m cr : Nat} (h : RowAt w (.slice (some ⟨ub, 0, none⟩) n uc) i br m cr) (e : w'.heap[ub]? = w.heap[ub]?) : RowAt w' (.slice (some ⟨ub, 0, none⟩) n uc) i br m cr := by
  obtain ⟨b, m', c, e1, h1, h2⟩ := h
  cases e1
  exact ⟨ub, n, uc, rfl, h1, by rw [World.cell?_of_block e, h2]⟩
theorem RowAt.ne {w : World} {ub n uc i br m cr : Nat} (h : RowAt w (.slice (some ⟨ub, 0, none⟩) n uc) i br m cr) : br ≠ ub := by
  obtain ⟨b, m', c, e1, h1, h2⟩ := h
  cases e1
  exact h1
theorem impl_LoopsCut_ok (w : World) (v : Value) (p : List (List Int)) (h : ESl Ints w v p) : Does Try.prog 38 [v] w (RetO w XR (lcV p)) := by
  have hle := h.le
  by_cases hp : Pic p
  · have hpic : ∀ (w : World) (pv : Value), ESl Ints w pv p → Does Try.prog 48 [pv] w (Ret w (.bool true)) := fun w pv h => by
      have := isPicture_ok w pv p h
      rw [decide_eq_true hp] at this; exact this
    have hp5 := hp.2.1
    have hp1 := hp.1
    have hV : lpsV p = (List.range p.length).map (lpV p) := if_pos hp
    obtain ⟨L, hL⟩ : ∃ L, L = lpsV p := ⟨_, rfl⟩
    have k2 : ∀ (w : World) (pv : Value), ESl Ints w pv p → Does Try.prog 64 [pv] w (RetO w XI L) := fun w pv h => hL ▸ loopsOf_ok w pv p h hp
    have k3 : ∀ (w : World) (pv : Value), ESl Ints w pv p → Does Try.prog 65 [pv] w (RetO w XR p) := fun w pv h => copyRows_ok w pv p h hp
    have hLl : L.length = p.length := by rw [hL, hV]; simp
    have hLe : ∀ (k : Nat) (hk : k < L.length), L[k] = lpV p k := fun k hk => by simp [hL, hV]
    rw [show lcV p = cutM p p.length from (if_pos hp).trans (cutM_all p).symm]
    clear hV hL
    refine fn_of_W1 Try.func38 rfl Try.results38 Try.ntmps38 rfl ?_
    focus
      refine W_seq ?_; refine W_region rfl ?_; refine Wo rfl (opv_assign (v := .slice _ _ _) rfl) ?_; refine Wo_nil ?_; refine W_seq ?_; refine W_seq ?_; refine W_region rfl ?_; refine Wo rfl (opv_move (v := v) rfl) ?_
      refine Wo_call rfl (opc1 (a := v) Try.call48 rfl) (hpic _ _ (h)) ?_; rintro _ w1 ⟨rfl, E1⟩; have hs1 := E1.size; refine Wo rfl (opv_not rfl) ?_; refine Wo_nil ?_; refine W_cond rfl (fun h1 => ?_) (fun h1 => ?_); contradiction
      refine W_skip ?_; refine W_seq ?_; refine W_region rfl ?_; refine Wo rfl (opv_move (v := v) rfl) ?_; refine Wo_call rfl (opc1 (a := v) Try.call65 rfl) (k3 _ _ ((Mono.mono E1 h))) ?_; rintro u1 w2 ⟨E2, hO1⟩; have hs2 := E2.size
      refine Wo rfl (opv_assign (v := u1) rfl) ?_; refine Wo_nil ?_; refine W_seq ?_; refine W_region rfl ?_; refine Wo rfl (opv_move (v := v) rfl) ?_
      refine Wo_call rfl (opc1 (a := v) Try.call64 rfl) (k2 _ _ ((Mono.mono (E1.trans E2) h))) ?_; rintro u2 w3 ⟨E3, hO2⟩; have hs3 := E3.size; refine Wo rfl (opv_assign (v := u2) rfl) ?_; refine Wo_nil ?_; refine W_seq ?_
      refine W_seq ?_; refine W_region rfl ?_; refine Wo rfl (opv_move (v := u1) rfl) ?_; refine Wo rfl (opv_len Try.underlying22 rfl (Owned.read hO1)) ?_; refine Wo rfl (opv_move (v := .int _ _) rfl) ?_; refine Wo_nil ?_
      refine W_block ?_
    obtain ⟨ub, uc, rfl, _⟩ := hO1.lit (by omega)
    have hub := hO1.lt_own (k := ub) rfl
    have hRA := fun k (hk : k < p.length) => hO1.rowAt hk (by rw [hp.row hk]; omega)
    refine W_loop [5, 6, 7, 17, 18, 19, 20, 21, 22, 23, 24, 25, 26, 27, 28, 29, 30, 31, 32, 33, 34, 35, 36, 37, 38, 39, 40, 41, 42, 43, 44, 45, 46, 47] (fun (k, rows) => [(17, .int .i64 (k : Nat))]) (fun (k, rows) w' => Ext w w' ∧ w3.heap.size ≤ w'.heap.size ∧ k ≤ p.length ∧ Owned w1.heap.size XR w' (.slice (some ⟨ub, 0, none⟩) p.length uc) rows ∧ OwnedB w2.heap.size w3.heap.size XI w' u2 L ∧ w'.heap[ub]? = w2.heap[ub]? ∧ rows = cutM p k ++ p.drop k) (fun x => p.length - x.1) (0, p) (by repeat (first | exact trivial | refine And.intro rfl ?_)) ?_ ?_
    · exact ⟨E1.trans (E2.trans E3), Nat.le_refl _, Nat.zero_le _, hO1.ext E3, hO2.toB, E3.block ub hub.2, by simp [cutM]⟩
    clear hO1 hO2
    rintro ⟨k, rows⟩ ρj w4 ⟨E4, hs4, hk, hO4, hLB, hUb, hrw⟩
    have hml := cutM_len p k
    have hrl : rows.length = p.length := by rw [hrw]; simp [hml]; omega
    by_cases hkl : k < p.length
    · have hrow := hp.row hkl
      have hLk := hLe k (by omega)
      obtain ⟨br, cr, hR2, hbr1, hbr2⟩ := hRA k hkl
      have hR4 := RowAt.same hR2 hUb
      have hne := RowAt.ne hR2
      have hrk : rows[k] = p[k] := by
        simp only [hrw]
        rw [List.getElem_append_right (by omega)]
        simp [hml]
      have hrkl : rows[k].length = p.length := by rw [hrk, hrow]
      rw [hrow] at hR4
      clear hRA
      focus
        have szE4 := E4.size; have szE3 := E3.size; have szE2 := E2.size; have szE1 := E1.size; refine W_seq ?_; refine W_region rfl ?_; refine Wo rfl (opv_lss rfl rfl) ?_; refine Wo_nil ?_; refine W_seq ?_
        refine W_cond_dec rfl (fun h2 => ?_) (fun h2 => ?_); refine W_skip ?_; refine W_seq ?_; refine W_block ?_; refine W_seq ?_; refine W_region rfl ?_; refine Wo rfl (opv_move (v := .int _ _) rfl) ?_
        refine Wo_rowAt Try.underlying22 Try.sizeOf24 Try.isAgg24 rfl (fun _ => rfl) rfl ⟨_, _, rfl⟩ rfl hR4 (by first | omega | (simp <;> omega)) ?_; rintro _; refine Wo rfl (opv_assign (v := .int _ _) rfl) ?_
        refine Wo rfl (opv_assign (v := .slice _ _ _) rfl) ?_; refine Wo_nil ?_; refine W_seq ?_; refine W_region rfl ?_; refine Wo rfl (opv_move (v := .slice _ _ _) rfl) ?_; refine Wo rfl (opv_len_slice Try.underlying24 rfl) ?_
        refine Wo rfl (opv_move (v := .int _ _) rfl) ?_; refine Wo_nil ?_; refine W_block ?_; rotate_left; (exfalso; omega)
      refine W_loop [7, 24, 25, 26, 27, 28, 29, 30, 31, 32, 33, 34, 35, 36, 37, 38, 39, 40, 41, 42, 43, 44, 45, 46] (fun (j, rows') => [(24, .int .i64 (j : Nat))]) (fun (j, rows') w' => Ext w w' ∧ w3.heap.size ≤ w'.heap.size ∧ j ≤ p.length ∧ Owned w1.heap.size XR w' (.slice (some ⟨ub, 0, none⟩) p.length uc) rows' ∧ OwnedB w2.heap.size w3.heap.size XI w' u2 L ∧ RowAt w' (.slice (some ⟨ub, 0, none⟩) p.length uc) k br p.length cr ∧ w'.heap[ub]? = w2.heap[ub]? ∧ rows' = rows.set k (cutP p k j ++ (p[k]).drop j)) (fun x => p.length - x.1) (0, rows) (by repeat (first | exact trivial | refine And.intro rfl ?_)) ?_ ?_
      · exact ⟨E4, hs4, Nat.zero_le _, hO4, hLB, hR4, hUb, by simp [cutP, ← hrk]⟩
      clear hO4 hLB hR4 hUb
      rintro ⟨j, rows'⟩ ρk w5 ⟨E5, hs5, hj, hO5, hLB, hR5, hUb, hrw'⟩
      have hpl := cutP_len p k j
      have hrl' : rows'.length = p.length := by rw [hrw']; simp [hrl]
      have hrk' : rows'[k] = cutP p k j ++ (p[k]).drop j := by simp only [hrw', List.getElem_set_self]
      have hrkl' : rows'[k].length = p.length := by rw [hrk']; simp [hpl, hrow]; omega
      by_cases hjl : j < p.length
      · have hLj := hLe j (by omega)
        have hsn := cutP_succ p k j
        have hbt := bit_at hp hkl hjl
        have hyes : (0 : Int) = cutE p k j → rows'.set k (rows'[k].set j 0) = rows.set k (cutP p k (j + 1) ++ (p[k]).drop (j + 1)) := fun hx => by
          rw [hrk', set_drop _ _ j hpl (by omega), hsn, ← hx]
          exact (congrArg (fun l => List.set l k _) hrw').trans (List.set_set ..)
        have hno : (p[k])[j]'(by omega) = cutE p k j → rows' = rows.set k (cutP p k (j + 1) ++ (p[k]).drop (j + 1)) := fun hx => by
          rw [hsn, ← hx, ← skip_drop _ _ j (by omega)]; exact hrw'
        focus
          have szE5 := E5.size; have szE4 := E4.size; have szE3 := E3.size; have szE2 := E2.size; have szE1 := E1.size; refine W_seq ?_; refine W_region rfl ?_; refine Wo rfl (opv_lss rfl rfl) ?_; refine Wo_nil ?_; refine W_seq ?_
          refine W_cond_dec rfl (fun h3 => ?_) (fun h3 => ?_); refine W_skip ?_; refine W_seq ?_; refine W_block ?_; refine W_seq ?_; refine W_region rfl ?_; refine Wo rfl (opv_move (v := .int _ _) rfl) ?_
          refine Wo rfl (opv_assign (v := .int _ _) rfl) ?_; refine Wo_nil ?_; refine W_seq ?_; refine W_draw mixed (by kernel_rfl) rfl ?_; refine Wq_o rfl (fun _ _ => opv_move (v := u2) rfl) ?_
          refine Wq_o rfl (fun _ _ => opv_move (v := .int _ _) rfl) ?_; refine Wq_get Try.underlying24 Try.sizeOf3 Try.isAgg3 rfl (fun _ => rfl) rfl (OwnedB.read hLB) (Ext.refl _) rfl (by first | omega | (simp <;> omega)) ?_; rintro _ _ rfl
          refine Wq_o rfl (fun _ _ => opv_geq rfl rfl) ?_; refine Wq_split_dec rfl (fun _ _ => opv_move (v := .bool _) rfl) (fun h4 => ?_) (fun h4 => ?_); refine Wq_o rfl (fun _ _ => opv_move (v := u2) rfl) ?_
          refine Wq_o rfl (fun _ _ => opv_move (v := .int _ _) rfl) ?_; refine Wq_get Try.underlying24 Try.sizeOf3 Try.isAgg3 rfl (fun _ => rfl) rfl (OwnedB.read hLB) (Ext.refl _) rfl (by first | omega | (simp <;> omega)) ?_; rintro _ _ rfl
          refine Wq_o rfl (fun _ _ => opv_move (v := u2) rfl) ?_; refine Wq_o rfl (fun _ _ => opv_move (v := .int _ _) rfl) ?_
          refine Wq_get Try.underlying24 Try.sizeOf3 Try.isAgg3 rfl (fun _ => rfl) rfl (OwnedB.read hLB) (Ext.refl _) rfl (by first | omega | (simp <;> omega)) ?_; rintro _ _ rfl; refine Wq_o rfl (fun _ _ => opv_eql rfl rfl) ?_
          refine Wq_o rfl (fun _ _ => opv_pick_t (v := .bool _) rfl rfl) ?_; refine Wq_nil (fun w6 E6 => ?_); have hs6 := E6.size; refine W_cond_dec rfl (fun h5 => ?_) (fun h5 => ?_); refine W_region rfl ?_
          refine Wo rfl (opv_move (v := .slice _ _ _) rfl) ?_; refine Wo rfl (opv_move (v := .int _ _) rfl) ?_; refine Wo rfl (opv_indexAddr Try.underlying24 Try.sizeOf3 rfl rfl (by omega)) ?_
          refine Wo_gset rfl Try.sizeOf3 rfl rfl (hO5.toB.ext E6) (hR5.ext E6) (by first | omega | (simp <;> omega)) (by first | omega | (simp <;> omega)) ?_; rintro w7 hO5 hR5 On1 K1 hz1; have E7 := On1.ext1 (E5.trans E6) (by omega)
          have hLB := (hLB.ext E6).wrote K1 (by omega); have hs7 := On1.size; refine Wo_nil ?_; refine W_region rfl ?_; refine Wo rfl (opv_add rfl rfl (by omega)) ?_; refine Wo rfl (opv_move (v := .int _ _) rfl) ?_; refine Wo_nil ?_
          rotate_left; refine W_skip ?_; refine W_region rfl ?_; refine Wo rfl (opv_add rfl rfl (by omega)) ?_; refine Wo rfl (opv_move (v := .int _ _) rfl) ?_; refine Wo_nil ?_; rotate_left; refine Wq_skip rfl ?_; refine Wq_skip rfl ?_
          refine Wq_skip rfl ?_; refine Wq_skip rfl ?_; refine Wq_skip rfl ?_; refine Wq_skip rfl ?_; refine Wq_skip rfl ?_; refine Wq_skip rfl ?_; refine Wq_skip rfl ?_; refine Wq_o rfl (fun _ _ => opv_pick_f (v := .bool _) rfl rfl) ?_
          refine Wq_nil (fun w6 E6 => ?_); have hs6 := E6.size; refine W_cond_false rfl ?_; refine W_skip ?_; refine W_region rfl ?_; refine Wo rfl (opv_add rfl rfl (by omega)) ?_; refine Wo rfl (opv_move (v := .int _ _) rfl) ?_
          refine Wo_nil ?_; rotate_left; (exfalso; omega)
        · have hx : (0 : Int) = cutE p k j := by
            unfold cutE
            rw [if_pos ⟨by rw [← hLk, ← hLj]; assumption, by rw [← hLk]; assumption⟩]
          refine ⟨((j + 1, rows'.set k (rows'[k].set j 0))), by repeat (first | exact trivial | refine And.intro rfl ?_), by repeat (first | with_reducible exact Same.refl | refine Same.upd rfl ?_ | refine Same.upds rfl ?_ | refine Same.mix rfl ?_), ?_, ?_⟩
          · exact ⟨by assumption, by omega, by omega, hO5, hLB, hR5, (K1 ub (fun e => hne e.symm)).trans ((E6.block ub (by omega)).trans hUb), hyes hx⟩
          · simp only; omega
        · have hx : (p[k])[j]'(by omega) = cutE p k j := by
            unfold cutE
            rw [if_neg (fun hc => by
              have h9 : ¬ L[k]'(by omega) = L[j]'(by omega) := by assumption
              rw [hLk, hLj] at h9; exact h9 hc.1), hbt]
          refine ⟨((j + 1, rows')), by repeat (first | exact trivial | refine And.intro rfl ?_), by repeat (first | with_reducible exact Same.refl | refine Same.upd rfl ?_ | refine Same.upds rfl ?_ | refine Same.mix rfl ?_), ?_, ?_⟩
          · exact ⟨E5.trans E6, by omega, by omega, hO5.ext E6, hLB.ext E6, RowAt.ext hR5 E6, (E6.block ub (by omega)).trans hUb, hno hx⟩
          · simp only; omega
        · have hx : (p[k])[j]'(by omega) = cutE p k j := by
            unfold cutE
            rw [if_neg (fun hc => by
              have h9 : ¬ 0 ≤ L[k]'(by omega) := by assumption
              rw [hLk] at h9; exact h9 hc.2), hbt]
          refine ⟨((j + 1, rows')), by repeat (first | exact trivial | refine And.intro rfl ?_), by repeat (first | with_reducible exact Same.refl | refine Same.upd rfl ?_ | refine Same.upds rfl ?_ | refine Same.mix rfl ?_), ?_, ?_⟩
          · exact ⟨E5.trans E6, by omega, by omega, hO5.ext E6, hLB.ext E6, RowAt.ext hR5 E6, (E6.block ub (by omega)).trans hUb, hno hx⟩
          · simp only; omega
      · obtain rfl : j = p.length := by omega
        have hsn := cutM_succ p k
        have hnew : rows' = cutM p (k + 1) ++ p.drop (k + 1) := by
          have e : (p[k]).drop p.length = [] := List.drop_of_length_le (by omega)
          rw [e, List.append_nil] at hrw'
          rw [hrw', hrw, set_drop _ _ k hml hkl, hsn]
        focus
          have szE5 := E5.size; have szE4 := E4.size; have szE3 := E3.size; have szE2 := E2.size; have szE1 := E1.size; refine W_seq ?_; refine W_region rfl ?_; refine Wo rfl (opv_lss rfl rfl) ?_; refine Wo_nil ?_; refine W_seq ?_
          refine W_cond_dec rfl (fun h3 => ?_) (fun h3 => ?_); (exfalso; omega); refine W_exit ?_; refine exitX_same ?_; refine W_region rfl ?_; refine Wo rfl (opv_add rfl rfl (by omega)) ?_; refine Wo rfl (opv_move (v := .int _ _) rfl) ?_
          refine Wo_nil ?_
        refine ⟨((k + 1, rows')), by repeat (first | exact trivial | refine And.intro rfl ?_), by repeat (first | with_reducible exact Same.refl | refine Same.upd rfl ?_ | refine Same.upds rfl ?_ | refine Same.mix rfl ?_), ?_, ?_⟩
        · exact ⟨E5, hs5, by omega, hO5, hLB, hUb, hnew⟩
        · simp only; omega
    · obtain rfl : k = p.length := by omega
      have hfin : rows = cutM p p.length := by rw [hrw]; simp
      subst hfin
      focus
        have szE4 := E4.size; have szE3 := E3.size; have szE2 := E2.size; have szE1 := E1.size; refine W_seq ?_; refine W_region rfl ?_; refine Wo rfl (opv_lss rfl rfl) ?_; refine Wo_nil ?_; refine W_seq ?_
        refine W_cond_dec rfl (fun h2 => ?_) (fun h2 => ?_); (exfalso; omega); refine W_exit ?_; refine exitX_same ?_; refine W_seq ?_; refine W_region rfl ?_; refine Wo rfl (opv_move (v := .slice _ _ _) rfl) ?_
        refine Wo rfl (opv_assign (v := .slice _ _ _) rfl) ?_; refine Wo_nil ?_; refine W_ret ?_; exact ⟨E4, hO4.toB.o.mono (by omega)⟩
  · have hpic : ∀ (w : World) (pv : Value), ESl Ints w pv p → Does Try.prog 48 [pv] w (Ret w (.bool false)) := fun w pv h => by
      have := isPicture_ok w pv p h
      rw [decide_eq_false hp] at this; exact this
    rw [show lcV p = [] from if_neg hp]
    refine fn_of_W1 Try.func38 rfl Try.results38 Try.ntmps38 rfl ?_
    focus
      refine W_seq ?_; refine W_region rfl ?_; refine Wo rfl (opv_assign (v := .slice _ _ _) rfl) ?_; refine Wo_nil ?_; refine W_seq ?_; refine W_seq ?_; refine W_region rfl ?_; refine Wo rfl (opv_move (v := v) rfl) ?_
      refine Wo_call rfl (opc1 (a := v) Try.call48 rfl) (hpic _ _ (h)) ?_; rintro _ w1 ⟨rfl, E1⟩; have hs1 := E1.size; refine Wo rfl (opv_not rfl) ?_; refine Wo_nil ?_; refine W_cond rfl (fun h1 => ?_) (fun h1 => ?_); refine W_seq ?_
      refine W_region rfl ?_; refine Wo rfl (opv_assign (v := .slice _ _ _) rfl) ?_; refine Wo_nil ?_; refine W_ret ?_; refine at_ret (v := .slice _ _ _) rfl ?_; rotate_left; contradiction
    exact ⟨by assumption, Owned.nil⟩

end Go.Proofs.Ythhaodjjfofogaa
