/- Walk of the law on LoopsOf. -/
import Derived.Test.YthhaodjjfofogaaHsWLp
import Derived.Test.YthhaodjjfofogaaHsWFndQ
namespace Go.Proofs.Ythhaodjjfofogaa
open Go.Hs
set_option maxRecDepth 10000
set_option maxHeartbeats 4000000
set_option linter.unusedVariables false
set_option linter.unusedSimpArgs false

theorem impl_PictureOk_ok (w : World) (v : Value) (p : List (List Int)) (h : ESl Ints w v p) : Does Try.prog 36 [v] w (Ret w (.bool (decide (Pic p)))) := by
  have hle := h.le
  refine fn_of_W1 Try.func36 rfl Try.results36 Try.ntmps36 rfl ?_
  focus
    refine W_seq ?_; refine W_region rfl ?_; refine Wo rfl (opv_assign (v := .bool _) rfl) ?_; refine Wo_nil ?_; refine W_seq ?_; refine W_region rfl ?_; refine Wo rfl (opv_move (v := v) rfl) ?_
    refine Wo_call rfl (opc1 (a := v) Try.call48 rfl) (isPicture_ok _ _ _ (h)) ?_; rintro _ w1 ⟨rfl, E1⟩; have hs1 := E1.size; refine Wo rfl (opv_assign (v := .bool _) rfl) ?_; refine Wo_nil ?_; refine W_ret ?_; exact ⟨rfl, E1⟩

theorem DrawLoopsOf_ok (w : World) (v : Value) (xs : List UInt8) (h : Bytes w v xs) (hc : CapOk v) :
    Does Try.prog 35 [v] w (RetDX w XR (fun p => p.length ≤ 5 ∧ (∀ r ∈ p, r.length ≤ 6))) := by
  refine fn_of_W1 Try.func35 rfl Try.results35 Try.ntmps35 rfl ?_
  have hle := h.le
  focus
    refine W_seq ?_; refine W_region rfl ?_; refine Wo rfl (opv_assign (v := .slice _ _ _) rfl) ?_; refine Wo_nil ?_; refine W_seq ?_; refine W_region rfl ?_; refine Wo rfl (opv_move (v := v) rfl) ?_
    refine Wo_call rfl (opc1 (a := v) Try.call59 rfl) (open_ok _ _ _ (h) (by assumption)) ?_; rintro _ w1 ⟨E1, y1, rfl, hy1⟩; have hs1 := E1.size
    refine Wo_call rfl (opc2 (a := .pointer _) (b := .int _ _) Try.call60 rfl rfl) (Picture_ok _ _ (by assumption) (by omega) (by omega)) ?_; rintro u1 w2 ⟨E2, hr1, x1, hO1, hy2⟩; (try dsimp only at hy2); have hlhr1 := hr1.lt
    have Ehr1 := hr1.old; have hs2 := E2.size; refine Wo rfl (opv_assign (v := u1) rfl) ?_; refine Wo_nil ?_; refine W_ret ?_; refine at_ret (v := u1) rfl ?_
  exact ⟨_, Ehr1, hO1.mono (by omega), hy2⟩

theorem faV_hasInt {p : List (List Int)} (hp : Pic p) (w : World) (u : Value) (k : Nat) (x : Bool) (hk : k < p.length) (e : cback p k = x) (h : Ints w u (ints (faV p))) : Does Try.prog 30 [u, .int .i64 (k : Int)] w (Ret w (.bool (!x))) := by
  subst e
  have := hasInt_ok w u _ h (k : Int)
  have hm : decide ((k : Int) ∈ ints (faV p)) = !cback p k := by
    rw [Bool.eq_iff_iff, decide_eq_true_iff, mem_ints]
    unfold faV
    rw [if_pos hp, List.mem_filter, List.mem_range]
    exact ⟨fun h => h.2, fun h => ⟨hk, h⟩⟩
  rw [hm] at this; exact this
theorem faV_full {p : List (List Int)} (hp : Pic p) : (ints (faV p)).length < p.length ↔ ∃ k, k < p.length ∧ cback p k = true := by
  rw [ints_len]
  unfold faV
  rw [if_pos hp]
  have h1 := List.length_filter_lt_length_iff_exists (l := List.range p.length) (p := fun k => !(cback p k))
  rw [List.length_range] at h1
  rw [h1]
  constructor
  · rintro ⟨k, h2, h3⟩; exact ⟨k, List.mem_range.1 h2, by simpa using h3⟩
  · rintro ⟨k, h2, h3⟩; exact ⟨k, List.mem_range.2 h2, by simpa using h3⟩
theorem lps_some {p : List (List Int)} (hp : Pic p) : ((List.range p.length).any fun i => decide (0 ≤ lpV p i)) = decide ((ints (faV p)).length < p.length) := by
  rw [Bool.eq_iff_iff, decide_eq_true_iff, faV_full hp, List.any_eq_true]
  constructor
  · rintro ⟨i, hi, h⟩
    have hi := List.mem_range.1 hi
    exact ⟨i, hi, lpB_cback hp hi ((lpV_pos hi).1 (of_decide_eq_true h))⟩
  · rintro ⟨k, hk, h⟩
    obtain ⟨u, hu, h2⟩ := cback_lp hp hk h
    exact ⟨u, List.mem_range.2 hu, decide_eq_true ((lpV_pos hu).2 h2)⟩
theorem FnLoopsOf_walk (w : World) (v : Value) (xs : List UInt8) (h : Bytes w v xs) (hc : CapOk v) : Does Try.prog 9 [v] w (Ret w (.bool true)) := by
  have hle := h.le
  refine fn_of_W1 Try.func9 rfl Try.results9 Try.ntmps9 rfl ?_
  focus
    refine W_seq ?_; refine W_region rfl ?_; refine Wo rfl (opv_assign (v := .bool _) rfl) ?_; refine Wo_nil ?_; refine W_seq ?_; refine W_seq ?_; refine W_region rfl ?_; refine Wo rfl (opv_move (v := v) rfl) ?_
    refine Wo rfl (opv_len Try.underlying33 rfl h) ?_; refine Wo rfl (opv_gtr rfl rfl) ?_; refine Wo_nil ?_; refine W_cond_dec rfl (fun h1 => ?_) (fun h1 => ?_); refine W_seq ?_; refine W_region rfl ?_
    refine Wo rfl (opv_assign (v := .bool _) rfl) ?_; refine Wo_nil ?_; refine W_ret ?_; exact ⟨rfl, (Ext.refl _)⟩; refine W_skip ?_; refine W_seq ?_; refine W_region rfl ?_; refine Wo rfl (opv_move (v := v) rfl) ?_
    refine Wo_call rfl (opc1 (a := v) Try.call35 rfl) (DrawLoopsOf_ok _ _ _ (h) (by assumption)) ?_; rintro u1 w1 ⟨x1, E1, hO1, hy1⟩; have hs1 := E1.size; refine Wo rfl (opv_assign (v := u1) rfl) ?_; refine Wo_nil ?_; refine W_seq ?_
    refine W_region rfl ?_; refine Wo rfl (opv_move (v := u1) rfl) ?_
  have hI : ∀ l, lpsV x1 = l → (∀ (w : World) (pv : Value), ESl Ints w pv x1 → Does Try.prog 34 [pv] w (RetO w XI l)) ∧ (∀ (w : World) (pv : Value), ESl Ints w pv x1 → Does Try.prog 33 [pv] w (RetO w XI l)) := fun l e => by
    subst e
    exact ⟨fun w pv h => impl_LoopsOf_ok w pv x1 h, fun w pv h => spec_LoopsOf_ok w pv x1 h⟩
  by_cases hp : Pic x1
  · have hp5 := hp.2.1
    have hp1 := hp.1
    obtain ⟨k1, k2⟩ := hI _ rfl
    have k5 := same_true (lpsV x1)
    have hV : lpsV x1 = (List.range x1.length).map (lpV x1) := if_pos hp
    have hLl : (lpsV x1).length = x1.length := by rw [hV]; simp
    have hLe : ∀ (k : Nat) (hk : k < (lpsV x1).length), (lpsV x1)[k] = lpV x1 k := fun k hk => by simp [hV]
    have k3 : ∀ (w : World) (pv : Value), ESl Ints w pv x1 → Does Try.prog 25 [pv] w (RetO w XI (ints (faV x1))) := fun w pv h => impl_FoundedAll_ok w pv x1 h
    have k4 := fun w u k x hk e h => faV_hasInt hp w u k x hk e h
    have hfin := lps_some hp
    have hfl := faV_len x1
    obtain ⟨L, hL⟩ : ∃ L, L = lpsV x1 := ⟨_, rfl⟩
    rw [← hL] at k1 k2 k5 hLl
    have hLe' : ∀ (k : Nat) (hk : k < L.length), L[k] = lpV x1 k := by subst hL; exact hLe
    obtain ⟨F, hF⟩ : ∃ F, F = ints (faV x1) := ⟨_, rfl⟩
    rw [← hF] at k3 hfin hfl
    have k4' : ∀ (w : World) (u : Value) (k : Nat) (x : Bool), k < x1.length → cback x1 k = x → Ints w u F → Does Try.prog 30 [u, .int .i64 (k : Int)] w (Ret w (.bool (!x))) := by subst hF; exact k4
    clear hI hV hLe hL hF k4
    focus
      have szE1 := E1.size; refine Wo_call rfl (opc1 (a := u1) Try.call34 rfl) (k1 _ _ ((Owned.read hO1))) ?_; rintro u2 w2 ⟨E2, hO2⟩; have hs2 := E2.size; refine Wo rfl (opv_assign (v := u2) rfl) ?_; refine Wo_nil ?_; refine W_seq ?_
      refine W_seq ?_; refine W_region rfl ?_; refine Wo rfl (opv_move (v := u2) rfl) ?_; refine Wo rfl (opv_move (v := u1) rfl) ?_; refine Wo_call rfl (opc1 (a := u1) Try.call33 rfl) (k2 _ _ ((Mono.mono E2 (Owned.read hO1)))) ?_
      rintro u3 w3 ⟨E3, hO3⟩; have hs3 := E3.size; refine Wo_call rfl (opc2 (a := u2) (b := u3) Try.call27 rfl rfl) (k5 _ _ _ ((Mono.mono E3 (Owned.read hO2))) ((Owned.read hO3))) ?_; rintro _ w4 ⟨rfl, E4⟩; have hs4 := E4.size
      refine Wo rfl (opv_not rfl) ?_; refine Wo_nil ?_; refine W_cond rfl (fun h2 => ?_) (fun h2 => ?_); contradiction; refine W_skip ?_; refine W_seq ?_; refine W_seq ?_; refine W_region rfl ?_; refine Wo rfl (opv_move (v := u2) rfl) ?_
      refine Wo rfl (opv_len Try.underlying24 rfl (Owned.read hO2)) ?_; refine Wo rfl (opv_eql rfl rfl) ?_; refine Wo_nil ?_; refine W_cond_dec rfl (fun h3 => ?_) (fun h3 => ?_); (exfalso; omega); refine W_skip ?_; refine W_seq ?_
      refine W_region rfl ?_; refine Wo rfl (opv_move (v := u1) rfl) ?_; refine Wo_call rfl (opc1 (a := u1) Try.call25 rfl) (k3 _ _ ((Mono.mono ((E2.trans E3).trans E4) (Owned.read hO1)))) ?_; rintro u4 w5 ⟨E5, hO4⟩; have hs5 := E5.size
      refine Wo rfl (opv_assign (v := u4) rfl) ?_; refine Wo_nil ?_; refine W_seq ?_; refine W_region rfl ?_; refine Wo rfl (opv_assign (v := .bool _) rfl) ?_; refine Wo_nil ?_; refine W_seq ?_; refine W_seq ?_; refine W_region rfl ?_
      refine Wo rfl (opv_assign (v := .int _ _) rfl) ?_; refine Wo_nil ?_; refine W_block ?_
    clear k1 k2 k3 k5
    refine W_loop [2, 6, 7, 31, 32, 33, 34, 35, 36, 37, 38, 39, 40, 41, 42, 43, 44, 45, 46, 47, 48, 49, 50, 51, 52, 53, 54, 55, 56, 57, 58, 59, 60, 61, 62, 63, 64, 65, 66, 67, 68, 69, 70, 71, 72, 73, 74, 75, 76, 77, 78, 79, 80, 81, 82, 83] (fun (k, s) => [(7, .int .i64 (k : Nat)), (6, .bool s)]) (fun (k, s) w' => Ext w5 w' ∧ k ≤ x1.length ∧ s = (List.range k).any fun i => decide (0 ≤ lpV x1 i)) (fun x => x1.length - x.1) (0, false) (by repeat (first | exact trivial | refine And.intro rfl ?_)) ?_ ?_
    · exact ⟨Ext.refl _, Nat.zero_le _, by simp⟩
    rintro ⟨k, s⟩ ρj w6 ⟨E6, hk, hs⟩
    by_cases hkl : k < x1.length
    · have hsu := any_range_succ (fun i => decide (0 ≤ lpV x1 i)) k
      rw [← hs] at hsu
      have hLk := hLe' k (by omega)
      have hle2 := lpV_le hkl
      rcases lpV_or x1 k with ⟨ha, _⟩ | ⟨n, hn, ha, hb, _⟩
      · rw [ha] at hLk hsu
        cases s with
        | true =>
          focus
            have szE6 := E6.size; have szE5 := E5.size; have szE4 := E4.size; have szE3 := E3.size; have szE2 := E2.size; have szE1 := E1.size; refine W_seq ?_; refine W_seq ?_; refine W_region rfl ?_
            refine Wo rfl (opv_move (v := .int _ _) rfl) ?_; refine Wo rfl (opv_move (v := u2) rfl) ?_; refine Wo rfl (opv_len Try.underlying24 rfl (Owned.read hO2)) ?_; refine Wo rfl (opv_lss rfl rfl) ?_; refine Wo_nil ?_
            refine W_cond_dec rfl (fun h4 => ?_) (fun h4 => ?_); refine W_skip ?_; refine W_seq ?_; refine W_block ?_; refine W_seq ?_; refine W_seq ?_; refine W_draw mixed (by kernel_rfl) rfl ?_
            refine Wq_o rfl (fun _ _ => opv_move (v := u2) rfl) ?_; refine Wq_o rfl (fun _ _ => opv_move (v := .int _ _) rfl) ?_
            refine Wq_get Try.underlying24 Try.sizeOf3 Try.isAgg3 rfl (fun _ => rfl) rfl (Owned.read hO2) (((E3.trans E4).trans E5).trans E6) rfl (by first | omega | (simp <;> omega)) ?_; rintro _ _ rfl
            refine Wq_o rfl (fun _ _ => opv_lss rfl rfl) ?_; refine Wq_split_dec rfl (fun _ _ => opv_move (v := .bool _) rfl) (fun h5 => ?_) (fun h5 => ?_); (exfalso; omega); refine Wq_o rfl (fun _ _ => opv_move (v := u2) rfl) ?_
            refine Wq_o rfl (fun _ _ => opv_move (v := .int _ _) rfl) ?_
            refine Wq_get Try.underlying24 Try.sizeOf3 Try.isAgg3 rfl (fun _ => rfl) rfl (Owned.read hO2) (((E3.trans E4).trans E5).trans E6) rfl (by first | omega | (simp <;> omega)) ?_; rintro _ _ rfl
            refine Wq_o rfl (fun _ _ => opv_move (v := .int _ _) rfl) ?_; refine Wq_o rfl (fun _ _ => opv_gtr rfl rfl) ?_; refine Wq_o rfl (fun _ _ => opv_pick_f (v := .bool _) rfl rfl) ?_
            refine Wq_split_dec rfl (fun _ _ => opv_move (v := .bool _) rfl) (fun h6 => ?_) (fun h6 => ?_); (exfalso; omega); refine Wq_o rfl (fun _ _ => opv_move (v := u2) rfl) ?_; refine Wq_o rfl (fun _ _ => opv_move (v := .int _ _) rfl) ?_
            refine Wq_get Try.underlying24 Try.sizeOf3 Try.isAgg3 rfl (fun _ => rfl) rfl (Owned.read hO2) (((E3.trans E4).trans E5).trans E6) rfl (by first | omega | (simp <;> omega)) ?_; rintro _ _ rfl
            refine Wq_o rfl (fun _ _ => opv_geq rfl rfl) ?_; refine Wq_split_dec rfl (fun _ _ => opv_move (v := .bool _) rfl) (fun h7 => ?_) (fun h7 => ?_); (exfalso; omega); refine Wq_skip rfl ?_; refine Wq_skip rfl ?_; refine Wq_skip rfl ?_
            refine Wq_skip rfl ?_; refine Wq_skip rfl ?_; refine Wq_skip rfl ?_; refine Wq_skip rfl ?_; refine Wq_skip rfl ?_; refine Wq_skip rfl ?_; refine Wq_skip rfl ?_; refine Wq_skip rfl ?_; refine Wq_skip rfl ?_; refine Wq_skip rfl ?_
            refine Wq_skip rfl ?_; refine Wq_skip rfl ?_; refine Wq_skip rfl ?_; refine Wq_skip rfl ?_; refine Wq_o rfl (fun _ _ => opv_pick_f (v := .bool _) rfl rfl) ?_; refine Wq_o rfl (fun _ _ => opv_pick_f (v := .bool _) rfl rfl) ?_
            refine Wq_nil (fun w7 E7 => ?_); have hs6 := E7.size; refine W_cond_false rfl ?_; refine W_skip ?_; refine W_region rfl ?_; refine Wo rfl (opv_move (v := .bool _) rfl) ?_; refine Wo rfl (opv_move (v := .bool _) rfl) ?_
            refine Wo_skip rfl ?_; refine Wo_skip rfl ?_; refine Wo_skip rfl ?_; refine Wo_skip rfl ?_; refine Wo_skip rfl ?_; refine Wo rfl (opv_pick_t (v := .bool _) rfl rfl) ?_; refine Wo rfl (opv_assign (v := .bool _) rfl) ?_
            refine Wo_nil ?_; refine W_region rfl ?_; refine Wo rfl (opv_move (v := .int _ _) rfl) ?_; refine Wo rfl (opv_add rfl rfl (by omega)) ?_; refine Wo rfl (opv_assign (v := .int _ _) rfl) ?_; refine Wo_nil ?_; rotate_left
            (exfalso; omega)
          refine ⟨((k + 1, true)), by repeat (first | exact trivial | refine And.intro rfl ?_), by repeat (first | with_reducible exact Same.refl | refine Same.upd rfl ?_ | refine Same.upds rfl ?_ | refine Same.mix rfl ?_), ?_, ?_⟩
          · exact ⟨E6.trans E7, by omega, by rw [hsu]; rfl⟩
          · simp only; omega
        | false =>
          focus
            have szE6 := E6.size; have szE5 := E5.size; have szE4 := E4.size; have szE3 := E3.size; have szE2 := E2.size; have szE1 := E1.size; refine W_seq ?_; refine W_seq ?_; refine W_region rfl ?_
            refine Wo rfl (opv_move (v := .int _ _) rfl) ?_; refine Wo rfl (opv_move (v := u2) rfl) ?_; refine Wo rfl (opv_len Try.underlying24 rfl (Owned.read hO2)) ?_; refine Wo rfl (opv_lss rfl rfl) ?_; refine Wo_nil ?_
            refine W_cond_dec rfl (fun h4 => ?_) (fun h4 => ?_); refine W_skip ?_; refine W_seq ?_; refine W_block ?_; refine W_seq ?_; refine W_seq ?_; refine W_draw mixed (by kernel_rfl) rfl ?_
            refine Wq_o rfl (fun _ _ => opv_move (v := u2) rfl) ?_; refine Wq_o rfl (fun _ _ => opv_move (v := .int _ _) rfl) ?_
            refine Wq_get Try.underlying24 Try.sizeOf3 Try.isAgg3 rfl (fun _ => rfl) rfl (Owned.read hO2) (((E3.trans E4).trans E5).trans E6) rfl (by first | omega | (simp <;> omega)) ?_; rintro _ _ rfl
            refine Wq_o rfl (fun _ _ => opv_lss rfl rfl) ?_; refine Wq_split_dec rfl (fun _ _ => opv_move (v := .bool _) rfl) (fun h5 => ?_) (fun h5 => ?_); (exfalso; omega); refine Wq_o rfl (fun _ _ => opv_move (v := u2) rfl) ?_
            refine Wq_o rfl (fun _ _ => opv_move (v := .int _ _) rfl) ?_
            refine Wq_get Try.underlying24 Try.sizeOf3 Try.isAgg3 rfl (fun _ => rfl) rfl (Owned.read hO2) (((E3.trans E4).trans E5).trans E6) rfl (by first | omega | (simp <;> omega)) ?_; rintro _ _ rfl
            refine Wq_o rfl (fun _ _ => opv_move (v := .int _ _) rfl) ?_; refine Wq_o rfl (fun _ _ => opv_gtr rfl rfl) ?_; refine Wq_o rfl (fun _ _ => opv_pick_f (v := .bool _) rfl rfl) ?_
            refine Wq_split_dec rfl (fun _ _ => opv_move (v := .bool _) rfl) (fun h6 => ?_) (fun h6 => ?_); (exfalso; omega); refine Wq_o rfl (fun _ _ => opv_move (v := u2) rfl) ?_; refine Wq_o rfl (fun _ _ => opv_move (v := .int _ _) rfl) ?_
            refine Wq_get Try.underlying24 Try.sizeOf3 Try.isAgg3 rfl (fun _ => rfl) rfl (Owned.read hO2) (((E3.trans E4).trans E5).trans E6) rfl (by first | omega | (simp <;> omega)) ?_; rintro _ _ rfl
            refine Wq_o rfl (fun _ _ => opv_geq rfl rfl) ?_; refine Wq_split_dec rfl (fun _ _ => opv_move (v := .bool _) rfl) (fun h7 => ?_) (fun h7 => ?_); (exfalso; omega); refine Wq_skip rfl ?_; refine Wq_skip rfl ?_; refine Wq_skip rfl ?_
            refine Wq_skip rfl ?_; refine Wq_skip rfl ?_; refine Wq_skip rfl ?_; refine Wq_skip rfl ?_; refine Wq_skip rfl ?_; refine Wq_skip rfl ?_; refine Wq_skip rfl ?_; refine Wq_skip rfl ?_; refine Wq_skip rfl ?_; refine Wq_skip rfl ?_
            refine Wq_skip rfl ?_; refine Wq_skip rfl ?_; refine Wq_skip rfl ?_; refine Wq_skip rfl ?_; refine Wq_o rfl (fun _ _ => opv_pick_f (v := .bool _) rfl rfl) ?_; refine Wq_o rfl (fun _ _ => opv_pick_f (v := .bool _) rfl rfl) ?_
            refine Wq_nil (fun w7 E7 => ?_); have hs6 := E7.size; refine W_cond_false rfl ?_; refine W_skip ?_; refine W_region rfl ?_; refine Wo rfl (opv_move (v := .bool _) rfl) ?_; refine Wo rfl (opv_move (v := .bool _) rfl) ?_
            refine Wo rfl (opv_move (v := u2) rfl) ?_; refine Wo rfl (opv_move (v := .int _ _) rfl) ?_
            refine Wo_get Try.underlying24 Try.sizeOf3 Try.isAgg3 rfl (fun _ => rfl) rfl (Owned.read hO2) ((((E3.trans E4).trans E5).trans E6).trans E7) rfl (by first | omega | (simp <;> omega)) ?_; rintro _ _ rfl
            refine Wo rfl (opv_geq rfl rfl) ?_; refine Wo rfl (opv_pick_f (v := .bool _) rfl rfl) ?_; refine Wo rfl (opv_assign (v := .bool _) rfl) ?_; refine Wo_nil ?_; refine W_region rfl ?_; refine Wo rfl (opv_move (v := .int _ _) rfl) ?_
            refine Wo rfl (opv_add rfl rfl (by omega)) ?_; refine Wo rfl (opv_assign (v := .int _ _) rfl) ?_; refine Wo_nil ?_; rotate_left; (exfalso; omega)
          refine ⟨((k + 1, decide (0 ≤ L[k]'(by omega)))), by repeat (first | exact trivial | refine And.intro rfl ?_), by repeat (first | with_reducible exact Same.refl | refine Same.upd rfl ?_ | refine Same.upds rfl ?_ | refine Same.mix rfl ?_), ?_, ?_⟩
          · exact ⟨E6.trans E7, by omega, by rw [hsu, hLk]; rfl⟩
          · simp only; omega
      · have hcb := lpB_cback hp hkl (lpB_self hb)
        have k6 : ∀ (w : World) (u : Value), Ints w u F → Does Try.prog 30 [u, .int .i64 (k : Int)] w (Ret w (.bool false)) := fun w u h => k4' w u k true hkl hcb h
        have hLn := hLe' n (by omega)
        rw [← lpV_cong hb, ha] at hLn
        rw [ha] at hLk hsu
        have hLL : ∀ (h : (L[k]'(by omega)).toNat < L.length), L[(L[k]'(by omega)).toNat]'h = L[k]'(by omega) := fun h => (hLe' _ h).trans (by rw [show (L[k]'(by omega)).toNat = n by omega, ← lpV_cong hb, ha, hLk])
        cases s with
        | true =>
          focus
            have szE6 := E6.size; have szE5 := E5.size; have szE4 := E4.size; have szE3 := E3.size; have szE2 := E2.size; have szE1 := E1.size; refine W_seq ?_; refine W_seq ?_; refine W_region rfl ?_
            refine Wo rfl (opv_move (v := .int _ _) rfl) ?_; refine Wo rfl (opv_move (v := u2) rfl) ?_; refine Wo rfl (opv_len Try.underlying24 rfl (Owned.read hO2)) ?_; refine Wo rfl (opv_lss rfl rfl) ?_; refine Wo_nil ?_
            refine W_cond_dec rfl (fun h4 => ?_) (fun h4 => ?_); refine W_skip ?_; refine W_seq ?_; refine W_block ?_; refine W_seq ?_; refine W_seq ?_; refine W_draw mixed (by kernel_rfl) rfl ?_
            refine Wq_o rfl (fun _ _ => opv_move (v := u2) rfl) ?_; refine Wq_o rfl (fun _ _ => opv_move (v := .int _ _) rfl) ?_
            refine Wq_get Try.underlying24 Try.sizeOf3 Try.isAgg3 rfl (fun _ => rfl) rfl (Owned.read hO2) (((E3.trans E4).trans E5).trans E6) rfl (by first | omega | (simp <;> omega)) ?_; rintro _ _ rfl
            refine Wq_o rfl (fun _ _ => opv_lss rfl rfl) ?_; refine Wq_split_dec rfl (fun _ _ => opv_move (v := .bool _) rfl) (fun h5 => ?_) (fun h5 => ?_); (exfalso; omega); refine Wq_o rfl (fun _ _ => opv_move (v := u2) rfl) ?_
            refine Wq_o rfl (fun _ _ => opv_move (v := .int _ _) rfl) ?_
            refine Wq_get Try.underlying24 Try.sizeOf3 Try.isAgg3 rfl (fun _ => rfl) rfl (Owned.read hO2) (((E3.trans E4).trans E5).trans E6) rfl (by first | omega | (simp <;> omega)) ?_; rintro _ _ rfl
            refine Wq_o rfl (fun _ _ => opv_move (v := .int _ _) rfl) ?_; refine Wq_o rfl (fun _ _ => opv_gtr rfl rfl) ?_; refine Wq_o rfl (fun _ _ => opv_pick_f (v := .bool _) rfl rfl) ?_
            refine Wq_split_dec rfl (fun _ _ => opv_move (v := .bool _) rfl) (fun h6 => ?_) (fun h6 => ?_); (exfalso; omega); refine Wq_o rfl (fun _ _ => opv_move (v := u2) rfl) ?_; refine Wq_o rfl (fun _ _ => opv_move (v := .int _ _) rfl) ?_
            refine Wq_get Try.underlying24 Try.sizeOf3 Try.isAgg3 rfl (fun _ => rfl) rfl (Owned.read hO2) (((E3.trans E4).trans E5).trans E6) rfl (by first | omega | (simp <;> omega)) ?_; rintro _ _ rfl
            refine Wq_o rfl (fun _ _ => opv_geq rfl rfl) ?_; refine Wq_split_dec rfl (fun _ _ => opv_move (v := .bool _) rfl) (fun h7 => ?_) (fun h7 => ?_); refine Wq_o rfl (fun _ _ => opv_move (v := u4) rfl) ?_
            refine Wq_o rfl (fun _ _ => opv_move (v := .int _ _) rfl) ?_; refine Wq_call rfl (fun _ _ => opc2 (a := u4) (b := .int _ _) Try.call30 rfl rfl) (fun w' hw' => (k6 _ _ ((Mono.mono (E6.trans hw') (Owned.read hO4))))) ?_
            refine Wq_o rfl (fun _ _ => opv_move (v := .bool _) rfl) ?_; refine Wq_o rfl (fun _ _ => opv_move (v := u2) rfl) ?_; refine Wq_o rfl (fun _ _ => opv_move (v := u2) rfl) ?_
            refine Wq_o rfl (fun _ _ => opv_move (v := .int _ _) rfl) ?_
            refine Wq_get Try.underlying24 Try.sizeOf3 Try.isAgg3 rfl (fun _ => rfl) rfl (Owned.read hO2) (((E3.trans E4).trans E5).trans E6) rfl (by first | omega | (simp <;> omega)) ?_; rintro _ _ rfl
            refine Wq_get_z Try.underlying24 Try.sizeOf3 Try.isAgg3 rfl (fun _ => rfl) rfl (Owned.read hO2) (((E3.trans E4).trans E5).trans E6) rfl (by first | omega | (simp <;> omega)) ?_; rintro _ _ rfl
            refine Wq_o rfl (fun _ _ => opv_move (v := u2) rfl) ?_; refine Wq_o rfl (fun _ _ => opv_move (v := .int _ _) rfl) ?_
            refine Wq_get Try.underlying24 Try.sizeOf3 Try.isAgg3 rfl (fun _ => rfl) rfl (Owned.read hO2) (((E3.trans E4).trans E5).trans E6) rfl (by first | omega | (simp <;> omega)) ?_; rintro _ _ rfl
            refine Wq_o rfl (fun _ _ => opv_neq rfl rfl) ?_; refine Wq_o rfl (fun _ _ => opv_pick_f (v := .bool _) rfl rfl) ?_; refine Wq_o rfl (fun _ _ => opv_pick_t (v := .bool _) rfl rfl) ?_
            refine Wq_o rfl (fun _ _ => opv_pick_f (v := .bool _) rfl rfl) ?_; refine Wq_nil (fun w7 E7 => ?_); have hs6 := E7.size; refine W_cond_ndec rfl (fun h8 => ?_) (fun h8 => ?_); refine W_seq ?_; refine W_region rfl ?_
            refine Wo rfl (opv_assign (v := .bool _) rfl) ?_; refine Wo_nil ?_; refine W_ret ?_; refine at_ret (v := .bool _) rfl ?_; refine ⟨congrArg Value.bool ?_, ((((((E1.trans E2).trans E3).trans E4).trans E5).trans E6).trans E7)⟩
            rotate_left; refine W_skip ?_; refine W_region rfl ?_; refine Wo rfl (opv_move (v := .bool _) rfl) ?_; refine Wo rfl (opv_move (v := .bool _) rfl) ?_; refine Wo_skip rfl ?_; refine Wo_skip rfl ?_; refine Wo_skip rfl ?_
            refine Wo_skip rfl ?_; refine Wo_skip rfl ?_; refine Wo rfl (opv_pick_t (v := .bool _) rfl rfl) ?_; refine Wo rfl (opv_assign (v := .bool _) rfl) ?_; refine Wo_nil ?_; refine W_region rfl ?_
            refine Wo rfl (opv_move (v := .int _ _) rfl) ?_; refine Wo rfl (opv_add rfl rfl (by omega)) ?_; refine Wo rfl (opv_assign (v := .int _ _) rfl) ?_; refine Wo_nil ?_; rotate_left; (exfalso; omega); (exfalso; omega)
          · exact absurd (hLL (by omega)) (by assumption)
          refine ⟨((k + 1, true)), by repeat (first | exact trivial | refine And.intro rfl ?_), by repeat (first | with_reducible exact Same.refl | refine Same.upd rfl ?_ | refine Same.upds rfl ?_ | refine Same.mix rfl ?_), ?_, ?_⟩
          · exact ⟨E6.trans E7, by omega, by rw [hsu]; rfl⟩
          · simp only; omega
        | false =>
          focus
            have szE6 := E6.size; have szE5 := E5.size; have szE4 := E4.size; have szE3 := E3.size; have szE2 := E2.size; have szE1 := E1.size; refine W_seq ?_; refine W_seq ?_; refine W_region rfl ?_
            refine Wo rfl (opv_move (v := .int _ _) rfl) ?_; refine Wo rfl (opv_move (v := u2) rfl) ?_; refine Wo rfl (opv_len Try.underlying24 rfl (Owned.read hO2)) ?_; refine Wo rfl (opv_lss rfl rfl) ?_; refine Wo_nil ?_
            refine W_cond_dec rfl (fun h4 => ?_) (fun h4 => ?_); refine W_skip ?_; refine W_seq ?_; refine W_block ?_; refine W_seq ?_; refine W_seq ?_; refine W_draw mixed (by kernel_rfl) rfl ?_
            refine Wq_o rfl (fun _ _ => opv_move (v := u2) rfl) ?_; refine Wq_o rfl (fun _ _ => opv_move (v := .int _ _) rfl) ?_
            refine Wq_get Try.underlying24 Try.sizeOf3 Try.isAgg3 rfl (fun _ => rfl) rfl (Owned.read hO2) (((E3.trans E4).trans E5).trans E6) rfl (by first | omega | (simp <;> omega)) ?_; rintro _ _ rfl
            refine Wq_o rfl (fun _ _ => opv_lss rfl rfl) ?_; refine Wq_split_dec rfl (fun _ _ => opv_move (v := .bool _) rfl) (fun h5 => ?_) (fun h5 => ?_); (exfalso; omega); refine Wq_o rfl (fun _ _ => opv_move (v := u2) rfl) ?_
            refine Wq_o rfl (fun _ _ => opv_move (v := .int _ _) rfl) ?_
            refine Wq_get Try.underlying24 Try.sizeOf3 Try.isAgg3 rfl (fun _ => rfl) rfl (Owned.read hO2) (((E3.trans E4).trans E5).trans E6) rfl (by first | omega | (simp <;> omega)) ?_; rintro _ _ rfl
            refine Wq_o rfl (fun _ _ => opv_move (v := .int _ _) rfl) ?_; refine Wq_o rfl (fun _ _ => opv_gtr rfl rfl) ?_; refine Wq_o rfl (fun _ _ => opv_pick_f (v := .bool _) rfl rfl) ?_
            refine Wq_split_dec rfl (fun _ _ => opv_move (v := .bool _) rfl) (fun h6 => ?_) (fun h6 => ?_); (exfalso; omega); refine Wq_o rfl (fun _ _ => opv_move (v := u2) rfl) ?_; refine Wq_o rfl (fun _ _ => opv_move (v := .int _ _) rfl) ?_
            refine Wq_get Try.underlying24 Try.sizeOf3 Try.isAgg3 rfl (fun _ => rfl) rfl (Owned.read hO2) (((E3.trans E4).trans E5).trans E6) rfl (by first | omega | (simp <;> omega)) ?_; rintro _ _ rfl
            refine Wq_o rfl (fun _ _ => opv_geq rfl rfl) ?_; refine Wq_split_dec rfl (fun _ _ => opv_move (v := .bool _) rfl) (fun h7 => ?_) (fun h7 => ?_); refine Wq_o rfl (fun _ _ => opv_move (v := u4) rfl) ?_
            refine Wq_o rfl (fun _ _ => opv_move (v := .int _ _) rfl) ?_; refine Wq_call rfl (fun _ _ => opc2 (a := u4) (b := .int _ _) Try.call30 rfl rfl) (fun w' hw' => (k6 _ _ ((Mono.mono (E6.trans hw') (Owned.read hO4))))) ?_
            refine Wq_o rfl (fun _ _ => opv_move (v := .bool _) rfl) ?_; refine Wq_o rfl (fun _ _ => opv_move (v := u2) rfl) ?_; refine Wq_o rfl (fun _ _ => opv_move (v := u2) rfl) ?_
            refine Wq_o rfl (fun _ _ => opv_move (v := .int _ _) rfl) ?_
            refine Wq_get Try.underlying24 Try.sizeOf3 Try.isAgg3 rfl (fun _ => rfl) rfl (Owned.read hO2) (((E3.trans E4).trans E5).trans E6) rfl (by first | omega | (simp <;> omega)) ?_; rintro _ _ rfl
            refine Wq_get_z Try.underlying24 Try.sizeOf3 Try.isAgg3 rfl (fun _ => rfl) rfl (Owned.read hO2) (((E3.trans E4).trans E5).trans E6) rfl (by first | omega | (simp <;> omega)) ?_; rintro _ _ rfl
            refine Wq_o rfl (fun _ _ => opv_move (v := u2) rfl) ?_; refine Wq_o rfl (fun _ _ => opv_move (v := .int _ _) rfl) ?_
            refine Wq_get Try.underlying24 Try.sizeOf3 Try.isAgg3 rfl (fun _ => rfl) rfl (Owned.read hO2) (((E3.trans E4).trans E5).trans E6) rfl (by first | omega | (simp <;> omega)) ?_; rintro _ _ rfl
            refine Wq_o rfl (fun _ _ => opv_neq rfl rfl) ?_; refine Wq_o rfl (fun _ _ => opv_pick_f (v := .bool _) rfl rfl) ?_; refine Wq_o rfl (fun _ _ => opv_pick_t (v := .bool _) rfl rfl) ?_
            refine Wq_o rfl (fun _ _ => opv_pick_f (v := .bool _) rfl rfl) ?_; refine Wq_nil (fun w7 E7 => ?_); have hs6 := E7.size; refine W_cond_ndec rfl (fun h8 => ?_) (fun h8 => ?_); refine W_seq ?_; refine W_region rfl ?_
            refine Wo rfl (opv_assign (v := .bool _) rfl) ?_; refine Wo_nil ?_; refine W_ret ?_; refine at_ret (v := .bool _) rfl ?_; refine ⟨congrArg Value.bool ?_, ((((((E1.trans E2).trans E3).trans E4).trans E5).trans E6).trans E7)⟩
            rotate_left; refine W_skip ?_; refine W_region rfl ?_; refine Wo rfl (opv_move (v := .bool _) rfl) ?_; refine Wo rfl (opv_move (v := .bool _) rfl) ?_; refine Wo rfl (opv_move (v := u2) rfl) ?_
            refine Wo rfl (opv_move (v := .int _ _) rfl) ?_
            refine Wo_get Try.underlying24 Try.sizeOf3 Try.isAgg3 rfl (fun _ => rfl) rfl (Owned.read hO2) ((((E3.trans E4).trans E5).trans E6).trans E7) rfl (by first | omega | (simp <;> omega)) ?_; rintro _ _ rfl
            refine Wo rfl (opv_geq rfl rfl) ?_; refine Wo rfl (opv_pick_f (v := .bool _) rfl rfl) ?_; refine Wo rfl (opv_assign (v := .bool _) rfl) ?_; refine Wo_nil ?_; refine W_region rfl ?_; refine Wo rfl (opv_move (v := .int _ _) rfl) ?_
            refine Wo rfl (opv_add rfl rfl (by omega)) ?_; refine Wo rfl (opv_assign (v := .int _ _) rfl) ?_; refine Wo_nil ?_; rotate_left; (exfalso; omega); (exfalso; omega)
          · exact absurd (hLL (by omega)) (by assumption)
          refine ⟨((k + 1, decide (0 ≤ L[k]'(by omega)))), by repeat (first | exact trivial | refine And.intro rfl ?_), by repeat (first | with_reducible exact Same.refl | refine Same.upd rfl ?_ | refine Same.upds rfl ?_ | refine Same.mix rfl ?_), ?_, ?_⟩
          · exact ⟨E6.trans E7, by omega, by rw [hsu, hLk]; rfl⟩
          · simp only; omega
    · obtain rfl : k = x1.length := by omega
      rw [hfin] at hs
      cases s with
      | true =>
        have hlt := of_decide_eq_true hs.symm
        focus
          have szE6 := E6.size; have szE5 := E5.size; have szE4 := E4.size; have szE3 := E3.size; have szE2 := E2.size; have szE1 := E1.size; refine W_seq ?_; refine W_seq ?_; refine W_region rfl ?_
          refine Wo rfl (opv_move (v := .int _ _) rfl) ?_; refine Wo rfl (opv_move (v := u2) rfl) ?_; refine Wo rfl (opv_len Try.underlying24 rfl (Owned.read hO2)) ?_; refine Wo rfl (opv_lss rfl rfl) ?_; refine Wo_nil ?_
          refine W_cond_dec rfl (fun h4 => ?_) (fun h4 => ?_); (exfalso; omega); refine W_exit ?_; refine exitX_same ?_; refine W_seq ?_; refine W_region rfl ?_; refine Wo rfl (opv_move (v := .bool _) rfl) ?_
          refine Wo rfl (opv_move (v := u4) rfl) ?_; refine Wo rfl (opv_len Try.underlying24 rfl (Owned.read hO4)) ?_; refine Wo rfl (opv_move (v := u1) rfl) ?_; refine Wo rfl (opv_len Try.underlying22 rfl (Owned.read hO1)) ?_
          refine Wo rfl (opv_lss rfl rfl) ?_; refine Wo rfl (opv_eql_bool Try.underlying4 rfl rfl) ?_; refine Wo rfl (opv_assign (v := .bool _) rfl) ?_; refine Wo_nil ?_; refine W_ret ?_; refine at_ret (v := .bool _) rfl ?_
          refine ⟨congrArg Value.bool ?_, (((((E1.trans E2).trans E3).trans E4).trans E5).trans E6)⟩
        rw [decide_eq_true (show (F.length : Int) < x1.length by omega)]; rfl
      | false =>
        have hlt := of_decide_eq_false hs.symm
        focus
          have szE6 := E6.size; have szE5 := E5.size; have szE4 := E4.size; have szE3 := E3.size; have szE2 := E2.size; have szE1 := E1.size; refine W_seq ?_; refine W_seq ?_; refine W_region rfl ?_
          refine Wo rfl (opv_move (v := .int _ _) rfl) ?_; refine Wo rfl (opv_move (v := u2) rfl) ?_; refine Wo rfl (opv_len Try.underlying24 rfl (Owned.read hO2)) ?_; refine Wo rfl (opv_lss rfl rfl) ?_; refine Wo_nil ?_
          refine W_cond_dec rfl (fun h4 => ?_) (fun h4 => ?_); (exfalso; omega); refine W_exit ?_; refine exitX_same ?_; refine W_seq ?_; refine W_region rfl ?_; refine Wo rfl (opv_move (v := .bool _) rfl) ?_
          refine Wo rfl (opv_move (v := u4) rfl) ?_; refine Wo rfl (opv_len Try.underlying24 rfl (Owned.read hO4)) ?_; refine Wo rfl (opv_move (v := u1) rfl) ?_; refine Wo rfl (opv_len Try.underlying22 rfl (Owned.read hO1)) ?_
          refine Wo rfl (opv_lss rfl rfl) ?_; refine Wo rfl (opv_eql_bool Try.underlying4 rfl rfl) ?_; refine Wo rfl (opv_assign (v := .bool _) rfl) ?_; refine Wo_nil ?_; refine W_ret ?_; refine at_ret (v := .bool _) rfl ?_
          refine ⟨congrArg Value.bool ?_, (((((E1.trans E2).trans E3).trans E4).trans E5).trans E6)⟩
        rw [decide_eq_false (show ¬(F.length : Int) < x1.length by omega)]; rfl
  · obtain ⟨k1, k2⟩ := hI [] (if_neg hp)
    have k5 := same_true []
    have h00 : ([] : List Int).length = 0 := rfl
    have k3 : ∀ (w : World) (pv : Value), ESl Ints w pv x1 → Does Try.prog 36 [pv] w (Ret w (.bool false)) := fun w pv h => by
      have := impl_PictureOk_ok w pv x1 h
      rw [decide_eq_false hp] at this; exact this
    clear hI
    focus
      have szE1 := E1.size; refine Wo_call rfl (opc1 (a := u1) Try.call34 rfl) (k1 _ _ ((Owned.read hO1))) ?_; rintro u2 w2 ⟨E2, hO2⟩; have hs2 := E2.size; refine Wo rfl (opv_assign (v := u2) rfl) ?_; refine Wo_nil ?_; refine W_seq ?_
      refine W_seq ?_; refine W_region rfl ?_; refine Wo rfl (opv_move (v := u2) rfl) ?_; refine Wo rfl (opv_move (v := u1) rfl) ?_; refine Wo_call rfl (opc1 (a := u1) Try.call33 rfl) (k2 _ _ ((Mono.mono E2 (Owned.read hO1)))) ?_
      rintro u3 w3 ⟨E3, hO3⟩; have hs3 := E3.size; refine Wo_call rfl (opc2 (a := u2) (b := u3) Try.call27 rfl rfl) (k5 _ _ _ ((Mono.mono E3 (Owned.read hO2))) ((Owned.read hO3))) ?_; rintro _ w4 ⟨rfl, E4⟩; have hs4 := E4.size
      refine Wo rfl (opv_not rfl) ?_; refine Wo_nil ?_; refine W_cond rfl (fun h2 => ?_) (fun h2 => ?_); contradiction; refine W_skip ?_; refine W_seq ?_; refine W_seq ?_; refine W_region rfl ?_; refine Wo rfl (opv_move (v := u2) rfl) ?_
      refine Wo rfl (opv_len Try.underlying24 rfl (Owned.read hO2)) ?_; refine Wo rfl (opv_eql rfl rfl) ?_; refine Wo_nil ?_; refine W_cond_dec rfl (fun h3 => ?_) (fun h3 => ?_); refine W_seq ?_; refine W_region rfl ?_
      refine Wo rfl (opv_move (v := u1) rfl) ?_; refine Wo_call rfl (opc1 (a := u1) Try.call36 rfl) (k3 _ _ ((Mono.mono ((E2.trans E3).trans E4) (Owned.read hO1)))) ?_; rintro _ w5 ⟨rfl, E5⟩; have hs5 := E5.size
      refine Wo rfl (opv_not rfl) ?_; refine Wo_split rfl (opv_move (v := .bool _) rfl) (fun h4 => ?_) (fun h4 => ?_); refine Wo_call rfl (opc0 Try.call29) (alive_ok _) ?_; rintro _ w6 ⟨rfl, E6⟩; have hs6 := E6.size
      refine Wo rfl (opv_pick_t (v := .bool _) rfl rfl) ?_; refine Wo rfl (opv_assign (v := .bool _) rfl) ?_; refine Wo_nil ?_; refine W_ret ?_; exact ⟨rfl, (((((E1.trans E2).trans E3).trans E4).trans E5).trans E6)⟩; contradiction
      contradiction

end Go.Proofs.Ythhaodjjfofogaa
