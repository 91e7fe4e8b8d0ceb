/- Walks: the places where a formula holds. -/
import Derived.Test.YtjdfnngmbaojjaaHsWFmS
import Derived.Test.YtjdfnngmbaojjaaHsWMark
namespace Go.Proofs.Ytjdfnngmbaojjaa
open Go.Hs
set_option maxRecDepth 10000
set_option maxHeartbeats 4000000
set_option linter.unusedVariables false
set_option linter.unusedSimpArgs false
noncomputable def placesV (s : List UInt8) (p : List (List Int)) : List Nat := (List.range p.length).filter fun k => holdsV s p (k : Int)

theorem spec_PlacesOf_ok (s : List UInt8) (w : World) (pv : Value) (p : List (List Int)) (hl : s.length ≤ lim) (h : ESl Ints w pv p) (hp : p.length ≤ 1048576) : Does Try.prog 31 [str s, pv] w (RetO w XI (ints (placesV s p))) := by
  refine fn_of_W1 Try.func31 rfl Try.results31 Try.ntmps31 rfl ?_
  focus
    refine W_seq ?_; refine W_region rfl ?_; refine Wo rfl (opv_assign (v := .slice _ _ _) rfl) ?_; refine Wo_nil ?_; refine W_seq ?_; refine W_region rfl ?_; refine Wo_lit0 XInt rfl el38 Try.sizeOf3 ?_; rintro b1 w1 hb1 b1lt E1 hO1
    have hs1 := E1.size; refine Wo rfl (opv_assign (v := .slice _ _ _) rfl) ?_; refine Wo_nil ?_; refine W_seq ?_; refine W_seq ?_; refine W_region rfl ?_; refine Wo rfl (opv_assign (v := .int _ _) rfl) ?_; refine Wo_nil ?_
    refine W_block ?_
  refine W_loop [5, 6, 8, 9, 10, 11, 12, 13, 14, 15, 16, 17, 18, 19, 20, 21] (fun (k, u) => [(6, .int .i64 (k : Nat)), (5, u)]) (fun (k, u) w' => Ext w w' ∧ k ≤ p.length ∧ Owned w.heap.size XI w' u (ints ((List.range k).filter fun k => holdsV s p (k : Int)))) (fun x => p.length - x.1) (0, .slice (some ⟨b1, 0, none⟩) 0 0) (by repeat (first | exact trivial | refine And.intro rfl ?_)) ?_ ?_
  · exact ⟨by assumption, Nat.zero_le _, by simpa [ints] using hO1⟩
  rintro ⟨k, u⟩ ρj w2 ⟨E2, hk, hO2⟩
  have hll : (ints ((List.range k).filter fun k => holdsV s p (k : Int))).length ≤ k := by
    rw [ints_len]; exact Nat.le_trans (List.length_filter_le _ _) (by simp)
  have hfs := filter_range_succ (fun k => holdsV s p (k : Int)) k
  focus
    have szE2 := E2.size; have szE1 := E1.size; refine W_seq ?_; refine W_seq ?_; refine W_region rfl ?_; refine Wo rfl (opv_move (v := .int _ _) rfl) ?_; refine Wo rfl (opv_move (v := pv) rfl) ?_
    refine Wo rfl (opv_len Try.underlying30 rfl h) ?_; refine Wo rfl (opv_lss rfl rfl) ?_; refine Wo_nil ?_; refine W_cond_dec rfl (fun h1 => ?_) (fun h1 => ?_); refine W_skip ?_; refine W_seq ?_; refine W_block ?_; refine W_seq ?_
    refine W_region rfl ?_; refine Wo rfl (opv_move (v := .string _) rfl) ?_; refine Wo rfl (opv_move (v := pv) rfl) ?_; refine Wo rfl (opv_move (v := .int _ _) rfl) ?_
    refine Wo_call rfl (opc3 (a := .string _) (b := pv) (c := .int _ _) Try.call25 rfl rfl rfl) (spec_HoldsAt_ok _ _ _ _ _ (by assumption) ((Mono.mono E2 h))) ?_; rintro _ w3 ⟨rfl, E3⟩; have hs2 := E3.size; refine Wo_nil ?_
    refine W_cond rfl (fun h2 => ?_) (fun h2 => ?_); refine W_region rfl ?_; refine Wo rfl (opv_move (v := u) rfl) ?_; refine Wo rfl (opv_move (v := .int _ _) rfl) ?_
    refine Wo_buildSlice (ps := [(0, .int _ _)]) (cs := [_]) rfl Try.underlying38 Try.sizeOf3 Try.zeroValue3 rfl rfl rfl rfl ?_; rintro b2 w4 hb2 E4 hB1; have hlb2 := hB1.lt; have hs3 := E4.size
    refine Wo_app1 rfl el38 rfl rfl hB1 (hO2.toB.ext (E3.trans E4)) Owned.int (Nat.le_refl _) (by first | omega | (simp <;> omega)) (by omega) (by omega) ((E2.trans E3).trans E4) (by omega) ?_; have hT1 := (hO2.toB.ext (E3.trans E4))
    rintro v1 w5 hO2 E5 M1; have hB1 := hB1.moves M1 hT1 (by omega); have hs4 := E5.size; refine Wo rfl (opv_assign (v := v1) rfl) ?_; refine Wo_nil ?_; refine W_region rfl ?_; refine Wo rfl (opv_move (v := .int _ _) rfl) ?_
    refine Wo rfl (opv_add rfl rfl (by omega)) ?_; refine Wo rfl (opv_assign (v := .int _ _) rfl) ?_; refine Wo_nil ?_; rotate_left; refine W_skip ?_; refine W_region rfl ?_; refine Wo rfl (opv_move (v := .int _ _) rfl) ?_
    refine Wo rfl (opv_add rfl rfl (by omega)) ?_; refine Wo rfl (opv_assign (v := .int _ _) rfl) ?_; refine Wo_nil ?_; rotate_left; refine W_exit ?_; refine exitX_same ?_; refine W_seq ?_; refine W_region rfl ?_
    refine Wo rfl (opv_move (v := u) rfl) ?_; refine Wo rfl (opv_assign (v := u) rfl) ?_; refine Wo_nil ?_; refine W_ret ?_; refine ⟨E2, (congrArg (Owned _ _ _ _) ?_).mp (hO2.toB.o.mono (by omega))⟩; rotate_left
  · refine ⟨((k + 1, v1)), by repeat (first | exact trivial | refine And.intro rfl ?_), by repeat (first | with_reducible exact Same.refl | refine Same.upd rfl ?_ | refine Same.upds rfl ?_ | refine Same.mix rfl ?_), ?_, ?_⟩
    · refine ⟨by assumption, by omega, ?_⟩
      rw [hfs, if_pos (by assumption), ints_append]
      exact hO2
    · simp only; omega
  · refine ⟨((k + 1, u)), by repeat (first | exact trivial | refine And.intro rfl ?_), by repeat (first | with_reducible exact Same.refl | refine Same.upd rfl ?_ | refine Same.upds rfl ?_ | refine Same.mix rfl ?_), ?_, ?_⟩
    · refine ⟨E2.trans E3, by omega, ?_⟩
      rw [hfs, if_neg (by simp_all), List.append_nil]
      exact hO2.ext (by assumption)
    · simp only; omega
  · obtain rfl : k = p.length := by omega
    rfl

theorem impl_PlacesOf_ok (s : List UInt8) (w : World) (pv : Value) (p : List (List Int)) (hl : s.length ≤ lim) (h : ESl Ints w pv p) : Does Try.prog 32 [str s, pv] w (RetO w XI (ints (placesV s p))) := by
  by_cases hno : ∃ f, theF s = some f ∧ Pic p
  · obtain ⟨f, hs, hp⟩ := hno
    have hp5 := hp.2.1
    have hf := theF_some.1 hs
    have hpic : ∀ (w : World) (pv : Value), ESl Ints w pv p → Does Try.prog 63 [pv] w (Ret w (.bool true)) := fun w pv h => by
      have := isPicture_ok w pv p h
      rw [decide_eq_true hp] at this; exact this
    have hv : ∀ k, k < p.length → holdsV s p (k : Int) = f.holds p k := fun k hk => by
      have : holdsV s p (k : Int) = (decide (Nod p k) && f.holds p (k : Int).toNat) := by unfold holdsV; rw [hs]
      rw [this, decide_eq_true ⟨hp, by omega, by omega⟩]; rfl
    have hh : ∀ (w : World) (v pv : Value) (z : Int), EFm w v f → ESl Ints w pv p → 0 ≤ z ∧ z < p.length → Does Try.prog 60 [v, pv, .int .i64 z] w (Ret w (.bool (f.holds p z.toNat))) := fun w v pv z h1 h2 h3 => holds_ok p hp f w v pv z h1 h2 h3 (by rw [← hf.1]; omega)
    refine fn_of_W1 Try.func32 rfl Try.results32 Try.ntmps32 rfl ?_
    focus
      refine W_seq ?_; refine W_region rfl ?_; refine Wo rfl (opv_assign (v := .slice _ _ _) rfl) ?_; refine Wo_nil ?_; refine W_seq ?_; refine W_region rfl ?_; refine Wo rfl (opv_move (v := .string _) rfl) ?_
      refine Wo_call rfl (opc1 (a := .string _) Try.call50 rfl) (readFormula_some _ _ _ (by assumption)) ?_; rintro _ w1 ⟨E1, y1, rfl, hy1⟩; have hs1 := E1.size; refine Wo rfl (opv_assign (v := .pointer _) rfl) ?_; refine Wo_nil ?_
      refine W_seq ?_; refine W_seq ?_; refine W_region rfl ?_; refine Wo rfl (opv_move (v := .pointer _) rfl) ?_; refine Wo rfl (opv_eql_some Try.underlying57 rfl rfl) ?_; refine Wo rfl (opv_move (v := .bool _) rfl) ?_
      refine Wo rfl (opv_move (v := pv) rfl) ?_; refine Wo_call rfl (opc1 (a := pv) Try.call63 rfl) (hpic _ _ ((Mono.mono E1 h))) ?_; rintro _ w2 ⟨rfl, E2⟩; have hs2 := E2.size; refine Wo rfl (opv_not rfl) ?_
      refine Wo rfl (opv_pick_f (v := .bool _) rfl rfl) ?_; refine Wo_nil ?_; refine W_cond rfl (fun h1 => ?_) (fun h1 => ?_); contradiction; refine W_skip ?_; refine W_seq ?_; refine W_region rfl ?_
      refine Wo_lit0 XInt rfl el38 Try.sizeOf3 ?_; rintro b1 w3 hb1 b1lt E3 hO1; have hs3 := E3.size; refine Wo rfl (opv_assign (v := .slice _ _ _) rfl) ?_; refine Wo_nil ?_; refine W_seq ?_; refine W_seq ?_; refine W_region rfl ?_
      refine Wo rfl (opv_move (v := pv) rfl) ?_; refine Wo rfl (opv_len Try.underlying30 rfl h) ?_; refine Wo rfl (opv_move (v := .int _ _) rfl) ?_; refine Wo_nil ?_; refine W_block ?_
    refine W_loop [6, 7, 20, 21, 22, 23, 24, 25, 26, 27, 28, 29, 30, 31] (fun (k, u) => [(20, .int .i64 (k : Nat)), (6, u)]) (fun (k, u) w' => Ext w2 w' ∧ k ≤ p.length ∧ Owned w2.heap.size XI w' u (ints ((List.range k).filter fun k => holdsV s p (k : Int)))) (fun x => p.length - x.1) (0, .slice (some ⟨b1, 0, none⟩) 0 0) (by repeat (first | exact trivial | refine And.intro rfl ?_)) ?_ ?_
    · exact ⟨E3, Nat.zero_le _, by simpa [ints] using hO1⟩
    rintro ⟨k, u⟩ ρj w5 ⟨E5, hk, hO5⟩
    have hy1 := hy1.here
    have hll : (ints ((List.range k).filter fun k => holdsV s p (k : Int))).length ≤ k := by
      rw [ints_len]; exact Nat.le_trans (List.length_filter_le _ _) (by simp)
    have hfs := filter_range_succ (fun k => holdsV s p (k : Int)) k
    focus
      have szE5 := E5.size; have szE3 := E3.size; have szE2 := E2.size; have szE1 := E1.size; refine W_seq ?_; refine W_region rfl ?_; refine Wo rfl (opv_lss rfl rfl) ?_; refine Wo_nil ?_; refine W_seq ?_
      refine W_cond_dec rfl (fun h2 => ?_) (fun h2 => ?_); refine W_skip ?_; refine W_seq ?_; refine W_block ?_; refine W_seq ?_; refine W_region rfl ?_; refine Wo rfl (opv_move (v := .int _ _) rfl) ?_
      refine Wo rfl (opv_assign (v := .int _ _) rfl) ?_; refine Wo_nil ?_; refine W_seq ?_; refine W_region rfl ?_; refine Wo rfl (opv_move (v := .pointer _) rfl) ?_; refine Wo rfl (opv_move (v := pv) rfl) ?_
      refine Wo rfl (opv_move (v := .int _ _) rfl) ?_
      refine Wo_call rfl (opc3 (a := .pointer _) (b := pv) (c := .int _ _) Try.call60 rfl rfl rfl) (hh _ _ _ _ ((Mono.mono (E2.trans E5) hy1)) ((Mono.mono ((E1.trans E2).trans E5) h)) (by omega)) ?_; rintro _ w4 ⟨rfl, E4⟩
      have hs4 := E4.size; refine Wo_nil ?_; refine W_cond rfl (fun h3 => ?_) (fun h3 => ?_); refine W_region rfl ?_; refine Wo rfl (opv_move (v := u) rfl) ?_; refine Wo rfl (opv_move (v := .int _ _) rfl) ?_
      refine Wo_buildSlice (ps := [(0, .int _ _)]) (cs := [_]) rfl Try.underlying38 Try.sizeOf3 Try.zeroValue3 rfl rfl rfl rfl ?_; rintro b2 w6 hb2 E6 hB1; have hlb2 := hB1.lt; have hs5 := E6.size
      refine Wo_app1 rfl el38 rfl rfl hB1 (hO5.toB.ext (E4.trans E6)) Owned.int (Nat.le_refl _) (by first | omega | (simp <;> omega)) (by omega) (by omega) ((((E1.trans E2).trans E5).trans E4).trans E6) (by omega) ?_
      have hT1 := (hO5.toB.ext (E4.trans E6)); rintro v1 w7 hO5 E7 M1; have E8 := M1.ext hT1 (((E2.trans E5).trans E4).trans E6) (by omega); have szE8 := E8.size; have E9 := M1.ext hT1 ((E5.trans E4).trans E6) (by omega)
      have szE9 := E9.size; have hB1 := hB1.moves M1 hT1 (by omega); have hs6 := E7.size; refine Wo rfl (opv_assign (v := v1) rfl) ?_; refine Wo_nil ?_; refine W_region rfl ?_; refine Wo rfl (opv_add rfl rfl (by omega)) ?_
      refine Wo rfl (opv_move (v := .int _ _) rfl) ?_; refine Wo_nil ?_; rotate_left; refine W_skip ?_; refine W_region rfl ?_; refine Wo rfl (opv_add rfl rfl (by omega)) ?_; refine Wo rfl (opv_move (v := .int _ _) rfl) ?_
      refine Wo_nil ?_; rotate_left; refine W_exit ?_; refine exitX_same ?_; refine W_seq ?_; refine W_region rfl ?_; refine Wo rfl (opv_move (v := u) rfl) ?_; refine Wo rfl (opv_assign (v := u) rfl) ?_; refine Wo_nil ?_; refine W_ret ?_
      refine ⟨((E1.trans E2).trans E5), (congrArg (Owned _ _ _ _) ?_).mp (hO5.toB.o.mono (by omega))⟩; rotate_left
    · refine ⟨((k + 1, v1)), by repeat (first | exact trivial | refine And.intro rfl ?_), by repeat (first | with_reducible exact Same.refl | refine Same.upd rfl ?_ | refine Same.upds rfl ?_ | refine Same.mix rfl ?_), ?_, ?_⟩
      · refine ⟨by assumption, by omega, ?_⟩
        rw [hfs, if_pos (by rw [hv k (by omega)]; assumption), ints_append]
        assumption
      · simp only; omega
    · refine ⟨((k + 1, u)), by repeat (first | exact trivial | refine And.intro rfl ?_), by repeat (first | with_reducible exact Same.refl | refine Same.upd rfl ?_ | refine Same.upds rfl ?_ | refine Same.mix rfl ?_), ?_, ?_⟩
      · refine ⟨Ext.trans E5 (by assumption), by omega, ?_⟩
        rw [hfs, if_neg (by rw [hv k (by omega)]; simp_all), List.append_nil]
        exact hO5.ext (by assumption)
      · simp only; omega
    · obtain rfl : k = p.length := by omega
      rfl
  · have hnil : placesV s p = [] := by
      unfold placesV
      refine List.filter_eq_nil_iff.2 fun k hk => ?_
      unfold holdsV
      cases hs : theF s with
      | none => simp
      | some f =>
        have : ¬ Nod p (k : Int) := fun hn => hno ⟨f, hs, hn.1⟩
        simp [this]
    rw [hnil]
    cases hs : theF s with
    | none =>
      refine fn_of_W1 Try.func32 rfl Try.results32 Try.ntmps32 rfl ?_
      focus
        refine W_seq ?_; refine W_region rfl ?_; refine Wo rfl (opv_assign (v := .slice _ _ _) rfl) ?_; refine Wo_nil ?_; refine W_seq ?_; refine W_region rfl ?_; refine Wo rfl (opv_move (v := .string _) rfl) ?_
        refine Wo_call rfl (opc1 (a := .string _) Try.call50 rfl) (readFormula_none _ _ (by assumption) (by assumption)) ?_; rintro _ w1 ⟨rfl, E1⟩; have hs1 := E1.size; refine Wo rfl (opv_assign (v := .pointer _) rfl) ?_; refine Wo_nil ?_
        refine W_seq ?_; refine W_seq ?_; refine W_region rfl ?_; refine Wo rfl (opv_move (v := .pointer _) rfl) ?_; refine Wo rfl (opv_eql_nil Try.underlying57 rfl rfl) ?_; refine Wo rfl (opv_move (v := .bool _) rfl) ?_
        refine Wo_skip rfl ?_; refine Wo_skip rfl ?_; refine Wo_skip rfl ?_; refine Wo rfl (opv_pick_t (v := .bool _) rfl rfl) ?_; refine Wo_nil ?_; refine W_cond_true rfl ?_; refine W_seq ?_; refine W_region rfl ?_
        refine Wo rfl (opv_assign (v := .slice _ _ _) rfl) ?_; refine Wo_nil ?_; refine W_ret ?_; refine at_ret (v := .slice _ _ _) rfl ?_
      exact ⟨E1, Owned.nil⟩
    | some f =>
      have hpic : ∀ (w : World) (pv : Value), ESl Ints w pv p → Does Try.prog 63 [pv] w (Ret w (.bool false)) := fun w pv h => by
        have := isPicture_ok w pv p h
        rw [decide_eq_false (fun hp => hno ⟨f, hs, hp⟩)] at this; exact this
      refine fn_of_W1 Try.func32 rfl Try.results32 Try.ntmps32 rfl ?_
      focus
        refine W_seq ?_; refine W_region rfl ?_; refine Wo rfl (opv_assign (v := .slice _ _ _) rfl) ?_; refine Wo_nil ?_; refine W_seq ?_; refine W_region rfl ?_; refine Wo rfl (opv_move (v := .string _) rfl) ?_
        refine Wo_call rfl (opc1 (a := .string _) Try.call50 rfl) (readFormula_some _ _ _ (by assumption)) ?_; rintro _ w1 ⟨E1, y1, rfl, hy1⟩; have hs1 := E1.size; refine Wo rfl (opv_assign (v := .pointer _) rfl) ?_; refine Wo_nil ?_
        refine W_seq ?_; refine W_seq ?_; refine W_region rfl ?_; refine Wo rfl (opv_move (v := .pointer _) rfl) ?_; refine Wo rfl (opv_eql_some Try.underlying57 rfl rfl) ?_; refine Wo rfl (opv_move (v := .bool _) rfl) ?_
        refine Wo rfl (opv_move (v := pv) rfl) ?_; refine Wo_call rfl (opc1 (a := pv) Try.call63 rfl) (hpic _ _ ((Mono.mono E1 h))) ?_; rintro _ w2 ⟨rfl, E2⟩; have hs2 := E2.size; refine Wo rfl (opv_not rfl) ?_
        refine Wo rfl (opv_pick_f (v := .bool _) rfl rfl) ?_; refine Wo_nil ?_; refine W_cond rfl (fun h1 => ?_) (fun h1 => ?_); refine W_seq ?_; refine W_region rfl ?_; refine Wo rfl (opv_assign (v := .slice _ _ _) rfl) ?_
        refine Wo_nil ?_; refine W_ret ?_; refine at_ret (v := .slice _ _ _) rfl ?_; rotate_left; contradiction
      exact ⟨E1.trans E2, Owned.nil⟩

theorem placesV_len (s : List UInt8) (p : List (List Int)) : (ints (placesV s p)).length ≤ p.length := by
  rw [ints_len]; exact Nat.le_trans (List.length_filter_le _ _) (by simp)
theorem FnExactPlacesOf_walk (w : World) (s : List UInt8) (hs : s.length ≤ 9223372036854775807) (v : Value) (p : List (List Int)) (h : ESl Ints w v p) :
    Does Try.prog 10 [str s, v] w (Ret w (.bool true)) := by
  have hlen := placesV_len s p
  by_cases hl : s.length ≤ 1048576
  · have hl' : s.length ≤ lim := by unfold lim; omega
    refine fn_of_W1 Try.func10 rfl Try.results10 Try.ntmps10 rfl ?_
    focus
      refine W_seq ?_; refine W_region rfl ?_; refine Wo rfl (opv_assign (v := .bool _) rfl) ?_; refine Wo_nil ?_; refine W_seq ?_; refine W_seq ?_; refine W_region rfl ?_; refine Wo rfl (opv_move (v := .string _) rfl) ?_
      refine Wo rfl (opv_len_str Try.underlying9 rfl) ?_; refine Wo rfl (opv_gtr rfl rfl) ?_; refine Wo_nil ?_; refine W_cond_dec rfl (fun h1 => ?_) (fun h1 => ?_); (exfalso; omega); refine W_skip ?_; refine W_seq ?_
      refine W_region rfl ?_; refine Wo rfl (opv_assign (v := .int _ _) rfl) ?_; refine Wo_nil ?_; refine W_seq ?_; refine W_region rfl ?_; refine Wo rfl (opv_move (v := v) rfl) ?_; refine Wo rfl (opv_move (v := .int _ _) rfl) ?_
      refine Wo_call rfl (opc2 (a := v) (b := .int _ _) Try.call24 rfl rfl) (szIntSS_ok _ _ _ (h) _ (by omega)) ?_; rintro _ w1 ⟨E1, y1, rfl, hy1⟩; have hs1 := E1.size; refine Wo rfl (opv_assign (v := .int _ _) rfl) ?_; refine Wo_nil ?_
      refine W_seq ?_; refine W_seq ?_; refine W_region rfl ?_; refine Wo rfl (opv_move (v := .int _ _) rfl) ?_; refine Wo rfl (opv_lss rfl rfl) ?_; refine Wo_nil ?_; refine W_cond_dec rfl (fun h2 => ?_) (fun h2 => ?_); refine W_seq ?_
      refine W_region rfl ?_; refine Wo rfl (opv_assign (v := .bool _) rfl) ?_; refine Wo_nil ?_; refine W_ret ?_; exact ⟨rfl, E1⟩; refine W_skip ?_; refine W_seq ?_; refine W_region rfl ?_
      refine Wo rfl (opv_move (v := .string _) rfl) ?_; refine Wo rfl (opv_move (v := v) rfl) ?_
    rcases hy1 with h9 | ⟨h5, h6, h7, h7', h8⟩
    · omega
    focus
      have szE1 := E1.size; refine Wo_call rfl (opc1 (a := v) Try.call26 rfl) (toIntSS_ok _ _ _ ((Mono.mono E1 h)) (by assumption) (by assumption)) ?_; rintro u1 w2 ⟨E2, hO1⟩; have hs2 := E2.size
      refine Wo_call rfl (opc2 (a := .string _) (b := u1) Try.call31 rfl rfl) (spec_PlacesOf_ok _ _ _ _ (by assumption) ((Owned.read hO1)) (by assumption)) ?_; rintro u2 w3 ⟨E3, hO2⟩; have hs3 := E3.size
      refine Wo rfl (opv_assign (v := u2) rfl) ?_; refine Wo_nil ?_; refine W_seq ?_; refine W_region rfl ?_; refine Wo rfl (opv_move (v := v) rfl) ?_
      refine Wo_call rfl (opc1 (a := v) Try.call26 rfl) (toIntSS_ok _ _ _ ((Mono.mono ((E1.trans E2).trans E3) h)) (by assumption) (by assumption)) ?_; rintro u3 w4 ⟨E4, hO3⟩; have hs4 := E4.size
      refine Wo rfl (opv_assign (v := u3) rfl) ?_; refine Wo_nil ?_; refine W_seq ?_; refine W_region rfl ?_; refine Wo rfl (opv_move (v := .string _) rfl) ?_; refine Wo rfl (opv_move (v := u3) rfl) ?_
      refine Wo_call rfl (opc2 (a := .string _) (b := u3) Try.call32 rfl rfl) (impl_PlacesOf_ok _ _ _ _ (by assumption) ((Owned.read hO3))) ?_; rintro u4 w5 ⟨E5, hO4⟩; have hs5 := E5.size; refine Wo rfl (opv_assign (v := u4) rfl) ?_
      refine Wo_nil ?_; refine W_seq ?_; refine W_seq ?_; refine W_region rfl ?_; refine Wo rfl (opv_move (v := u4) rfl) ?_; refine Wo rfl (opv_move (v := u2) rfl) ?_
      refine Wo_call rfl (opc2 (a := u4) (b := u2) Try.call33 rfl rfl) (eqIntS_ok _ _ _ _ _ ((Owned.read hO4)) ((Mono.mono (E4.trans E5) (Owned.read hO2)))) ?_; rintro _ w6 ⟨rfl, E6⟩; have hs6 := E6.size; refine Wo rfl (opv_not rfl) ?_
      refine Wo_nil ?_; refine W_cond_ndec rfl (fun h3 => ?_) (fun h3 => ?_); contradiction; refine W_skip ?_; refine W_seq ?_; refine W_seq ?_; refine W_region rfl ?_; refine Wo rfl (opv_move (v := u3) rfl) ?_
      refine Wo rfl (opv_move (v := v) rfl) ?_; refine Wo_call rfl (opc1 (a := v) Try.call26 rfl) (toIntSS_ok _ _ _ ((Mono.mono (((((E1.trans E2).trans E3).trans E4).trans E5).trans E6) h)) (by assumption) (by assumption)) ?_
      rintro u5 w7 ⟨E7, hO5⟩; have hs7 := E7.size; refine Wo_call rfl (opc2 (a := u3) (b := u5) Try.call28 rfl rfl) (eqIntSS_ok _ _ _ _ _ ((Mono.mono ((E5.trans E6).trans E7) (Owned.read hO3))) ((Owned.read hO5))) ?_
      rintro _ w8 ⟨rfl, E8⟩; have hs8 := E8.size; refine Wo rfl (opv_not rfl) ?_; refine Wo_nil ?_; refine W_cond_ndec rfl (fun h4 => ?_) (fun h4 => ?_); contradiction; refine W_skip ?_; refine W_seq ?_; refine W_region rfl ?_
      refine Wo rfl (opv_assign (v := .int _ _) rfl) ?_; refine Wo_nil ?_; refine W_seq ?_; refine W_region rfl ?_; refine Wo rfl (opv_move (v := u3) rfl) ?_; refine Wo rfl (opv_move (v := .int _ _) rfl) ?_
      refine Wo_call rfl (opc2 (a := u3) (b := .int _ _) Try.call34 rfl rfl) (markIntSS_ok _ _ _ ((hO3.toB.ext (((E5.trans E6).trans E7).trans E8))) _ (by omega) (by assumption) (by omega)) ?_; rintro _ w9 ⟨rfl, E9, hO6⟩
      have hO1 := (hO1.toB.ext (((((E3.trans E4).trans E5).trans E6).trans E7).trans E8)).span E9 (by omega); have hO2 := (hO2.toB.ext ((((E4.trans E5).trans E6).trans E7).trans E8)).span E9 (by omega)
      have hO4 := (hO4.toB.ext ((E6.trans E7).trans E8)).span E9 (by omega); have hO5 := (hO5.toB.ext E8).span E9 (by omega); have E10 := (((((((E1.trans E2).trans E3).trans E4).trans E5).trans E6).trans E7).trans E8).span E9 (by omega)
      have E11 := (((((((E2.trans E3).trans E4).trans E5).trans E6).trans E7).trans E8)).span E9 (by omega); have szE11 := E11.size; have E12 := ((((((E3.trans E4).trans E5).trans E6).trans E7).trans E8)).span E9 (by omega)
      have szE12 := E12.size; have E13 := (((((E4.trans E5).trans E6).trans E7).trans E8)).span E9 (by omega); have szE13 := E13.size; have hs9 := E9.size; refine Wo rfl (opv_assign (v := .int _ _) rfl) ?_; refine Wo_nil ?_
      refine W_seq ?_; refine W_seq ?_; refine W_region rfl ?_; refine Wo rfl (opv_move (v := .int _ _) rfl) ?_; refine Wo rfl (opv_lss rfl rfl) ?_; refine Wo_split_dec rfl (opv_move (v := .bool _) rfl) (fun h9 => ?_) (fun h9 => ?_)
      contradiction; refine Wo rfl (opv_move (v := u4) rfl) ?_; refine Wo rfl (opv_move (v := u2) rfl) ?_; refine Wo_call rfl (opc2 (a := u4) (b := u2) Try.call33 rfl rfl) (eqIntS_ok _ _ _ _ _ ((OwnedB.read hO4)) ((OwnedB.read hO2))) ?_
      rintro _ w10 ⟨rfl, E14⟩; have hs10 := E14.size; refine Wo rfl (opv_not rfl) ?_; refine Wo rfl (opv_pick_f (v := .bool _) rfl rfl) ?_; refine Wo_nil ?_; refine W_cond_ndec rfl (fun h10 => ?_) (fun h10 => ?_); contradiction
      refine W_skip ?_; refine W_seq ?_; refine W_region rfl ?_; refine Wo rfl (opv_assign (v := .int _ _) rfl) ?_; refine Wo_nil ?_; refine W_seq ?_; refine W_region rfl ?_; refine Wo rfl (opv_move (v := u4) rfl) ?_
      refine Wo rfl (opv_move (v := .int _ _) rfl) ?_; refine Wo_call rfl (opc2 (a := u4) (b := .int _ _) Try.call35 rfl rfl) (markIntS_ok _ _ _ ((hO4.ext E14)) _ (by omega) (by omega)) ?_; rintro _ w11 ⟨rfl, E15, hO7⟩
      have hO6 := (hO6.ext E14).span E15 (by omega); have hO1 := (hO1.ext E14).span E15 (by omega); have hO2 := (hO2.ext E14).span E15 (by omega); have hO5 := (hO5.ext E14).span E15 (by omega)
      have E16 := (E10.trans E14).span E15 (by omega); have E17 := ((E11.trans E14)).span E15 (by omega); have szE17 := E17.size; have E18 := ((E12.trans E14)).span E15 (by omega); have szE18 := E18.size
      have E19 := ((E13.trans E14)).span E15 (by omega); have szE19 := E19.size; have hs11 := E15.size; refine Wo rfl (opv_assign (v := .int _ _) rfl) ?_; refine Wo_nil ?_; refine W_seq ?_; refine W_region rfl ?_
      refine Wo rfl (opv_assign (v := .int _ _) rfl) ?_; refine Wo_nil ?_; refine W_seq ?_; refine W_region rfl ?_; refine Wo rfl (opv_move (v := u4) rfl) ?_; refine Wo rfl (opv_move (v := .int _ _) rfl) ?_
      refine Wo_call rfl (opc2 (a := u4) (b := .int _ _) Try.call36 rfl rfl) (heldIntS_ok _ _ _ _ ((OwnedB.read hO7)) (by omega) (by omega)) ?_; rintro _ w12 ⟨rfl, E20⟩; have hs12 := E20.size
      refine Wo rfl (opv_assign (v := .int _ _) rfl) ?_; refine Wo_nil ?_; refine W_seq ?_; refine W_seq ?_; refine W_region rfl ?_; refine Wo rfl (opv_move (v := .int _ _) rfl) ?_; refine Wo rfl (opv_lss rfl rfl) ?_; refine Wo_nil ?_
      refine W_cond_dec rfl (fun h11 => ?_) (fun h11 => ?_); contradiction; refine W_skip ?_; refine W_seq ?_; refine W_seq ?_; refine W_region rfl ?_; refine Wo rfl (opv_move (v := .int _ _) rfl) ?_
      refine Wo rfl (opv_move (v := .int _ _) rfl) ?_; refine Wo rfl (opv_neq rfl rfl) ?_; refine Wo_nil ?_; refine W_cond_ndec rfl (fun h12 => ?_) (fun h12 => ?_); contradiction; refine W_skip ?_; refine W_seq ?_; refine W_region rfl ?_
      refine Wo rfl (opv_move (v := .string _) rfl) ?_; refine Wo rfl (opv_move (v := v) rfl) ?_; refine Wo_call rfl (opc1 (a := v) Try.call26 rfl) (toIntSS_ok _ _ _ ((Mono.mono (E16.trans E20) h)) (by assumption) (by assumption)) ?_
      rintro u6 w13 ⟨E21, hO8⟩; have hs13 := E21.size; refine Wo_call rfl (opc2 (a := .string _) (b := u6) Try.call32 rfl rfl) (impl_PlacesOf_ok _ _ _ _ (by assumption) ((Owned.read hO8))) ?_; rintro u7 w14 ⟨E22, hO9⟩
      have hs14 := E22.size; refine Wo rfl (opv_assign (v := u7) rfl) ?_; refine Wo_nil ?_; refine W_seq ?_; refine W_seq ?_; refine W_region rfl ?_; refine Wo rfl (opv_move (v := u7) rfl) ?_; refine Wo rfl (opv_move (v := u2) rfl) ?_
      refine Wo_call rfl (opc2 (a := u7) (b := u2) Try.call33 rfl rfl) (eqIntS_ok _ _ _ _ _ ((Owned.read hO9)) ((Mono.mono ((E20.trans E21).trans E22) (OwnedB.read hO2)))) ?_; rintro _ w15 ⟨rfl, E23⟩; have hs15 := E23.size
      refine Wo rfl (opv_not rfl) ?_; refine Wo_nil ?_; refine W_cond_ndec rfl (fun h13 => ?_) (fun h13 => ?_); contradiction; refine W_skip ?_; refine W_seq ?_; refine W_region rfl ?_; refine Wo rfl (opv_assign (v := .int _ _) rfl) ?_
      refine Wo_nil ?_; refine W_seq ?_; refine W_region rfl ?_; refine Wo rfl (opv_move (v := u4) rfl) ?_; refine Wo rfl (opv_move (v := .int _ _) rfl) ?_
      refine Wo_call rfl (opc2 (a := u4) (b := .int _ _) Try.call36 rfl rfl) (heldIntS_ok _ _ _ _ ((Mono.mono (((E20.trans E21).trans E22).trans E23) (OwnedB.read hO7))) (by omega) (by omega)) ?_; rintro _ w16 ⟨rfl, E24⟩
      have hs16 := E24.size; refine Wo rfl (opv_assign (v := .int _ _) rfl) ?_; refine Wo_nil ?_; refine W_seq ?_; refine W_seq ?_; refine W_region rfl ?_; refine Wo rfl (opv_move (v := .int _ _) rfl) ?_
      refine Wo rfl (opv_lss rfl rfl) ?_; refine Wo_nil ?_; refine W_cond_dec rfl (fun h14 => ?_) (fun h14 => ?_); contradiction; refine W_skip ?_; refine W_seq ?_; refine W_seq ?_; refine W_region rfl ?_
      refine Wo rfl (opv_move (v := .int _ _) rfl) ?_; refine Wo rfl (opv_move (v := .int _ _) rfl) ?_; refine Wo rfl (opv_neq rfl rfl) ?_; refine Wo_nil ?_; refine W_cond_ndec rfl (fun h15 => ?_) (fun h15 => ?_); contradiction
      refine W_skip ?_; refine W_seq ?_; refine W_region rfl ?_; refine Wo rfl (opv_assign (v := .bool _) rfl) ?_; refine Wo_nil ?_; refine W_ret ?_; exact ⟨rfl, (((((E16.trans E20).trans E21).trans E22).trans E23).trans E24)⟩
  · refine fn_of_W1 Try.func10 rfl Try.results10 Try.ntmps10 rfl ?_
    focus
      refine W_seq ?_; refine W_region rfl ?_; refine Wo rfl (opv_assign (v := .bool _) rfl) ?_; refine Wo_nil ?_; refine W_seq ?_; refine W_seq ?_; refine W_region rfl ?_; refine Wo rfl (opv_move (v := .string _) rfl) ?_
      refine Wo rfl (opv_len_str Try.underlying9 rfl) ?_; refine Wo rfl (opv_gtr rfl rfl) ?_; refine Wo_nil ?_; refine W_cond_dec rfl (fun h1 => ?_) (fun h1 => ?_); refine W_seq ?_; refine W_region rfl ?_
      refine Wo rfl (opv_assign (v := .bool _) rfl) ?_; refine Wo_nil ?_; refine W_ret ?_; exact ⟨rfl, (Ext.refl _)⟩; (exfalso; omega)

end Go.Proofs.Ytjdfnngmbaojjaa
