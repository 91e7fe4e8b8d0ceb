/- Walks: pictures drawn. -/
import Derived.Test.YthhaodjjfofogaaHsWRd
import Derived.Test.YthhaodjjfofogaaHsWEl
import Derived.Test.YthhaodjjfofogaaHsDraw
import Derived.Test.YthhaodjjfofogaaHsPic
namespace Go.Proofs.Ythhaodjjfofogaa
open Go.Hs
set_option maxRecDepth 10000
set_option maxHeartbeats 4000000
set_option linter.unusedVariables false
set_option linter.unusedSimpArgs false

theorem Picture_ok {w0 : World} (w : World) {br m : Nat} (n : Int) (hr : Rdr w0 w br m) (hm : m ≤ 100000000) (hn : 0 ≤ n ∧ n ≤ 1000) :
    Does Try.prog 60 [.pointer (some ⟨br, 0, none⟩), .int .i64 n] w (RetDO w0 w br (m + 60) XR (fun p => p.length ≤ 5 ∧ ∀ r ∈ p, r.length ≤ 6)) := by
  refine fn_of_W1 Try.func60 rfl Try.results60 Try.ntmps60 rfl ?_
  have hG : w.grownBy w (some br) := grownBy_refl _ _
  have hlr := hr.lt
  have hgr := hr.ge
  have E0 := hr.old
  focus
    have szE0 := E0.size; refine W_seq ?_; refine W_region rfl ?_; refine Wo rfl (opv_assign (v := .slice _ _ _) rfl) ?_; refine Wo_nil ?_; refine W_seq ?_; refine W_region rfl ?_; refine Wo rfl (opv_move (v := .pointer _) rfl) ?_
    refine Wo_call rfl (opc2 (a := .pointer _) (b := .int _ _) Try.call61 rfl rfl) (pick_ok _ _ (by assumption) (by omega)) ?_; rintro _ w1 ⟨y1, rfl, E1, hr1, hy1⟩; (try dsimp only at hy1); have hlhr1 := hr1.lt; have Ehr1 := hr1.old
    have hG := grownBy_trans hG E1; have hs1 := E1.size; refine Wo rfl (opv_add rfl rfl (by omega)) ?_; refine Wo rfl (opv_assign (v := .int _ _) rfl) ?_; refine Wo_nil ?_; refine W_seq ?_; refine W_region rfl ?_
    refine Wo_lit0 (XSl 3 XInt) rfl el22 Try.sizeOf24 ?_; rintro b1 w2 hb1 b1lt E2 hO1; have hr1 := hr1.ext E2; have hG := grownBy_ext hG E2; have hs2 := E2.size; refine Wo rfl (opv_assign (v := .slice _ _ _) rfl) ?_; refine Wo_nil ?_
    refine W_seq ?_; refine W_region rfl ?_; refine Wo rfl (opv_move (v := .pointer _) rfl) ?_; refine Wo_call rfl (opc2 (a := .pointer _) (b := .int _ _) Try.call61 rfl rfl) (pick_ok _ _ (by assumption) (by omega)) ?_
    rintro _ w3 ⟨y2, rfl, E3, hr2, hy2⟩; (try dsimp only at hy2); have hlhr2 := hr2.lt; have Ehr2 := hr2.old; have hO1 := hO1.toB.grown E3 (by omega); have hG := grownBy_trans hG E3; have hs3 := E3.size
    refine Wo rfl (opv_assign (v := .int _ _) rfl) ?_; refine Wo_nil ?_; refine W_seq ?_; refine W_seq ?_; refine W_region rfl ?_; refine Wo rfl (opv_assign (v := .int _ _) rfl) ?_; refine Wo_nil ?_; refine W_block ?_
  have hy1' := hy1 (by omega)
  have hn5 : (1 + (y1 : Int)).toNat = 1 + y1 := by omega
  refine W_loop [6, 8, 9, 10, 17, 18, 19, 20, 21, 22, 23, 24, 25, 26, 27, 28, 29, 30, 31, 32, 33, 34, 35, 36, 37, 38, 39, 40, 41, 42, 43, 44, 45, 46, 47, 48, 49, 50, 51, 52, 53, 54, 55, 56, 57, 58, 59, 60, 61, 62] (fun (k, u, rows) => [(8, .int .i64 (k : Nat)), (6, u)]) (fun (k, u, rows) w' => w.grownBy w' (some br) ∧ Rdr w0 w' br (m + 2 + 6 * k) ∧ k ≤ 1 + y1 ∧ Owned w.heap.size XR w' u rows ∧ rows.length = k ∧ ∀ r ∈ rows, r.length = 1 + y1) (fun x => 1 + y1 - x.1) (0, .slice (some ⟨b1, 0, none⟩) 0 0, []) (by repeat (first | exact trivial | refine And.intro rfl ?_)) ?_ ?_
  · exact ⟨hG, hr2, Nat.zero_le _, hO1.o.mono (by omega), rfl, by simp⟩
  rintro ⟨k, u, rows⟩ ρj w4 ⟨hG4, hr4, hk, hO4, hrl, hrr⟩
  have E4 := hr4.old
  have hg4 := hG4.size
  by_cases hlt : k < 1 + y1
  · focus
      have szE4 := E4.size; have szEhr2 := Ehr2.size; have szE2 := E2.size; have szEhr1 := Ehr1.size; have szE0 := E0.size; refine W_seq ?_; refine W_seq ?_; refine W_region rfl ?_; refine Wo rfl (opv_move (v := .int _ _) rfl) ?_
      refine Wo rfl (opv_move (v := .int _ _) rfl) ?_; refine Wo rfl (opv_lss rfl rfl) ?_; refine Wo_nil ?_; refine W_cond_dec rfl (fun h1 => ?_) (fun h1 => ?_); refine W_skip ?_; refine W_seq ?_; refine W_block ?_; refine W_seq ?_
      refine W_region rfl ?_; refine Wo rfl (opv_move (v := .int _ _) rfl) ?_; refine Wo_makeI rfl el24 (int_z (by omega) rfl) (by omega) ?_; rintro b2 w5 hb2 b2lt E5 hO2; have hG4 := grownBy_ext hG4 E5; have hr4 := hr4.ext E5
      have hs4 := E5.size; refine Wo rfl (opv_assign (v := .slice _ _ _) rfl) ?_; refine Wo_nil ?_; refine W_seq ?_; refine W_seq ?_; refine W_region rfl ?_; refine Wo rfl (opv_assign (v := .int _ _) rfl) ?_; refine Wo_nil ?_
      refine W_block ?_; rotate_left; (exfalso; omega)
    refine W_loop [10, 24, 25, 26, 27, 28, 29, 30, 31, 32, 33, 34, 35, 36, 37, 38, 39, 40, 41, 42, 43, 44, 45] (fun (j, row) => [(10, .int .i64 (j : Nat))]) (fun (j, row) w' => w.grownBy w' (some br) ∧ Rdr w0 w' br (m + 2 + 6 * k + j) ∧ j ≤ 1 + y1 ∧ OwnedB w.heap.size w4.heap.size XR w' u rows ∧ Owned w4.heap.size XI w' (.slice (some ⟨b2, 0, none⟩) (1 + (y1 : Int)).toNat (1 + (y1 : Int)).toNat) row ∧ row.length = 1 + y1) (fun x => 1 + y1 - x.1) (0, List.replicate (1 + (y1 : Int)).toNat 0) (by repeat (first | exact trivial | refine And.intro rfl ?_)) ?_ ?_
    · exact ⟨hG4, hr4, Nat.zero_le _, hO4.toB.ext E5, hO2, by simp; omega⟩
    rintro ⟨j, row⟩ ρi w6 ⟨hG6, hr6, hj, hO6, hR6, hrow⟩
    have E6 := hr6.old
    have hg6 := hG6.size
    have hb6 := hR6.lt_own (k := b2) rfl
    have hs6 : w4.heap.size ≤ w6.heap.size := by omega
    by_cases hjl : j < 1 + y1
    · focus
        have szE6 := E6.size; have szE5 := E5.size; have szE4 := E4.size; have szEhr2 := Ehr2.size; have szE2 := E2.size; have szEhr1 := Ehr1.size; have szE0 := E0.size; refine W_seq ?_; refine W_seq ?_; refine W_region rfl ?_
        refine Wo rfl (opv_move (v := .int _ _) rfl) ?_; refine Wo rfl (opv_move (v := .int _ _) rfl) ?_; refine Wo rfl (opv_lss rfl rfl) ?_; refine Wo_nil ?_; refine W_cond_dec rfl (fun h2 => ?_) (fun h2 => ?_); refine W_skip ?_
        refine W_seq ?_; refine W_block ?_; refine W_seq ?_; refine W_region rfl ?_; refine Wo rfl (opv_move (v := .int _ _) rfl) ?_; refine Wo rfl (opv_eql rfl rfl) ?_
        refine Wo_split_dec rfl (opv_move (v := .bool _) rfl) (fun h3 => ?_) (fun h3 => ?_); refine Wo rfl (opv_move (v := .int _ _) rfl) ?_; refine Wo rfl (opv_move (v := .int _ _) rfl) ?_; refine Wo rfl (opv_gtr rfl rfl) ?_
        refine Wo rfl (opv_pick_t (v := .bool _) rfl rfl) ?_; refine Wo_split_dec rfl (opv_move (v := .bool _) rfl) (fun h4 => ?_) (fun h4 => ?_); refine Wo_skip rfl ?_; refine Wo_skip rfl ?_
        refine Wo rfl (opv_pick_t (v := .bool _) rfl rfl) ?_; refine Wo_nil ?_; refine W_cond_true rfl ?_; refine W_region rfl ?_; refine Wo rfl (opv_move (v := .slice _ _ _) rfl) ?_; refine Wo rfl (opv_move (v := .int _ _) rfl) ?_
        refine Wo rfl (opv_move (v := .pointer _) rfl) ?_; refine Wo_call rfl (opc2 (a := .pointer _) (b := .int _ _) Try.call61 rfl rfl) (pick_ok _ _ (by assumption) (by omega)) ?_; rintro _ w7 ⟨y3, rfl, E7, hr3, hy3⟩
        (try dsimp only at hy3); have hlhr3 := hr3.lt; have Ehr3 := hr3.old; have hG6 := grownBy_trans hG6 E7; have hO6 := hO6.grown E7 (by omega); have hR6 := hR6.toB.grown E7 (by omega); have hs5 := E7.size
        refine Wo rfl (opv_quo rfl rfl (by omega)) ?_; refine Wo rfl (opv_indexAddr Try.underlying24 Try.sizeOf3 rfl rfl (by omega)) ?_
        refine Wo_set rfl Try.sizeOf3 rfl rfl hR6 (by first | omega | (simp <;> omega)) Owned.int (Nat.le_refl _) (by omega) ?_; rintro w8 hR6 On1 K1 hz1; have E8 := On1.ext1 Ehr3 (by omega); have hr3 := hr3.wrote E8 (K1 _ (by omega)) hz1
        have hG6 := grownBy_wrote hG6 Ehr3 E8 K1 hz1 (by first | exact .inr rfl | omega); have hO6 := hO6.wrote K1 (by omega); have hs7 := On1.size; refine Wo_nil ?_; refine W_region rfl ?_; refine Wo rfl (opv_move (v := .int _ _) rfl) ?_
        refine Wo rfl (opv_add rfl rfl (by omega)) ?_; refine Wo rfl (opv_assign (v := .int _ _) rfl) ?_; refine Wo_nil ?_; rotate_left; refine Wo rfl (opv_move (v := .int _ _) rfl) ?_; refine Wo rfl (opv_gtr rfl rfl) ?_
        refine Wo rfl (opv_pick_f (v := .bool _) rfl rfl) ?_; refine Wo_nil ?_; refine W_cond_dec rfl (fun h5 => ?_) (fun h5 => ?_); (exfalso; omega); refine W_skip ?_; refine W_region rfl ?_; refine Wo rfl (opv_move (v := .int _ _) rfl) ?_
        refine Wo rfl (opv_add rfl rfl (by omega)) ?_; refine Wo rfl (opv_assign (v := .int _ _) rfl) ?_; refine Wo_nil ?_; rotate_left; refine Wo_skip rfl ?_; refine Wo_skip rfl ?_; refine Wo_skip rfl ?_
        refine Wo rfl (opv_pick_f (v := .bool _) rfl rfl) ?_; refine Wo rfl (opv_move (v := .bool _) rfl) ?_; refine Wo rfl (opv_move (v := .int _ _) rfl) ?_; refine Wo rfl (opv_gtr rfl rfl) ?_
        refine Wo rfl (opv_pick_f (v := .bool _) rfl rfl) ?_; refine Wo_nil ?_; refine W_cond_dec rfl (fun h4 => ?_) (fun h4 => ?_); refine W_region rfl ?_; refine Wo rfl (opv_move (v := .slice _ _ _) rfl) ?_
        refine Wo rfl (opv_move (v := .int _ _) rfl) ?_; refine Wo rfl (opv_move (v := .pointer _) rfl) ?_; refine Wo_call rfl (opc2 (a := .pointer _) (b := .int _ _) Try.call61 rfl rfl) (pick_ok _ _ (by assumption) (by omega)) ?_
        rintro _ w7 ⟨y3, rfl, E7, hr3, hy3⟩; (try dsimp only at hy3); have hlhr3 := hr3.lt; have Ehr3 := hr3.old; have hG6 := grownBy_trans hG6 E7; have hO6 := hO6.grown E7 (by omega); have hR6 := hR6.toB.grown E7 (by omega)
        have hs5 := E7.size; refine Wo rfl (opv_quo rfl rfl (by omega)) ?_; refine Wo rfl (opv_indexAddr Try.underlying24 Try.sizeOf3 rfl rfl (by omega)) ?_
        refine Wo_set rfl Try.sizeOf3 rfl rfl hR6 (by first | omega | (simp <;> omega)) Owned.int (Nat.le_refl _) (by omega) ?_; rintro w8 hR6 On1 K1 hz1; have E8 := On1.ext1 Ehr3 (by omega); have hr3 := hr3.wrote E8 (K1 _ (by omega)) hz1
        have hG6 := grownBy_wrote hG6 Ehr3 E8 K1 hz1 (by first | exact .inr rfl | omega); have hO6 := hO6.wrote K1 (by omega); have hs7 := On1.size; refine Wo_nil ?_; refine W_region rfl ?_; refine Wo rfl (opv_move (v := .int _ _) rfl) ?_
        refine Wo rfl (opv_add rfl rfl (by omega)) ?_; refine Wo rfl (opv_assign (v := .int _ _) rfl) ?_; refine Wo_nil ?_; rotate_left; (exfalso; omega); (exfalso; omega)
      · refine ⟨((j + 1, row.set j ((y3 : Int) / 2))), by repeat (first | exact trivial | refine And.intro rfl ?_), by repeat (first | with_reducible exact Same.refl | refine Same.upd rfl ?_ | refine Same.upds rfl ?_ | refine Same.mix rfl ?_), ?_, ?_⟩
        · exact ⟨by assumption, Rdr.le (by assumption) (by omega), by omega, by assumption, by assumption, by simp [hrow]⟩
        · simp only; omega
      · refine ⟨((j + 1, row)), by repeat (first | exact trivial | refine And.intro rfl ?_), by repeat (first | with_reducible exact Same.refl | refine Same.upd rfl ?_ | refine Same.upds rfl ?_ | refine Same.mix rfl ?_), ?_, ?_⟩
        · exact ⟨by assumption, Rdr.le (by assumption) (by omega), by omega, by assumption, by assumption, hrow⟩
        · simp only; omega
      · refine ⟨((j + 1, row.set j ((y3 : Int) / 2))), by repeat (first | exact trivial | refine And.intro rfl ?_), by repeat (first | with_reducible exact Same.refl | refine Same.upd rfl ?_ | refine Same.upds rfl ?_ | refine Same.mix rfl ?_), ?_, ?_⟩
        · exact ⟨by assumption, Rdr.le (by assumption) (by omega), by omega, by assumption, by assumption, by simp [hrow]⟩
        · simp only; omega
    · obtain rfl : j = 1 + y1 := by omega
      have hrs : ∀ (rw' : List Int), rw'.length = 1 + y1 → ∀ r ∈ rows ++ [rw'], r.length = 1 + y1 := by
        intro rw' h9 r hr9
        rcases List.mem_append.1 hr9 with h | h
        · exact hrr r h
        · rw [List.mem_singleton.1 h]; exact h9
      focus
        have szE6 := E6.size; have szE5 := E5.size; have szE4 := E4.size; have szEhr2 := Ehr2.size; have szE2 := E2.size; have szEhr1 := Ehr1.size; have szE0 := E0.size; refine W_seq ?_; refine W_seq ?_; refine W_region rfl ?_
        refine Wo rfl (opv_move (v := .int _ _) rfl) ?_; refine Wo rfl (opv_move (v := .int _ _) rfl) ?_; refine Wo rfl (opv_lss rfl rfl) ?_; refine Wo_nil ?_; refine W_cond_dec rfl (fun h2 => ?_) (fun h2 => ?_); (exfalso; omega)
        refine W_exit ?_; refine exitX_same ?_; refine W_seq ?_; refine W_seq ?_; refine W_region rfl ?_; refine Wo rfl (opv_move (v := .int _ _) rfl) ?_; refine Wo rfl (opv_add rfl rfl (by omega)) ?_
        refine Wo rfl (opv_move (v := .int _ _) rfl) ?_; refine Wo rfl (opv_lss rfl rfl) ?_; refine Wo_split_dec rfl (opv_move (v := .bool _) rfl) (fun h3 => ?_) (fun h3 => ?_); refine Wo rfl (opv_move (v := .pointer _) rfl) ?_
        refine Wo_call rfl (opc2 (a := .pointer _) (b := .int _ _) Try.call61 rfl rfl) (pick_ok _ _ (by assumption) (by omega)) ?_; rintro _ w7 ⟨y3, rfl, E7, hr3, hy3⟩; (try dsimp only at hy3); have hlhr3 := hr3.lt; have Ehr3 := hr3.old
        have hG6 := grownBy_trans hG6 E7; have hO6 := hO6.grown E7 (by omega); have hR6 := hR6.toB.grown E7 (by omega); have hs5 := E7.size; refine Wo rfl (opv_gtr rfl rfl) ?_; refine Wo rfl (opv_pick_t (v := .bool _) rfl rfl) ?_
        refine Wo_nil ?_; refine W_cond_dec rfl (fun h4 => ?_) (fun h4 => ?_); refine W_region rfl ?_; refine Wo rfl (opv_move (v := .slice _ _ _) rfl) ?_; refine Wo rfl (opv_move (v := .int _ _) rfl) ?_
        refine Wo rfl (opv_add rfl rfl (by omega)) ?_; refine Wo rfl (opv_indexAddr_z Try.underlying24 Try.sizeOf3 rfl rfl (by omega)) ?_
        refine Wo_set rfl Try.sizeOf3 rfl rfl hR6 (by first | omega | (simp <;> omega)) Owned.int (Nat.le_refl _) (by omega) ?_; rintro w8 hR6 On1 K1 hz1; have E8 := On1.ext1 Ehr3 (by omega); have hr3 := hr3.wrote E8 (K1 _ (by omega)) hz1
        have hG6 := grownBy_wrote hG6 Ehr3 E8 K1 hz1 (by first | exact .inr rfl | omega); have hO6 := hO6.wrote K1 (by omega); have hs7 := On1.size; refine Wo_nil ?_; refine W_region rfl ?_; refine Wo rfl (opv_move (v := u) rfl) ?_
        refine Wo rfl (opv_move (v := .slice _ _ _) rfl) ?_; refine Wo_buildSlice (ps := [(0, .slice _ _ _)]) (cs := [_]) rfl Try.underlying22 Try.sizeOf24 Try.zeroValue24 rfl rfl rfl rfl ?_; rintro b3 w9 hb3 E9 hB1; have hlb3 := hB1.lt
        have hr3 := hr3.ext E9; have hG6 := grownBy_ext hG6 E9; have hs8 := E9.size
        refine Wo_app1 rfl el22 rfl rfl hB1 (hO6.ext E9) (hR6.toB.ext E9).o (by omega) (by first | omega | (simp <;> omega)) (by omega) (by omega) (E8.trans E9) (by omega) ?_; have hT1 := (hO6.ext E9); rintro v1 w10 hO6 E10 M1
        have hR6 := (hR6.toB.ext E9).moves M1 hT1 (by omega); have hB1 := hB1.moves M1 hT1 (by omega); have hr3 := hr3.moves E10 M1 hT1 (by omega); have hG6 := grownBy_moves hG6 M1 hT1 (by omega); have hs9 := E10.size
        refine Wo rfl (opv_assign (v := v1) rfl) ?_; refine Wo_nil ?_; refine W_region rfl ?_; refine Wo rfl (opv_move (v := .int _ _) rfl) ?_; refine Wo rfl (opv_add rfl rfl (by omega)) ?_; refine Wo rfl (opv_assign (v := .int _ _) rfl) ?_
        refine Wo_nil ?_; rotate_left; refine W_skip ?_; refine W_region rfl ?_; refine Wo rfl (opv_move (v := u) rfl) ?_; refine Wo rfl (opv_move (v := .slice _ _ _) rfl) ?_
        refine Wo_buildSlice (ps := [(0, .slice _ _ _)]) (cs := [_]) rfl Try.underlying22 Try.sizeOf24 Try.zeroValue24 rfl rfl rfl rfl ?_; rintro b3 w8 hb3 E8 hB1; have hlb3 := hB1.lt; have hr3 := hr3.ext E8; have hG6 := grownBy_ext hG6 E8
        have hs7 := E8.size; refine Wo_app1 rfl el22 rfl rfl hB1 (hO6.ext E8) (hR6.ext E8).o (by omega) (by first | omega | (simp <;> omega)) (by omega) (by omega) (Ehr3.trans E8) (by omega) ?_; have hT1 := (hO6.ext E8)
        rintro v1 w9 hO6 E9 M1; have hR6 := (hR6.ext E8).moves M1 hT1 (by omega); have hB1 := hB1.moves M1 hT1 (by omega); have hr3 := hr3.moves E9 M1 hT1 (by omega); have hG6 := grownBy_moves hG6 M1 hT1 (by omega); have hs8 := E9.size
        refine Wo rfl (opv_assign (v := v1) rfl) ?_; refine Wo_nil ?_; refine W_region rfl ?_; refine Wo rfl (opv_move (v := .int _ _) rfl) ?_; refine Wo rfl (opv_add rfl rfl (by omega)) ?_; refine Wo rfl (opv_assign (v := .int _ _) rfl) ?_
        refine Wo_nil ?_; rotate_left; refine Wo_skip rfl ?_; refine Wo_skip rfl ?_; refine Wo_skip rfl ?_; refine Wo rfl (opv_pick_f (v := .bool _) rfl rfl) ?_; refine Wo_nil ?_; refine W_cond_false rfl ?_; refine W_skip ?_
        refine W_region rfl ?_; refine Wo rfl (opv_move (v := u) rfl) ?_; refine Wo rfl (opv_move (v := .slice _ _ _) rfl) ?_
        refine Wo_buildSlice (ps := [(0, .slice _ _ _)]) (cs := [_]) rfl Try.underlying22 Try.sizeOf24 Try.zeroValue24 rfl rfl rfl rfl ?_; rintro b3 w7 hb3 E7 hB1; have hlb3 := hB1.lt; have hG6 := grownBy_ext hG6 E7; have hr6 := hr6.ext E7
        have hs5 := E7.size; refine Wo_app1 rfl el22 rfl rfl hB1 (hO6.ext E7) (hR6.toB.ext E7).o (by omega) (by first | omega | (simp <;> omega)) (by omega) (by omega) (E6.trans E7) (by omega) ?_; have hT1 := (hO6.ext E7)
        rintro v1 w8 hO6 E8 M1; have hR6 := (hR6.toB.ext E7).moves M1 hT1 (by omega); have hB1 := hB1.moves M1 hT1 (by omega); have hG6 := grownBy_moves hG6 M1 hT1 (by omega); have hr6 := hr6.moves E8 M1 hT1 (by omega); have hs7 := E8.size
        refine Wo rfl (opv_assign (v := v1) rfl) ?_; refine Wo_nil ?_; refine W_region rfl ?_; refine Wo rfl (opv_move (v := .int _ _) rfl) ?_; refine Wo rfl (opv_add rfl rfl (by omega)) ?_; refine Wo rfl (opv_assign (v := .int _ _) rfl) ?_
        refine Wo_nil ?_; rotate_left
      · refine ⟨((k + 1, v1, rows ++ [row.set ((k : Int) + 1).toNat 1])), by repeat (first | exact trivial | refine And.intro rfl ?_), by repeat (first | with_reducible exact Same.refl | refine Same.upd rfl ?_ | refine Same.upds rfl ?_ | refine Same.mix rfl ?_), ?_, ?_⟩
        · exact ⟨by assumption, Rdr.le (by assumption) (by omega), by omega, by assumption, by simp [hrl], hrs _ (by simp [hrow])⟩
        · simp only; omega
      · refine ⟨((k + 1, v1, rows ++ [row])), by repeat (first | exact trivial | refine And.intro rfl ?_), by repeat (first | with_reducible exact Same.refl | refine Same.upd rfl ?_ | refine Same.upds rfl ?_ | refine Same.mix rfl ?_), ?_, ?_⟩
        · exact ⟨by assumption, Rdr.le (by assumption) (by omega), by omega, by assumption, by simp [hrl], hrs _ hrow⟩
        · simp only; omega
      · refine ⟨((k + 1, v1, rows ++ [row])), by repeat (first | exact trivial | refine And.intro rfl ?_), by repeat (first | with_reducible exact Same.refl | refine Same.upd rfl ?_ | refine Same.upds rfl ?_ | refine Same.mix rfl ?_), ?_, ?_⟩
        · exact ⟨by assumption, Rdr.le (by assumption) (by omega), by omega, by assumption, by simp [hrl], hrs _ hrow⟩
        · simp only; omega
  · obtain rfl : k = 1 + y1 := by omega
    obtain ⟨ub, uc, rfl, _⟩ := hO4.lit (by omega)
    have hub := hO4.lt_own (k := ub) rfl
    have hrow := hrr rows[0] (List.getElem_mem (by omega))
    obtain ⟨brw, crw, hRow, hbw1, hbw2⟩ := hO4.rowAt (i := 0) (by omega) (by omega)
    focus
      have szE4 := E4.size; have szEhr2 := Ehr2.size; have szE2 := E2.size; have szEhr1 := Ehr1.size; have szE0 := E0.size; refine W_seq ?_; refine W_seq ?_; refine W_region rfl ?_; refine Wo rfl (opv_move (v := .int _ _) rfl) ?_
      refine Wo rfl (opv_move (v := .int _ _) rfl) ?_; refine Wo rfl (opv_lss rfl rfl) ?_; refine Wo_nil ?_; refine W_cond_dec rfl (fun h1 => ?_) (fun h1 => ?_); (exfalso; omega); refine W_exit ?_; refine exitX_same ?_; refine W_seq ?_
      refine W_seq ?_; refine W_region rfl ?_; refine Wo rfl (opv_move (v := .pointer _) rfl) ?_; refine Wo rfl (opv_move (v := .int _ _) rfl) ?_
      refine Wo_call rfl (opc2 (a := .pointer _) (b := .int _ _) Try.call76 rfl rfl) (odd_ok _ _ (by assumption) (by omega) (by omega)) ?_; rintro _ w5 ⟨y3, rfl, E5, hr3, hy3⟩; (try dsimp only at hy3); have hlhr3 := hr3.lt
      have Ehr3 := hr3.old; have hG4 := grownBy_trans hG4 E5; have hO4 := hO4.toB.grown E5 (by omega); have hRow := hRow.grown E5 (by simp [Value.ownBlock]; omega); have hs4 := E5.size; refine Wo_nil ?_
      refine W_cond rfl (fun h2 => ?_) (fun h2 => ?_); refine W_seq ?_; refine W_region rfl ?_; refine Wo rfl (opv_move (v := .pointer _) rfl) ?_
      refine Wo_call rfl (opc2 (a := .pointer _) (b := .int _ _) Try.call61 rfl rfl) (pick_ok _ _ (by assumption) (by omega)) ?_; rintro _ w6 ⟨y4, rfl, E6, hr5, hy4⟩; (try dsimp only at hy4); have hlhr5 := hr5.lt; have Ehr5 := hr5.old
      have hG4 := grownBy_trans hG4 E6; have hO4 := hO4.grown E6 (by omega); have hRow := hRow.grown E6 (by simp [Value.ownBlock]; omega); have hs5 := E6.size; refine Wo_nil ?_; refine W_block ?_; refine W_seq ?_; refine W_region rfl ?_
      refine Wo rfl (opv_eql rfl rfl) ?_; refine Wo rfl (opv_assign (v := .bool _) rfl) ?_; refine Wo_nil ?_; refine W_cond_dec rfl (fun h3 => ?_) (fun h3 => ?_); refine W_seq ?_; refine W_region rfl ?_
      refine Wo_lit0 (XSl 3 XInt) rfl el22 Try.sizeOf24 ?_; rintro b2 w7 hb2 b2lt E7 hO2; have hr5 := hr5.ext E7; have hG4 := grownBy_ext hG4 E7; have hs6 := E7.size; refine Wo rfl (opv_assign (v := .slice _ _ _) rfl) ?_; refine Wo_nil ?_
      refine W_ret ?_; refine at_ret (v := .slice _ _ _) rfl ?_; rotate_left; refine W_seq ?_; refine W_region rfl ?_; refine Wo rfl (opv_eql rfl rfl) ?_; refine Wo rfl (opv_assign (v := .bool _) rfl) ?_; refine Wo_nil ?_
      refine W_cond_dec rfl (fun h4 => ?_) (fun h4 => ?_); refine W_region rfl ?_; refine Wo rfl (opv_move (v := .slice _ _ _) rfl) ?_
      refine Wo_rowAt Try.underlying22 Try.sizeOf24 Try.isAgg24 rfl (fun _ => rfl) rfl ⟨_, _, rfl⟩ rfl hRow (by first | omega | (simp <;> omega)) ?_; rintro _
      refine Wo rfl (opv_indexAddr (k := 0) Try.underlying24 Try.sizeOf3 rfl rfl (by omega)) ?_; refine Wo_gset rfl Try.sizeOf3 rfl rfl hO4 hRow (by first | omega | (simp <;> omega)) (by first | omega | (simp <;> omega)) ?_
      rintro w7 hO4 hRow On1 K1 hz1; have E7 := On1.ext1 Ehr5 (by omega); have hr5 := hr5.wrote E7 (K1 _ (by omega)) hz1; have hG4 := grownBy_wrote hG4 Ehr5 E7 K1 hz1 (by first | exact .inr rfl | omega); have hs6 := On1.size
      refine Wo_nil ?_; refine W_seq ?_; refine W_region rfl ?_; refine Wo rfl (opv_move (v := .slice _ _ _) rfl) ?_; refine Wo rfl (opv_assign (v := .slice _ _ _) rfl) ?_; refine Wo_nil ?_; refine W_ret ?_
      refine at_ret (v := .slice _ _ _) rfl ?_; rotate_left; refine W_region rfl ?_; refine Wo rfl (opv_move (v := .slice _ _ _) rfl) ?_; refine Wo rfl (opv_move (v := .slice _ _ _) rfl) ?_
      refine Wo_rowAt Try.underlying22 Try.sizeOf24 Try.isAgg24 rfl (fun _ => rfl) rfl ⟨_, _, rfl⟩ rfl hRow (by first | omega | (simp <;> omega)) ?_; rintro _
      refine Wo_buildSlice (ps := [(0, .int _ _)]) (cs := [_]) rfl Try.underlying24 Try.sizeOf3 Try.zeroValue3 rfl rfl rfl rfl ?_; rintro b2 w7 hb2 E7 hB1; have hlb2 := hB1.lt; have hr5 := hr5.ext E7; have hG4 := grownBy_ext hG4 E7
      have hs6 := E7.size; rotate_left; refine W_skip ?_; refine W_seq ?_; refine W_region rfl ?_; refine Wo rfl (opv_move (v := .slice _ _ _) rfl) ?_; refine Wo rfl (opv_assign (v := .slice _ _ _) rfl) ?_; refine Wo_nil ?_
      refine W_ret ?_; refine at_ret (v := .slice _ _ _) rfl ?_; rotate_left
    · exact ⟨by assumption, Rdr.le (by assumption) (by omega), [], Owned.mono (by assumption) (by omega), by simp⟩
    · refine ⟨by assumption, Rdr.le (by assumption) (by omega), _, by assumption, by simp; omega, fun r hr9 => ?_⟩
      rcases List.mem_or_eq_of_mem_set hr9 with h | h
      · have := hrr r h; omega
      · rw [h]; simp; omega
    · have hO7 := hO4.ext (show Ext w6 w7 by assumption)
      have hR7 := hRow.ext (show Ext w6 w7 by assumption)
      obtain ⟨hme, hRO⟩ := hO7.rowOwn hR7 (by omega)
      focus
        have szE7 := E7.size; have szEhr5 := Ehr5.size; have szEhr3 := Ehr3.size; have szE4 := E4.size; have szEhr2 := Ehr2.size; have szE2 := E2.size; have szEhr1 := Ehr1.size; have szE0 := E0.size
        refine Wo_app1 rfl el24 rfl rfl hB1 hRO Owned.int (Nat.le_refl _) (by first | omega | (simp <;> omega)) (by omega) (by omega) (Ehr5.trans E7) (by omega) ?_; have hT1 := hRO; rintro v1 w8 hRO E8 M1
        have hB1 := hB1.moves M1 hT1 (by omega); have hr5 := hr5.moves E8 M1 hT1 (by omega); have hG4 := grownBy_moves hG4 M1 hT1 (by omega); have hs7 := E8.size
        refine Wo rfl (opv_indexAddr (k := 0) Try.underlying22 Try.sizeOf24 rfl rfl (by omega)) ?_
      obtain ⟨q1, q2, ⟨q3, q4⟩, q5⟩ := hO7.rowBack hR7 (by omega) (show Moves w7 (.slice (some ⟨brw, 0, none⟩) rows[0].length crw) w8 v1 from M1) hRO (by omega)
      refine Wo_store (w' := w8.setCell ⟨ub, 0, none⟩ v1) rfl (ops_store Try.sizeOf24 rfl rfl q2 q4 q5) ?_
      have E9 : Ext w0 (w8.setCell ⟨ub, 0, none⟩ v1) := E8.setCell (by simp only; omega) v1
      have hr9 := hr5.wrote E9 (Hs.heap_setCell_other v1 (show br ≠ ub by omega)) (size_setCell _ _)
      have hG9 := grownBy_wrote (b := ub) hG4 E8 E9 (fun k hk => Hs.heap_setCell_other v1 hk) (size_setCell _ _) (.inl hub.1)
      generalize w8.setCell ⟨ub, 0, none⟩ v1 = w9 at q1 hr9 hG9 E9
      focus
        have szE9 := E9.size; have szE8 := E8.size; have szE7 := E7.size; have szEhr5 := Ehr5.size; have szEhr3 := Ehr3.size; have szE4 := E4.size; have szEhr2 := Ehr2.size; have szE2 := E2.size; have szEhr1 := Ehr1.size
        have szE0 := E0.size; refine Wo_nil ?_; refine W_seq ?_; refine W_region rfl ?_; refine Wo rfl (opv_move (v := .slice _ _ _) rfl) ?_; refine Wo rfl (opv_assign (v := .slice _ _ _) rfl) ?_; refine Wo_nil ?_; refine W_ret ?_
        refine at_ret (v := .slice _ _ _) rfl ?_
      refine ⟨hG9, hr9.le (by omega), _, q1, by simp; omega, fun r hr' => ?_⟩
      rcases List.mem_or_eq_of_mem_set hr' with h | h
      · have := hrr r h; omega
      · rw [h]; simp; omega
    · refine ⟨by assumption, Rdr.le (by assumption) (by omega), _, OwnedB.o (by assumption), by omega, fun r hr9 => ?_⟩
      have := hrr r hr9; omega

end Go.Proofs.Ythhaodjjfofogaa
