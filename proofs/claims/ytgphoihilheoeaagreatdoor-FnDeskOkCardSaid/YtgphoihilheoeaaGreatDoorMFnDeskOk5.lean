/- Lemmas for FnDeskOk. -/
import Derived.Test.YtgphoihilheoeaaGreatDoorMFnDeskOk4
import Derived.Laws.StructEq
import Derived.Tactics
import Derived.Tactics2
namespace Go.Proofs.YtgphoihilheoeaaGreatDoor
open Go.Hs
set_option maxRecDepth 10000
set_option maxHeartbeats 4000000
set_option linter.unusedVariables false
set_option linter.unusedSimpArgs false

theorem spec_ReadPicture_ok (w : World) (s : List UInt8) (hs : s.length ≤ 1048576) : Does Tryz.prog 95 [str s] w (RetOB w XR ((rdP s).getD []) (rdP s).isSome) := by
  obtain ⟨ps, hps⟩ : ∃ ps, ps = cutB 47 s := ⟨_, rfl⟩
  have k1 : ∀ w, Does Tryz.prog 106 [str s, .int .u8 47] w (RetO w XS ps) := fun w => hps ▸ l1Cut_ok w s 47 hs
  have hpl : ps.length ≤ 1048577 := by rw [hps, cutB_len]; have := List.count_le_length (a := (47 : UInt8)) (l := s); omega
  have hpe : ∀ (k : Nat) (hk : k < ps.length), ps[k].length ≤ 1048576 := fun k hk => by
    have : ps[k] ∈ cutB 47 s := hps ▸ List.getElem_mem hk
    have := cutB_mem_len s.length s (Nat.le_refl _) _ this; omega
  refine fn_of_W2 Tryz.func95 rfl Tryz.results95 Tryz.ntmps95 rfl ?_
  focus
    refine W_seq ?_; refine W_region rfl ?_; refine Wo rfl (opv_assign (v := .slice _ _ _) rfl) ?_; refine Wo rfl (opv_assign (v := .bool _) rfl) ?_; refine Wo_nil ?_; refine W_seq ?_; refine W_region rfl ?_
    refine Wo_lit0 (XSl 3 XInt) rfl el22 Tryz.sizeOf58 ?_; rintro b1 w1 hb1 b1lt E1 hO1; have hs1 := E1.size; refine Wo rfl (opv_assign (v := .slice _ _ _) rfl) ?_; refine Wo_nil ?_; refine W_seq ?_; refine W_region rfl ?_
    refine Wo rfl (opv_move (v := .string _) rfl) ?_; refine Wo_call rfl (opc2 (a := .string _) (b := .int _ _) Tryz.call106 rfl rfl) (k1 _) ?_; rintro u1 w2 ⟨E2, hO2⟩; have hs2 := E2.size; refine Wo rfl (opv_assign (v := u1) rfl) ?_
    refine Wo_nil ?_; refine W_seq ?_; refine W_seq ?_; refine W_region rfl ?_; refine Wo rfl (opv_assign (v := .int _ _) rfl) ?_; refine Wo_nil ?_; refine W_block ?_
  have hBe : Besides (Value.ownBlock (.slice (some ⟨b1, 0, none⟩) 0 0)) Strs w2 u1 ps := Besides.start hO1 hO2.above
  refine W_loop [2, 3, 4, 6, 7, 8, 9, 13, 14, 15, 16, 17, 18, 19, 20, 21, 22, 23, 24, 25, 26, 27, 28, 29, 30, 31, 32, 33, 34, 35, 36, 37, 38, 39, 40, 41, 42, 43, 44, 45, 46, 47, 48, 49, 50, 51, 52] (fun (k, u) => [(6, .int .i64 (k : Nat)), (4, u)]) (fun (k, u) w' => Ext w w' ∧ k ≤ ps.length ∧ Owned w.heap.size XR w' u ((ps.take k).map (rowB ps.length)) ∧ Besides u.ownBlock Strs w' u1 ps ∧ ∀ x ∈ ps.take k, inR ps.length x) (fun x => ps.length - x.1) (0, .slice (some ⟨b1, 0, none⟩) 0 0) (by repeat (first | exact trivial | refine And.intro rfl ?_)) ?_ ?_
  · exact ⟨E1.trans E2, Nat.zero_le _, hO1.ext E2, hBe, by simp⟩
  clear hO1 hO2 hBe
  rintro ⟨k, u⟩ ρj w3 ⟨E3, hk, hO3, hBe, hin⟩
  by_cases hkl : k < ps.length
  · have hpk := hpe k hkl
    focus
      have szE3 := E3.size; have szE2 := E2.size; have szE1 := E1.size; refine W_seq ?_; refine W_seq ?_; refine W_region rfl ?_; refine Wo rfl (opv_move (v := .int _ _) rfl) ?_; refine Wo rfl (opv_move (v := u1) rfl) ?_
      refine Wo rfl (opv_len Tryz.underlying82 rfl (Besides.here hBe)) ?_; refine Wo rfl (opv_lss rfl rfl) ?_; refine Wo_nil ?_; refine W_cond_dec rfl (fun h1 => ?_) (fun h1 => ?_); refine W_skip ?_; refine W_seq ?_; refine W_block ?_
      refine W_seq ?_; refine W_region rfl ?_; refine Wo rfl (opv_move (v := u1) rfl) ?_; refine Wo rfl (opv_len Tryz.underlying82 rfl (Besides.here hBe)) ?_; refine Wo_makeI rfl el58 rfl (by omega) ?_; rintro b2 w4 hb2 b2lt E4 hO1
      have hs3 := E4.size; refine Wo rfl (opv_assign (v := .slice _ _ _) rfl) ?_; refine Wo_nil ?_; refine W_seq ?_; refine W_seq ?_; refine W_region rfl ?_; refine Wo rfl (opv_assign (v := .int _ _) rfl) ?_; refine Wo_nil ?_
      refine W_block ?_; rotate_left; (exfalso; omega)
    refine W_loop [2, 3, 8, 9, 22, 23, 24, 25, 26, 27, 28, 29, 30, 31, 32, 33, 34, 35, 36, 37, 38, 39, 40, 41, 42, 43, 44, 45, 46, 47, 48] (fun (j : Nat) => [(8, .int .i64 (j : Nat))]) (fun j w' => Ext w3 w' ∧ j ≤ ps[k].length ∧ Owned w3.heap.size XI w' (.slice (some ⟨b2, 0, none⟩) ps.length ps.length) (rowB ps.length (ps[k].take j)) ∧ inR ps.length (ps[k].take j)) (fun j => ps[k].length - j) 0 (by repeat (first | exact trivial | refine And.intro rfl ?_)) ?_ ?_
    · refine ⟨by assumption, Nat.zero_le _, ?_, fun c hc => by cases hc⟩
      rw [List.take_zero, rowB_nil]
      simpa using hO1
    clear hO1
    rintro j ρk w5 ⟨E5, hj, hO5, hir⟩
    have hrl : (rowB ps.length (ps[k].take j)).length = ps.length := rowB_len
    by_cases hjl : j < ps[k].length
    · have hc8 : (ps[k].getD j 0).toNat < 256 := UInt8.toNat_lt _
      have hcd : ps[k].getD j 0 = ps[k][j] := getD_lt hjl
      have hts : ps[k].take (j + 1) = ps[k].take j ++ [ps[k].getD j 0] := by rw [hcd]; exact List.take_succ_eq_append_getElem hjl
      have hmem : ps[k] ∈ cutB 47 s := hps ▸ List.getElem_mem hkl
      have hnl : (ps.length : Int) = (cutB 47 s).length := by rw [hps]
      by_cases hr : 48 ≤ (ps[k].getD j 0).toNat ∧ (ps[k].getD j 0).toNat < 48 + ps.length
      · focus
          have szE5 := E5.size; have szE4 := E4.size; have szE3 := E3.size; have szE2 := E2.size; have szE1 := E1.size; refine W_seq ?_; refine W_seq ?_; refine W_region rfl ?_; refine Wo rfl (opv_move (v := .int _ _) rfl) ?_
          refine Wo rfl (opv_move (v := u1) rfl) ?_; refine Wo rfl (opv_move (v := .int _ _) rfl) ?_
          refine Wo_get Tryz.underlying82 Tryz.sizeOf9 Tryz.isAgg9 rfl (fun _ => rfl) rfl (Besides.here hBe) E5 rfl (by first | omega | (simp <;> omega)) ?_; rintro _ _ ⟨rfl, -⟩; refine Wo rfl (opv_len_str Tryz.underlying9 rfl) ?_
          refine Wo rfl (opv_lss rfl rfl) ?_; refine Wo_nil ?_; refine W_cond_dec rfl (fun h2 => ?_) (fun h2 => ?_); refine W_skip ?_; refine W_seq ?_; refine W_block ?_; refine W_seq ?_; refine W_region rfl ?_
          refine Wo rfl (opv_move (v := u1) rfl) ?_; refine Wo rfl (opv_move (v := .int _ _) rfl) ?_
          refine Wo_get Tryz.underlying82 Tryz.sizeOf9 Tryz.isAgg9 rfl (fun _ => rfl) rfl (Besides.here hBe) E5 rfl (by first | omega | (simp <;> omega)) ?_; rintro _ _ ⟨rfl, -⟩; refine Wo rfl (opv_move (v := .int _ _) rfl) ?_
          refine Wo rfl (opv_index_str Tryz.underlying9 rfl rfl (by omega)) ?_; refine Wo rfl (opv_conv_int Tryz.underlying5 Tryz.underlying3 rfl (by omega)) ?_; refine Wo rfl (opv_sub rfl rfl (by omega)) ?_
          refine Wo rfl (opv_assign (v := .int _ _) rfl) ?_; refine Wo_nil ?_; refine W_seq ?_; refine W_seq ?_; refine W_region rfl ?_; refine Wo rfl (opv_move (v := .int _ _) rfl) ?_; refine Wo rfl (opv_move (v := u1) rfl) ?_
          refine Wo rfl (opv_len Tryz.underlying82 rfl (Besides.here hBe)) ?_; refine Wo rfl (opv_sub rfl rfl (by omega)) ?_
          refine Wo_call rfl (opc3 (a := .int _ _) (b := .int _ _) (c := .int _ _) Tryz.call53 rfl rfl rfl) (l1In_ok _ _ _ _) ?_; rintro _ w6 ⟨rfl, E6⟩; have hs4 := E6.size; refine Wo rfl (opv_not rfl) ?_; refine Wo_nil ?_
          refine W_cond_ndec rfl (fun h3 => ?_) (fun h3 => ?_); (exfalso; omega); refine W_skip ?_; refine W_region rfl ?_; refine Wo rfl (opv_move (v := .slice _ _ _) rfl) ?_; refine Wo rfl (opv_move (v := .int _ _) rfl) ?_
          refine Wo rfl (opv_indexAddr_z Tryz.underlying58 Tryz.sizeOf3 rfl rfl (by omega)) ?_; refine Wo_set rfl Tryz.sizeOf3 rfl rfl (hO5.toB.ext E6) (by first | omega | (simp <;> omega)) Owned.int (Nat.le_refl _) (by omega) ?_
          rintro w7 hO5 On1 K1 hz1; have E7 := On1.ext1 ((E3.trans E5).trans E6) (by omega); have E8 := On1.ext1 (E5.trans E6) (by omega); have szE8 := E8.size; have hO3 := (hO3.toB.ext (E5.trans E6)).wrote K1 (by omega); have hs5 := On1.size
          refine Wo_nil ?_; refine W_region rfl ?_; refine Wo rfl (opv_move (v := .int _ _) rfl) ?_; refine Wo rfl (opv_add rfl rfl (by omega)) ?_; refine Wo rfl (opv_assign (v := .int _ _) rfl) ?_; refine Wo_nil ?_; rotate_left
          (exfalso; omega)
        · refine ⟨(j + 1), by repeat (first | exact trivial | refine And.intro rfl ?_), by repeat (first | with_reducible exact Same.refl | refine Same.upd rfl ?_ | refine Same.upds rfl ?_ | refine Same.mix rfl ?_), ?_, ?_⟩
          · refine ⟨by assumption, by omega, ?_, ?_⟩
            · rw [rowB_set (c := ps[k].getD j 0) (by omega) (by omega), ← hts] at hO5
              exact hO5
            · rw [hts]
              intro c hc
              rcases List.mem_append.1 hc with hc | hc
              · exact hir c hc
              · obtain rfl := List.mem_singleton.1 hc; exact hr
          · omega
        all_goals omega
      · rw [rd_no1 hmem (List.getElem_mem hjl) (fun h => hr (by rw [hcd]; omega))]
        focus
          have szE5 := E5.size; have szE4 := E4.size; have szE3 := E3.size; have szE2 := E2.size; have szE1 := E1.size; refine W_seq ?_; refine W_seq ?_; refine W_region rfl ?_; refine Wo rfl (opv_move (v := .int _ _) rfl) ?_
          refine Wo rfl (opv_move (v := u1) rfl) ?_; refine Wo rfl (opv_move (v := .int _ _) rfl) ?_
          refine Wo_get Tryz.underlying82 Tryz.sizeOf9 Tryz.isAgg9 rfl (fun _ => rfl) rfl (Besides.here hBe) E5 rfl (by first | omega | (simp <;> omega)) ?_; rintro _ _ ⟨rfl, -⟩; refine Wo rfl (opv_len_str Tryz.underlying9 rfl) ?_
          refine Wo rfl (opv_lss rfl rfl) ?_; refine Wo_nil ?_; refine W_cond_dec rfl (fun h2 => ?_) (fun h2 => ?_); refine W_skip ?_; refine W_seq ?_; refine W_block ?_; refine W_seq ?_; refine W_region rfl ?_
          refine Wo rfl (opv_move (v := u1) rfl) ?_; refine Wo rfl (opv_move (v := .int _ _) rfl) ?_
          refine Wo_get Tryz.underlying82 Tryz.sizeOf9 Tryz.isAgg9 rfl (fun _ => rfl) rfl (Besides.here hBe) E5 rfl (by first | omega | (simp <;> omega)) ?_; rintro _ _ ⟨rfl, -⟩; refine Wo rfl (opv_move (v := .int _ _) rfl) ?_
          refine Wo rfl (opv_index_str Tryz.underlying9 rfl rfl (by omega)) ?_; refine Wo rfl (opv_conv_int Tryz.underlying5 Tryz.underlying3 rfl (by omega)) ?_; refine Wo rfl (opv_sub rfl rfl (by omega)) ?_
          refine Wo rfl (opv_assign (v := .int _ _) rfl) ?_; refine Wo_nil ?_; refine W_seq ?_; refine W_seq ?_; refine W_region rfl ?_; refine Wo rfl (opv_move (v := .int _ _) rfl) ?_; refine Wo rfl (opv_move (v := u1) rfl) ?_
          refine Wo rfl (opv_len Tryz.underlying82 rfl (Besides.here hBe)) ?_; refine Wo rfl (opv_sub rfl rfl (by omega)) ?_
          refine Wo_call rfl (opc3 (a := .int _ _) (b := .int _ _) (c := .int _ _) Tryz.call53 rfl rfl rfl) (l1In_ok _ _ _ _) ?_; rintro _ w6 ⟨rfl, E6⟩; have hs4 := E6.size; refine Wo rfl (opv_not rfl) ?_; refine Wo_nil ?_
          refine W_cond_ndec rfl (fun h3 => ?_) (fun h3 => ?_); refine W_seq ?_; refine W_region rfl ?_; refine Wo_lit0 (XSl 3 XInt) rfl el22 Tryz.sizeOf58 ?_; rintro b3 w7 hb3 b3lt E7 hO1; have hs5 := E7.size
          refine Wo rfl (opv_assign (v := .slice _ _ _) rfl) ?_; refine Wo rfl (opv_assign (v := .bool _) rfl) ?_; refine Wo_nil ?_; refine W_ret ?_; refine at_ret (v := .tuple #[.slice _ _ _, .bool _]) rfl ?_
          exact ⟨_, rfl, (((E3.trans E5).trans E6).trans E7), hO1.toB.o.mono (by omega)⟩; (exfalso; omega); (exfalso; omega)
        all_goals omega
    · obtain rfl : j = ps[k].length := by omega
      rw [List.take_length] at hO5 hir
      focus
        have szE5 := E5.size; have szE4 := E4.size; have szE3 := E3.size; have szE2 := E2.size; have szE1 := E1.size; refine W_seq ?_; refine W_seq ?_; refine W_region rfl ?_; refine Wo rfl (opv_move (v := .int _ _) rfl) ?_
        refine Wo rfl (opv_move (v := u1) rfl) ?_; refine Wo rfl (opv_move (v := .int _ _) rfl) ?_
        refine Wo_get Tryz.underlying82 Tryz.sizeOf9 Tryz.isAgg9 rfl (fun _ => rfl) rfl (Besides.here hBe) E5 rfl (by first | omega | (simp <;> omega)) ?_; rintro _ _ ⟨rfl, -⟩; refine Wo rfl (opv_len_str Tryz.underlying9 rfl) ?_
        refine Wo rfl (opv_lss rfl rfl) ?_; refine Wo_nil ?_; refine W_cond_dec rfl (fun h2 => ?_) (fun h2 => ?_); (exfalso; omega); refine W_exit ?_; refine exitX_same ?_; refine W_region rfl ?_; refine Wo rfl (opv_move (v := u) rfl) ?_
        refine Wo rfl (opv_move (v := .slice _ _ _) rfl) ?_; refine Wo_buildSlice (ps := [(0, .slice _ _ _)]) (cs := [_]) rfl Tryz.underlying22 Tryz.sizeOf58 Tryz.zeroValue58 rfl rfl rfl rfl ?_; rintro b3 w6 hb3 E6 hB1; have hlb3 := hB1.lt
        have hs4 := E6.size; refine Wo_app1 rfl el22 rfl rfl hB1 (hO3.toB.ext (E5.trans E6)) (hO5.toB.ext E6).o (by omega) (by first | omega | (simp <;> omega)) (by omega) (by omega) ((E3.trans E5).trans E6) (by omega) ?_
        have hT1 := (hO3.toB.ext (E5.trans E6)); rintro v1 w7 hO3 E7 M1; have hBe := (hBe.ext (E5.trans E6)).moves M1; have hO5 := (hO5.toB.ext E6).moves M1 hT1 (by omega); have hB1 := hB1.moves M1 hT1 (by omega); have hs5 := E7.size
        refine Wo rfl (opv_assign (v := v1) rfl) ?_; refine Wo_nil ?_; refine W_region rfl ?_; refine Wo rfl (opv_move (v := .int _ _) rfl) ?_; refine Wo rfl (opv_add rfl rfl (by omega)) ?_; refine Wo rfl (opv_assign (v := .int _ _) rfl) ?_
        refine Wo_nil ?_
      refine ⟨((k + 1, v1)), by repeat (first | exact trivial | refine And.intro rfl ?_), by repeat (first | with_reducible exact Same.refl | refine Same.upd rfl ?_ | refine Same.upds rfl ?_ | refine Same.mix rfl ?_), ?_, ?_⟩
      · have hts : ps.take (k + 1) = ps.take k ++ [ps[k]] := List.take_succ_eq_append_getElem hkl
        refine ⟨by assumption, by omega, ?_, by assumption, ?_⟩
        · rw [hts, List.map_append]; exact hO3
        · rw [hts]
          intro x hx
          rcases List.mem_append.1 hx with hx | hx
          · exact hin x hx
          · obtain rfl := List.mem_singleton.1 hx; exact hir
      · simp only; omega
  · obtain rfl : k = ps.length := by omega
    have eM : ps.map (rowB ps.length) = rdM s := by rw [hps]; rfl
    rw [List.take_length, eM] at hO3
    clear k1
    by_cases hP : Pic (rdM s)
    · by_cases hT : txt (rdM s) = s
      · rw [rd_yes hP hT]
        have k2 : ∀ w v, ESl Ints w v (rdM s) → Does Tryz.prog 52 [v] w (Ret w (.bool true)) := fun w v h => by
          have := PictureOk_ok w v _ h
          rwa [decide_eq_true hP] at this
        have k3 : ∀ w v, ESl Ints w v (rdM s) → Does Tryz.prog 38 [v] w (Ret w (str s)) := fun w v h => by
          have := PictureText_ok w v _ h
          rwa [if_pos hP, hT] at this
        focus
          have szE3 := E3.size; have szE2 := E2.size; have szE1 := E1.size; refine W_seq ?_; refine W_seq ?_; refine W_region rfl ?_; refine Wo rfl (opv_move (v := .int _ _) rfl) ?_; refine Wo rfl (opv_move (v := u1) rfl) ?_
          refine Wo rfl (opv_len Tryz.underlying82 rfl (Besides.here hBe)) ?_; refine Wo rfl (opv_lss rfl rfl) ?_; refine Wo_nil ?_; refine W_cond_dec rfl (fun h1 => ?_) (fun h1 => ?_); (exfalso; omega); refine W_exit ?_; refine exitX_same ?_
          refine W_seq ?_; refine W_seq ?_; refine W_region rfl ?_; refine Wo rfl (opv_move (v := u) rfl) ?_; refine Wo_call rfl (opc1 (a := u) Tryz.call52 rfl) (k2 _ _ ((Owned.read hO3))) ?_; rintro _ w4 ⟨rfl, E4⟩; have hs3 := E4.size
          refine Wo rfl (opv_not rfl) ?_; refine Wo_split rfl (opv_move (v := .bool _) rfl) (fun h2 => ?_) (fun h2 => ?_); contradiction; refine Wo rfl (opv_move (v := u) rfl) ?_
          refine Wo_call rfl (opc1 (a := u) Tryz.call38 rfl) (k3 _ _ ((Mono.mono E4 (Owned.read hO3)))) ?_; rintro _ w5 ⟨rfl, E5⟩; have hs4 := E5.size; refine Wo rfl (opv_move (v := .string _) rfl) ?_; refine Wo rfl (opv_neq_str rfl rfl) ?_
          refine Wo rfl (opv_pick_f (v := .bool _) rfl rfl) ?_; refine Wo_nil ?_; refine W_cond_ndec rfl (fun h3 => ?_) (fun h3 => ?_); contradiction; refine W_skip ?_; refine W_seq ?_; refine W_region rfl ?_
          refine Wo rfl (opv_move (v := u) rfl) ?_; refine Wo rfl (opv_assign (v := u) rfl) ?_; refine Wo rfl (opv_assign (v := .bool _) rfl) ?_; refine Wo_nil ?_; refine W_ret ?_; refine at_ret (v := .tuple #[u, .bool _]) rfl ?_
          exact ⟨_, rfl, ((E3.trans E4).trans E5), (hO3.toB.ext (E4.trans E5)).o.mono (by omega)⟩
      · rw [rd_no3 hT]
        have k2 : ∀ w v, ESl Ints w v (rdM s) → Does Tryz.prog 52 [v] w (Ret w (.bool true)) := fun w v h => by
          have := PictureOk_ok w v _ h
          rwa [decide_eq_true hP] at this
        have k3 : ∀ w v, ESl Ints w v (rdM s) → Does Tryz.prog 38 [v] w (Ret w (str (txt (rdM s)))) := fun w v h => by
          have := PictureText_ok w v _ h
          rwa [if_pos hP] at this
        focus
          have szE3 := E3.size; have szE2 := E2.size; have szE1 := E1.size; refine W_seq ?_; refine W_seq ?_; refine W_region rfl ?_; refine Wo rfl (opv_move (v := .int _ _) rfl) ?_; refine Wo rfl (opv_move (v := u1) rfl) ?_
          refine Wo rfl (opv_len Tryz.underlying82 rfl (Besides.here hBe)) ?_; refine Wo rfl (opv_lss rfl rfl) ?_; refine Wo_nil ?_; refine W_cond_dec rfl (fun h1 => ?_) (fun h1 => ?_); (exfalso; omega); refine W_exit ?_; refine exitX_same ?_
          refine W_seq ?_; refine W_seq ?_; refine W_region rfl ?_; refine Wo rfl (opv_move (v := u) rfl) ?_; refine Wo_call rfl (opc1 (a := u) Tryz.call52 rfl) (k2 _ _ ((Owned.read hO3))) ?_; rintro _ w4 ⟨rfl, E4⟩; have hs3 := E4.size
          refine Wo rfl (opv_not rfl) ?_; refine Wo_split rfl (opv_move (v := .bool _) rfl) (fun h2 => ?_) (fun h2 => ?_); contradiction; refine Wo rfl (opv_move (v := u) rfl) ?_
          refine Wo_call rfl (opc1 (a := u) Tryz.call38 rfl) (k3 _ _ ((Mono.mono E4 (Owned.read hO3)))) ?_; rintro _ w5 ⟨rfl, E5⟩; have hs4 := E5.size; refine Wo rfl (opv_move (v := .string _) rfl) ?_; refine Wo rfl (opv_neq_str rfl rfl) ?_
          refine Wo rfl (opv_pick_f (v := .bool _) rfl rfl) ?_; refine Wo_nil ?_; refine W_cond_ndec rfl (fun h3 => ?_) (fun h3 => ?_); refine W_seq ?_; refine W_region rfl ?_; refine Wo_lit0 (XSl 3 XInt) rfl el22 Tryz.sizeOf58 ?_
          rintro b2 w6 hb2 b2lt E6 hO1; have hs5 := E6.size; refine Wo rfl (opv_assign (v := .slice _ _ _) rfl) ?_; refine Wo rfl (opv_assign (v := .bool _) rfl) ?_; refine Wo_nil ?_; refine W_ret ?_
          refine at_ret (v := .tuple #[.slice _ _ _, .bool _]) rfl ?_; exact ⟨_, rfl, (((E3.trans E4).trans E5).trans E6), hO1.toB.o.mono (by omega)⟩; contradiction
    · rw [rd_no2 hP]
      have k2 : ∀ w v, ESl Ints w v (rdM s) → Does Tryz.prog 52 [v] w (Ret w (.bool false)) := fun w v h => by
        have := PictureOk_ok w v _ h
        rwa [decide_eq_false hP] at this
      focus
        have szE3 := E3.size; have szE2 := E2.size; have szE1 := E1.size; refine W_seq ?_; refine W_seq ?_; refine W_region rfl ?_; refine Wo rfl (opv_move (v := .int _ _) rfl) ?_; refine Wo rfl (opv_move (v := u1) rfl) ?_
        refine Wo rfl (opv_len Tryz.underlying82 rfl (Besides.here hBe)) ?_; refine Wo rfl (opv_lss rfl rfl) ?_; refine Wo_nil ?_; refine W_cond_dec rfl (fun h1 => ?_) (fun h1 => ?_); (exfalso; omega); refine W_exit ?_; refine exitX_same ?_
        refine W_seq ?_; refine W_seq ?_; refine W_region rfl ?_; refine Wo rfl (opv_move (v := u) rfl) ?_; refine Wo_call rfl (opc1 (a := u) Tryz.call52 rfl) (k2 _ _ ((Owned.read hO3))) ?_; rintro _ w4 ⟨rfl, E4⟩; have hs3 := E4.size
        refine Wo rfl (opv_not rfl) ?_; refine Wo_split rfl (opv_move (v := .bool _) rfl) (fun h2 => ?_) (fun h2 => ?_); refine Wo_skip rfl ?_; refine Wo_skip rfl ?_; refine Wo_skip rfl ?_; refine Wo_skip rfl ?_
        refine Wo rfl (opv_pick_t (v := .bool _) rfl rfl) ?_; refine Wo_nil ?_; refine W_cond_true rfl ?_; refine W_seq ?_; refine W_region rfl ?_; refine Wo_lit0 (XSl 3 XInt) rfl el22 Tryz.sizeOf58 ?_; rintro b2 w5 hb2 b2lt E5 hO1
        have hs4 := E5.size; refine Wo rfl (opv_assign (v := .slice _ _ _) rfl) ?_; refine Wo rfl (opv_assign (v := .bool _) rfl) ?_; refine Wo_nil ?_; refine W_ret ?_; refine at_ret (v := .tuple #[.slice _ _ _, .bool _]) rfl ?_
        exact ⟨_, rfl, ((E3.trans E4).trans E5), hO1.toB.o.mono (by omega)⟩; contradiction

end Go.Proofs.YtgphoihilheoeaaGreatDoor
set_option linter.unusedVariables false
set_option linter.unusedSimpArgs false
namespace Go.Hs
section
variable {P : Program} {n : Nat} {N : Env → World → Prop} {ρ : Env} {w w0 : World} {all : Array Oper} {rest : List Oper} {d : Nat} {ty t tl : TypeId} {pos : String} {after : Array Edge} {g : Option (Nat × Bool)} {x y : Operand} {u1 u2 u3 v1 v2 v3 : Value} {b o : Nat} {zs : List Value}
theorem opv_load3o (ht : ∀ w, (isAgg tl).run P w = .ok true w) (hs : ∀ w, (sizeOf tl).run P w = .ok 3 w) (hx : evalE ρ x = .pointer (some ⟨b, o, none⟩)) (h0 : w.cell? ⟨b, o, none⟩ = some u1) (h1 : w.cell? ⟨b, o + 1, none⟩ = some u2) (h2 : w.cell? ⟨b, o + 2, none⟩ = some u3) :
    OpV P (.load tl x) ty ρ w (.agg #[u1, u2, u3]) := by
  have e0 : (⟨b, o, none⟩ : Addr).add 0 = ⟨b, o, none⟩ := add_mk b o 0
  have e1 : (⟨b, o, none⟩ : Addr).add 1 = ⟨b, o + 1, none⟩ := add_mk b o 1
  have e2 : (⟨b, o, none⟩ : Addr).add 2 = ⟨b, o + 2, none⟩ := add_mk b o 2
  simp [OpV, execOp, hx, Instr.loadAt, Instr.sureAddr, loadVar, ht, hs, loadCells, loadCellsFrom, e0, e1, e2, h0, h1, h2]
theorem opv_load3 (ht : ∀ w, (isAgg tl).run P w = .ok true w) (hs : ∀ w, (sizeOf tl).run P w = .ok 3 w) (hx : evalE ρ x = .pointer (some ⟨b, 0, none⟩)) (hB : Blk w b [u1, u2, u3]) : OpV P (.load tl x) ty ρ w (.agg #[u1, u2, u3]) :=
  opv_load3o ht hs hx (hB.cell rfl) (hB.cell rfl) (hB.cell rfl)
theorem Wo_allocN (hw : wantedE all ⟨some d, .alloc t, ty, pos, after, g⟩ ρ = true) (hF : Flat P t zs)
    (hk : ∀ b w1, w.heap.size ≤ b → Ext w w1 → Blk w1 b zs → Wops P n all rest N (upd ρ d (.pointer (some ⟨b, 0, none⟩))) w1) :
    Wops P n all (⟨some d, .alloc t, ty, pos, after, g⟩ :: rest) N ρ w := by
  obtain ⟨fs, hund, hzero, hplaces⟩ := hF
  refine Wo_run (v := .pointer (some ⟨w.heap.size, 0, none⟩)) (w' := w.alloc (.cells zs.toArray t)) hw ?_ (hk _ _ (Nat.le_refl _) ((Ext.refl w).alloc _) (Blk.new w zs t))
  simp [execOp, Instr.alloc, newVar, newRow, hzero, Value.cells]
theorem ops_store3 {c1 c2 c3 : Value} (hs : ∀ w, (sizeOf tl).run P w = .ok 3 w) (hx : evalE ρ x = .pointer (some ⟨b, 0, none⟩)) (hy : evalE ρ y = .agg #[v1, v2, v3]) (h1 : isCell v1 = true) (h2 : isCell v2 = true) (h3 : isCell v3 = true) (hB : Blk w b [c1, c2, c3]) :
    OpS P (.store tl x y) ty ρ w (((w.setCell ⟨b, 0, none⟩ v1).setCell ⟨b, 1, none⟩ v2).setCell ⟨b, 2, none⟩ v3) := by
  have hB' : Blk (w.setCell ⟨b, 0, none⟩ v1) b [v1, c2, c3] := hB.set v1
  have hB'' : Blk ((w.setCell ⟨b, 0, none⟩ v1).setCell ⟨b, 1, none⟩ v2) b [v1, v2, c3] := hB'.set v2
  have k1 := run_store_cell (P := P) (w := w) (ad := ⟨b, 0, none⟩) h1 (hB.cell (i := 0) rfl) hB.frozen
  have k2 := run_store_cell (P := P) (w := w.setCell ⟨b, 0, none⟩ v1) (ad := ⟨b, 1, none⟩) h2 (hB'.cell (i := 1) rfl) hB'.frozen
  have k3 := run_store_cell (P := P) (w := (w.setCell ⟨b, 0, none⟩ v1).setCell ⟨b, 1, none⟩ v2) (ad := ⟨b, 2, none⟩) h3 (hB''.cell (i := 2) rfl) hB''.frozen
  simp [OpS, execOp, hx, hy, Instr.storeAt, Instr.sureAddr, storeVar, hs, Value.cells, storeCells, Addr.add, k1, k2, k3]
theorem Wo_st3 {c1 c2 c3 : Value} (hw : wantedE all ⟨none, .store t x y, ty, pos, after, g⟩ ρ = true) (hs : ∀ w, (sizeOf t).run P w = .ok 3 w) (hx : evalE ρ x = .pointer (some ⟨b, 0, none⟩)) (hy : evalE ρ y = .agg #[v1, v2, v3]) (h1 : isCell v1 = true) (h2 : isCell v2 = true) (h3 : isCell v3 = true)
    (hb : Blk w b [c1, c2, c3]) (h0 : w0.heap.size ≤ b) (hE : Ext w0 w)
    (hk : ∀ w1, Ext w0 w1 → Blk w1 b [v1, v2, v3] → (∀ k, k ≠ b → w1.heap[k]? = w.heap[k]?) → w1.heap.size = w.heap.size → Wops P n all rest N ρ w1) :
    Wops P n all (⟨none, .store t x y, ty, pos, after, g⟩ :: rest) N ρ w := by
  have hb' : Blk (w.setCell ⟨b, 0, none⟩ v1) b [v1, c2, c3] := hb.set v1
  have hb'' : Blk ((w.setCell ⟨b, 0, none⟩ v1).setCell ⟨b, 1, none⟩ v2) b [v1, v2, c3] := hb'.set v2
  refine Wo_store hw (ops_store3 hs hx hy h1 h2 h3 hb) (hk _ (((hE.setCell h0 v1).setCell h0 v2).setCell h0 v3) (hb''.set v3) (fun k h => ?_) ?_)
  · rw [heap_setCell_other _ h, heap_setCell_other _ h, heap_setCell_other _ h]
  · rw [size_setCell, size_setCell, size_setCell]
end
/-- A pointer to a struct of three cells, and what is said of the struct. -/
def CellS3 (w : World) (p : Value) (K : Value → Prop) : Prop := ∃ b u1 u2 u3, p = .pointer (some ⟨b, 0, none⟩) ∧ Blk w b [u1, u2, u3] ∧ K (.agg #[u1, u2, u3])
section
variable {P : Program} {t a a' : Tmp} {ta ta' : TypeId} {w : World} {v : Value}
theorem run_loadVar3 {b : Nat} {u1 u2 u3 : Value} (ht : ∀ w, (isAgg ta).run P w = .ok true w) (hs : ∀ w, (sizeOf ta).run P w = .ok 3 w) (hB : Blk w b [u1, u2, u3]) : (loadVar ta ⟨b, 0, none⟩).run P w = .ok (.agg #[u1, u2, u3]) w := by
  have h0 : w.cell? ⟨b, 0, none⟩ = some u1 := hB.cell rfl
  have h1 : w.cell? ⟨b, 1, none⟩ = some u2 := hB.cell rfl
  have h2 : w.cell? ⟨b, 2, none⟩ = some u3 := hB.cell rfl
  simp [loadVar, ht, hs, loadCells, loadCellsFrom, Addr.add, h0, h1, h2]
theorem results_c3 {fn : Func} {b : Nat} {u1 u2 u3 : Value} (h : fn.results = #[.cell a ta]) (tmps : Array Value) (ht : ∀ w, (isAgg ta).run P w = .ok true w) (hs : ∀ w, (sizeOf ta).run P w = .ok 3 w)
    (hp : tmps.getD a undef = .pointer (some ⟨b, 0, none⟩)) (hB : Blk w b [u1, u2, u3]) : (results fn tmps).run P w = .ok (.agg #[u1, u2, u3]) w := by
  rw [Array.getD_eq_getD_getElem?] at hp
  simp [results, h, hp, asAddr, run_loadVar3 ht hs hB]
theorem fn_of_Wc3 {f : FuncId} {fn : Func} {c : Code} {args : List Value} {S : Value → World → Prop} (hf : P.funcs[f]? = some fn) (hb : fn.body = some c)
    (hr : fn.results = #[.cell a ta]) {n : Nat} (hn : fn.ntmps = n) (hl : Nat.ble args.length n = true) (ht : ∀ w, (isAgg ta).run P w = .ok true w) (hs : ∀ w, (sizeOf ta).run P w = .ok 3 w)
    (h : W P n c (fun ρ w' => CellS3 w' (ρ a) fun v => S v w') (fun _ _ _ => False) (fun ρ w' => CellS3 w' (ρ a) fun v => S v w') (envOf args) w) : Does P f args w S := by
  subst hn
  unfold W at h
  unfold Does
  refine calls_of_wp hf hb (Go.wp_mono (h _ (Rep.start args _ hl)) fun e a w q => ?_)
  cases e with
  | normal =>
    obtain ⟨ρ, h1, b, u1, u2, u3, h2, h3, h4⟩ := q
    exact ⟨h1.defers, _, results_c3 hr _ ht hs ((h1.get _).trans h2) h3, _, rfl, h4⟩
  | ret =>
    obtain ⟨ρ, h1, b, u1, u2, u3, h2, h3, h4⟩ := q
    exact ⟨h1.defers, _, results_c3 hr _ ht hs ((h1.get _).trans h2) h3, _, rfl, h4⟩
  | exit i => obtain ⟨ρ, h1, h2⟩ := q; exact h2.elim
  | goto l => exact q.elim
  | panic ch => exact q.elim
  | outgrown => exact q.elim
end

/-- a deed that lies here -/
def DeedAt (w : World) (b o : Nat) (a : Deed) : Prop := w.cell? ⟨b, o, none⟩ = some (.int .i64 a.kind) ∧ w.cell? ⟨b, o + 1, none⟩ = some (str a.text) ∧ w.cell? ⟨b, o + 2, none⟩ = some (.int .i64 a.node) ∧ a.text.length ≤ 9223372036854775807
theorem DeedAt.ext {w w' : World} {b o : Nat} {a : Deed} (h : DeedAt w b o a) (e : Ext w w') : DeedAt w' b o a := ⟨e.cell h.1, e.cell h.2.1, e.cell h.2.2.1, h.2.2.2⟩
/-- a slice of deeds -/
def ESD (w : World) (v : Value) (l : List Deed) : Prop := ∃ a c, v = .slice a l.length c ∧ l.length ≤ 9223372036854775807 ∧ (l = [] ∨ ∃ b o, a = some ⟨b, o, none⟩ ∧ ∀ i (h : i < l.length), DeedAt w b (o + i * 3) l[i])
instance : Mono ESD := ⟨by
  rintro w w' v l e ⟨a, c, rfl, h1, h2⟩
  refine ⟨a, c, rfl, h1, h2.imp id ?_⟩
  rintro ⟨b, o, rfl, h⟩
  exact ⟨b, o, rfl, fun i hi => (h i hi).ext e⟩⟩
theorem ESD.le {w : World} {v : Value} {l : List Deed} (h : ESD w v l) : l.length ≤ 9223372036854775807 := by obtain ⟨a, c, rfl, h1, h2⟩ := h; exact h1
section
variable {P : Program} {n : Nat} {N : Env → World → Prop} {ρ : Env} {w w0 : World} {all : Array Oper} {rest : List Oper} {d d2 : Nat} {ty ty2 t tl ts el : TypeId} {pos pos2 : String} {after after2 : Array Edge} {g g2 : Option (Nat × Bool)} {x y : Operand} {v : Value} {l : List Deed} {k : Nat}
end
end Go.Hs
namespace Go.Proofs.YtgphoihilheoeaaGreatDoor
open Go.Hs
set_option maxRecDepth 10000
set_option maxHeartbeats 4000000
set_option linter.unusedVariables false
set_option linter.unusedSimpArgs false

theorem flat75 : Flat Tryz.prog 75 [.int .i64 0, str [], .int .i64 0] := ⟨_, Tryz.underlying75, fun _ => by kernel_rfl, fun _ => by kernel_rfl⟩
theorem opv_eqD {ρ : Env} {w : World} {x y : Operand} {t' ty : TypeId} {k n k' n' : Int} {a b : List UInt8} (hx : evalE ρ x = .agg #[.int .i64 k, str a, .int .i64 n]) (hy : evalE ρ y = .agg #[.int .i64 k', str b, .int .i64 n']) :
    OpV Tryz.prog (.binOp .eql 75 x y t') ty ρ w (.bool (decide ((⟨k, a, n⟩ : Deed) = ⟨k', b, n'⟩))) := by
  have u3 := Tryz.underlying3
  have a3 := Tryz.isAgg3
  have z3 := Tryz.sizeOf3
  have u9 := Tryz.underlying9
  have a9 := Tryz.isAgg9
  have z9 := Tryz.sizeOf9
  have hS : Tryz.prog.underlying 75 = some (.struct (Tryz.prog.fieldsOf 75)) := by kernel_rfl
  have hp : Tryz.prog.stoodInHeld 75 = false := by kernel_rfl
  have hg : Tryz.prog.eqGuardType Tryz.prog.depth 75 = false := by kernel_rfl
  have e : ((binOp .eql 75 (.agg #[.int .i64 k, str a, .int .i64 n]) (.agg #[.int .i64 k', str b, .int .i64 n'])).run Tryz.prog w) = .ok (.bool (decide ((⟨k, a, n⟩ : Deed) = ⟨k', b, n'⟩))) w := by
    rw [run_eql_struct, show (10000 : Nat) = 9999 + 1 from rfl, run_equalIn_agg w 9999 75 _ _ hS hp]
    simp only [Program.fieldsOf, Tryz.underlying75]
    go_simp
    by_cases h1 : k = k' <;> by_cases h2 : a = b <;> by_cases h3 : n = n' <;> simp [h1, h2, h3]
  simp [OpV, execOp, hx, hy, run_eqGuard_agg, hg, e]

end Go.Proofs.YtgphoihilheoeaaGreatDoor
namespace Go.Proofs.YtgphoihilheoeaaGreatDoor
open Go.Hs
set_option maxRecDepth 10000
set_option maxHeartbeats 4000000
set_option linter.unusedVariables false
set_option linter.unusedSimpArgs false

open Classical in
theorem l11Made_ok (w : World) (v : Value) (p : List (List Int)) (h : ESl Ints w v p) (hp : Pic p) (k n : Int) (t : List UInt8) (ht : t.length ≤ 1048576) :
    Does Tryz.prog 83 [v, .agg #[.int .i64 k, str t, .int .i64 n]] w (RetOB w XR (og (madeV p ⟨k, t, n⟩)) (madeV p ⟨k, t, n⟩).isSome) := by
  have hle := h.le
  have hp1 := hp.1
  have hp5 := hp.2.1
  have hN : Nod p (0 : Nat) := ⟨hp, by decide, by omega⟩
  obtain ⟨Q, hQ⟩ : ∃ Q, Q = (rdP t).getD [] := ⟨_, rfl⟩
  obtain ⟨B, hB⟩ : ∃ B, B = (rdP t).isSome := ⟨_, rfl⟩
  obtain ⟨M, hM⟩ : ∃ M, M = madeV p ⟨k, t, n⟩ := ⟨_, rfl⟩
  rw [← hM]
  have k0 : ∀ w, Does Tryz.prog 95 [str t] w (RetOB w XR Q B) := fun w => hQ ▸ hB ▸ spec_ReadPicture_ok w t ht
  refine fn_of_W2 Tryz.func83 rfl Tryz.results83 Tryz.ntmps83 rfl ?_
  by_cases e0 : k = 0
  · subst e0
    by_cases e : t = [] ∧ n = 0
    · obtain ⟨rfl, rfl⟩ := e
      have hm : M = pairV p 0 p 0 := hM.trans (by simp [madeV])
      rw [hm]
      have k1 : ∀ (w : World) (v u : Value), ESl Ints w v p → ESl Ints w u p → Does Tryz.prog 96 [v, .int .i64 0, u, .int .i64 0] w (RetOB w XR (og (pairV p 0 p 0)) (pairV p 0 p 0).isSome) := fun w v u h1 h2 => PairOf_ok w v u p p h1 h2 0 0 hN hN
      focus
        refine W_seq ?_; refine W_region rfl ?_; refine Wo_box rfl rfl rfl ?_; rintro b1 w1 hb1 E1 hB1; have hlb1 := hB1.lt; have hs1 := E1.size; refine Wo rfl (opv_assign (v := .slice _ _ _) rfl) ?_
        refine Wo rfl (opv_assign (v := .bool _) rfl) ?_; refine Wo_nil ?_; refine W_seq ?_; refine W_region rfl ?_; refine Wo rfl (opv_fieldAddr Tryz.underlying75 rfl rfl Tryz.sizeOf9 rfl) ?_
        refine Wo (v := .string _) rfl (opv_load Tryz.isAgg9 rfl (hB1.cell rfl)) ?_; refine Wo_call rfl (opc1 (a := .string _) Tryz.call95 rfl) (k0 _) ?_; rintro _ w2 ⟨u1, rfl, E2, hO1⟩; have hs2 := E2.size
        refine Wo rfl (opv_move (v := .tuple _) rfl) ?_; refine Wo rfl (opv_extract (v := u1) rfl rfl) ?_; refine Wo rfl (opv_extract (v := .bool _) rfl rfl) ?_; refine Wo rfl (opv_assign (v := u1) rfl) ?_
        refine Wo rfl (opv_assign (v := .bool _) rfl) ?_; refine Wo_nil ?_; refine W_seq ?_; refine W_block ?_; refine W_seq ?_; refine W_region rfl ?_; refine Wo rfl (opv_fieldAddr Tryz.underlying75 rfl rfl Tryz.sizeOf3 rfl) ?_
        refine Wo (v := .int _ _) rfl (opv_load Tryz.isAgg3 rfl ((hB1.ext E2).cell rfl)) ?_; refine Wo rfl (opv_eql rfl rfl) ?_; refine Wo_split_dec rfl (opv_move (v := .bool _) rfl) (fun h1 => ?_) (fun h1 => ?_)
        refine Wo rfl (opv_fieldAddr Tryz.underlying75 rfl rfl Tryz.sizeOf9 rfl) ?_; refine Wo (v := .string _) rfl (opv_load Tryz.isAgg9 rfl ((hB1.ext E2).cell rfl)) ?_; refine Wo rfl (opv_eql_str rfl rfl) ?_
        refine Wo rfl (opv_pick_t (v := .bool _) rfl rfl) ?_; refine Wo_split_dec rfl (opv_move (v := .bool _) rfl) (fun h2 => ?_) (fun h2 => ?_); refine Wo rfl (opv_fieldAddr Tryz.underlying75 rfl rfl Tryz.sizeOf3 rfl) ?_
        refine Wo (v := .int _ _) rfl (opv_load Tryz.isAgg3 rfl ((hB1.ext E2).cell rfl)) ?_; refine Wo rfl (opv_eql rfl rfl) ?_; refine Wo rfl (opv_pick_t (v := .bool _) rfl rfl) ?_; refine Wo rfl (opv_assign (v := .bool _) rfl) ?_
        refine Wo_nil ?_; refine W_cond_dec rfl (fun h3 => ?_) (fun h3 => ?_); refine W_seq ?_; refine W_region rfl ?_; refine Wo rfl (opv_move (v := v) rfl) ?_; refine Wo rfl (opv_move (v := v) rfl) ?_
        refine Wo_call rfl (opc4 (a := v) (b := .int _ _) (c := v) (d := .int _ _) Tryz.call96 rfl rfl rfl rfl) (k1 _ _ _ ((Mono.mono (E1.trans E2) h)) ((Mono.mono (E1.trans E2) h))) ?_; rintro _ w3 ⟨u2, rfl, E3, hO2⟩; have hs3 := E3.size
        refine Wo rfl (opv_extract (v := u2) rfl rfl) ?_; refine Wo rfl (opv_extract (v := .bool _) rfl rfl) ?_; refine Wo rfl (opv_assign (v := u2) rfl) ?_; refine Wo rfl (opv_assign (v := .bool _) rfl) ?_; refine Wo_nil ?_
        refine W_ret ?_; refine at_ret (v := .tuple #[u2, .bool _]) rfl ?_; exact ⟨_, rfl, ((E1.trans E2).trans E3), hO2.toB.o.mono (by omega)⟩; contradiction; contradiction; contradiction
    · have hm : M = none := hM.trans (by simp only [madeV]; rw [if_neg (fun h => e ⟨h.2.1, h.2.2⟩), if_neg (fun h => absurd h.1 (by decide)), if_neg (fun h => absurd h.1 (by decide)), if_neg (fun h => absurd h.1 (by decide))])
      rw [hm, show og none = [] from rfl, show (none : Option (List (List Int))).isSome = false from rfl]
      by_cases et : t = []
      · have en : ¬ n = 0 := fun h => e ⟨et, h⟩
        subst et
        focus
          refine W_seq ?_; refine W_region rfl ?_; refine Wo_box rfl rfl rfl ?_; rintro b1 w1 hb1 E1 hB1; have hlb1 := hB1.lt; have hs1 := E1.size; refine Wo rfl (opv_assign (v := .slice _ _ _) rfl) ?_
          refine Wo rfl (opv_assign (v := .bool _) rfl) ?_; refine Wo_nil ?_; refine W_seq ?_; refine W_region rfl ?_; refine Wo rfl (opv_fieldAddr Tryz.underlying75 rfl rfl Tryz.sizeOf9 rfl) ?_
          refine Wo (v := .string _) rfl (opv_load Tryz.isAgg9 rfl (hB1.cell rfl)) ?_; refine Wo_call rfl (opc1 (a := .string _) Tryz.call95 rfl) (k0 _) ?_; rintro _ w2 ⟨u1, rfl, E2, hO1⟩; have hs2 := E2.size
          refine Wo rfl (opv_move (v := .tuple _) rfl) ?_; refine Wo rfl (opv_extract (v := u1) rfl rfl) ?_; refine Wo rfl (opv_extract (v := .bool _) rfl rfl) ?_; refine Wo rfl (opv_assign (v := u1) rfl) ?_
          refine Wo rfl (opv_assign (v := .bool _) rfl) ?_; refine Wo_nil ?_; refine W_seq ?_; refine W_block ?_; refine W_seq ?_; refine W_region rfl ?_; refine Wo rfl (opv_fieldAddr Tryz.underlying75 rfl rfl Tryz.sizeOf3 rfl) ?_
          refine Wo (v := .int _ _) rfl (opv_load Tryz.isAgg3 rfl ((hB1.ext E2).cell rfl)) ?_; refine Wo rfl (opv_eql rfl rfl) ?_; refine Wo_split_dec rfl (opv_move (v := .bool _) rfl) (fun h1 => ?_) (fun h1 => ?_)
          refine Wo rfl (opv_fieldAddr Tryz.underlying75 rfl rfl Tryz.sizeOf9 rfl) ?_; refine Wo (v := .string _) rfl (opv_load Tryz.isAgg9 rfl ((hB1.ext E2).cell rfl)) ?_; refine Wo rfl (opv_eql_str rfl rfl) ?_
          refine Wo rfl (opv_pick_t (v := .bool _) rfl rfl) ?_; refine Wo_split_dec rfl (opv_move (v := .bool _) rfl) (fun h2 => ?_) (fun h2 => ?_); refine Wo rfl (opv_fieldAddr Tryz.underlying75 rfl rfl Tryz.sizeOf3 rfl) ?_
          refine Wo (v := .int _ _) rfl (opv_load Tryz.isAgg3 rfl ((hB1.ext E2).cell rfl)) ?_; refine Wo rfl (opv_eql rfl rfl) ?_; refine Wo rfl (opv_pick_t (v := .bool _) rfl rfl) ?_; refine Wo rfl (opv_assign (v := .bool _) rfl) ?_
          refine Wo_nil ?_; refine W_cond_dec rfl (fun h3 => ?_) (fun h3 => ?_); contradiction; refine W_seq ?_; refine W_region rfl ?_; refine Wo rfl (opv_fieldAddr Tryz.underlying75 rfl rfl Tryz.sizeOf3 rfl) ?_
          refine Wo (v := .int _ _) rfl (opv_load Tryz.isAgg3 rfl ((hB1.ext E2).cell rfl)) ?_; refine Wo rfl (opv_eql rfl rfl) ?_; refine Wo_split_dec rfl (opv_move (v := .bool _) rfl) (fun h4 => ?_) (fun h4 => ?_); contradiction
          refine Wo_skip rfl ?_; refine Wo rfl (opv_pick_f (v := .bool _) rfl rfl) ?_; refine Wo rfl (opv_move (v := .bool _) rfl) ?_; refine Wo_skip rfl ?_; refine Wo_skip rfl ?_; refine Wo_skip rfl ?_
          refine Wo rfl (opv_pick_f (v := .bool _) rfl rfl) ?_; refine Wo rfl (opv_assign (v := .bool _) rfl) ?_; refine Wo_nil ?_; refine W_cond_false rfl ?_; refine W_seq ?_; refine W_region rfl ?_
          refine Wo rfl (opv_fieldAddr Tryz.underlying75 rfl rfl Tryz.sizeOf3 rfl) ?_; refine Wo (v := .int _ _) rfl (opv_load Tryz.isAgg3 rfl ((hB1.ext E2).cell rfl)) ?_; refine Wo rfl (opv_eql rfl rfl) ?_
          refine Wo_split_dec rfl (opv_move (v := .bool _) rfl) (fun h5 => ?_) (fun h5 => ?_); contradiction; refine Wo_skip rfl ?_; refine Wo rfl (opv_pick_f (v := .bool _) rfl rfl) ?_; refine Wo rfl (opv_move (v := .bool _) rfl) ?_
          refine Wo_skip rfl ?_; refine Wo_skip rfl ?_; refine Wo_skip rfl ?_; refine Wo rfl (opv_pick_f (v := .bool _) rfl rfl) ?_; refine Wo rfl (opv_assign (v := .bool _) rfl) ?_; refine Wo_nil ?_; refine W_cond_false rfl ?_
          refine W_seq ?_; refine W_draw mixed (by kernel_rfl) rfl ?_; refine Wq_o rfl (fun _ _ => opv_fieldAddr Tryz.underlying75 rfl rfl Tryz.sizeOf3 rfl) ?_
          refine Wq_o (v := .int _ _) rfl (fun w' hw' => opv_load Tryz.isAgg3 rfl (((hB1.ext E2).ext hw').cell rfl)) ?_; refine Wq_o rfl (fun _ _ => opv_eql rfl rfl) ?_
          refine Wq_split_dec rfl (fun _ _ => opv_move (v := .bool _) rfl) (fun h6 => ?_) (fun h6 => ?_); contradiction; refine Wq_skip rfl ?_; refine Wq_skip rfl ?_; refine Wq_skip rfl ?_
          refine Wq_o rfl (fun _ _ => opv_pick_f (v := .bool _) rfl rfl) ?_; refine Wq_o rfl (fun _ _ => opv_move (v := .bool _) rfl) ?_; refine Wq_skip rfl ?_; refine Wq_skip rfl ?_; refine Wq_skip rfl ?_; refine Wq_skip rfl ?_
          refine Wq_skip rfl ?_; refine Wq_skip rfl ?_; refine Wq_o rfl (fun _ _ => opv_pick_f (v := .bool _) rfl rfl) ?_; refine Wq_o rfl (fun _ _ => opv_move (v := .bool _) rfl) ?_; refine Wq_skip rfl ?_; refine Wq_skip rfl ?_
          refine Wq_skip rfl ?_; refine Wq_skip rfl ?_; refine Wq_skip rfl ?_; refine Wq_skip rfl ?_; refine Wq_skip rfl ?_; refine Wq_skip rfl ?_; refine Wq_o rfl (fun _ _ => opv_pick_f (v := .bool _) rfl rfl) ?_
          refine Wq_o rfl (fun _ _ => opv_assign (v := .bool _) rfl) ?_; refine Wq_nil (fun w3 E3 => ?_); have hs3 := E3.size; refine W_cond_false rfl ?_; refine W_skip ?_; refine W_seq ?_; refine W_region rfl ?_
          refine Wo_lit0 (XSl 3 XInt) rfl el22 Tryz.sizeOf58 ?_; rintro b2 w4 hb2 b2lt E4 hO2; have hs4 := E4.size; refine Wo rfl (opv_assign (v := .slice _ _ _) rfl) ?_; refine Wo rfl (opv_assign (v := .bool _) rfl) ?_; refine Wo_nil ?_
          refine W_ret ?_; refine at_ret (v := .tuple #[.slice _ _ _, .bool _]) rfl ?_; exact ⟨_, rfl, (((E1.trans E2).trans E3).trans E4), hO2.toB.o.mono (by omega)⟩; contradiction; contradiction
      · focus
          refine W_seq ?_; refine W_region rfl ?_; refine Wo_box rfl rfl rfl ?_; rintro b1 w1 hb1 E1 hB1; have hlb1 := hB1.lt; have hs1 := E1.size; refine Wo rfl (opv_assign (v := .slice _ _ _) rfl) ?_
          refine Wo rfl (opv_assign (v := .bool _) rfl) ?_; refine Wo_nil ?_; refine W_seq ?_; refine W_region rfl ?_; refine Wo rfl (opv_fieldAddr Tryz.underlying75 rfl rfl Tryz.sizeOf9 rfl) ?_
          refine Wo (v := .string _) rfl (opv_load Tryz.isAgg9 rfl (hB1.cell rfl)) ?_; refine Wo_call rfl (opc1 (a := .string _) Tryz.call95 rfl) (k0 _) ?_; rintro _ w2 ⟨u1, rfl, E2, hO1⟩; have hs2 := E2.size
          refine Wo rfl (opv_move (v := .tuple _) rfl) ?_; refine Wo rfl (opv_extract (v := u1) rfl rfl) ?_; refine Wo rfl (opv_extract (v := .bool _) rfl rfl) ?_; refine Wo rfl (opv_assign (v := u1) rfl) ?_
          refine Wo rfl (opv_assign (v := .bool _) rfl) ?_; refine Wo_nil ?_; refine W_seq ?_; refine W_block ?_; refine W_seq ?_; refine W_region rfl ?_; refine Wo rfl (opv_fieldAddr Tryz.underlying75 rfl rfl Tryz.sizeOf3 rfl) ?_
          refine Wo (v := .int _ _) rfl (opv_load Tryz.isAgg3 rfl ((hB1.ext E2).cell rfl)) ?_; refine Wo rfl (opv_eql rfl rfl) ?_; refine Wo_split_dec rfl (opv_move (v := .bool _) rfl) (fun h1 => ?_) (fun h1 => ?_)
          refine Wo rfl (opv_fieldAddr Tryz.underlying75 rfl rfl Tryz.sizeOf9 rfl) ?_; refine Wo (v := .string _) rfl (opv_load Tryz.isAgg9 rfl ((hB1.ext E2).cell rfl)) ?_; refine Wo rfl (opv_eql_str rfl rfl) ?_
          refine Wo rfl (opv_pick_t (v := .bool _) rfl rfl) ?_; refine Wo_split_dec rfl (opv_move (v := .bool _) rfl) (fun h2 => ?_) (fun h2 => ?_); contradiction; refine Wo_skip rfl ?_; refine Wo_skip rfl ?_; refine Wo_skip rfl ?_
          refine Wo rfl (opv_pick_f (v := .bool _) rfl rfl) ?_; refine Wo rfl (opv_assign (v := .bool _) rfl) ?_; refine Wo_nil ?_; refine W_cond_false rfl ?_; refine W_seq ?_; refine W_region rfl ?_
          refine Wo rfl (opv_fieldAddr Tryz.underlying75 rfl rfl Tryz.sizeOf3 rfl) ?_; refine Wo (v := .int _ _) rfl (opv_load Tryz.isAgg3 rfl ((hB1.ext E2).cell rfl)) ?_; refine Wo rfl (opv_eql rfl rfl) ?_
          refine Wo_split_dec rfl (opv_move (v := .bool _) rfl) (fun h3 => ?_) (fun h3 => ?_); contradiction; refine Wo_skip rfl ?_; refine Wo rfl (opv_pick_f (v := .bool _) rfl rfl) ?_; refine Wo rfl (opv_move (v := .bool _) rfl) ?_
          refine Wo_skip rfl ?_; refine Wo_skip rfl ?_; refine Wo_skip rfl ?_; refine Wo rfl (opv_pick_f (v := .bool _) rfl rfl) ?_; refine Wo rfl (opv_assign (v := .bool _) rfl) ?_; refine Wo_nil ?_; refine W_cond_false rfl ?_
          refine W_seq ?_; refine W_region rfl ?_; refine Wo rfl (opv_fieldAddr Tryz.underlying75 rfl rfl Tryz.sizeOf3 rfl) ?_; refine Wo (v := .int _ _) rfl (opv_load Tryz.isAgg3 rfl ((hB1.ext E2).cell rfl)) ?_
          refine Wo rfl (opv_eql rfl rfl) ?_; refine Wo_split_dec rfl (opv_move (v := .bool _) rfl) (fun h4 => ?_) (fun h4 => ?_); contradiction; refine Wo_skip rfl ?_; refine Wo rfl (opv_pick_f (v := .bool _) rfl rfl) ?_
          refine Wo rfl (opv_move (v := .bool _) rfl) ?_; refine Wo_skip rfl ?_; refine Wo_skip rfl ?_; refine Wo_skip rfl ?_; refine Wo rfl (opv_pick_f (v := .bool _) rfl rfl) ?_; refine Wo rfl (opv_assign (v := .bool _) rfl) ?_
          refine Wo_nil ?_; refine W_cond_false rfl ?_; refine W_seq ?_; refine W_draw mixed (by kernel_rfl) rfl ?_; refine Wq_o rfl (fun _ _ => opv_fieldAddr Tryz.underlying75 rfl rfl Tryz.sizeOf3 rfl) ?_
          refine Wq_o (v := .int _ _) rfl (fun w' hw' => opv_load Tryz.isAgg3 rfl (((hB1.ext E2).ext hw').cell rfl)) ?_; refine Wq_o rfl (fun _ _ => opv_eql rfl rfl) ?_
          refine Wq_split_dec rfl (fun _ _ => opv_move (v := .bool _) rfl) (fun h5 => ?_) (fun h5 => ?_); contradiction; refine Wq_skip rfl ?_; refine Wq_skip rfl ?_; refine Wq_skip rfl ?_
          refine Wq_o rfl (fun _ _ => opv_pick_f (v := .bool _) rfl rfl) ?_; refine Wq_o rfl (fun _ _ => opv_move (v := .bool _) rfl) ?_; refine Wq_skip rfl ?_; refine Wq_skip rfl ?_; refine Wq_skip rfl ?_; refine Wq_skip rfl ?_
          refine Wq_skip rfl ?_; refine Wq_skip rfl ?_; refine Wq_o rfl (fun _ _ => opv_pick_f (v := .bool _) rfl rfl) ?_; refine Wq_o rfl (fun _ _ => opv_move (v := .bool _) rfl) ?_; refine Wq_skip rfl ?_; refine Wq_skip rfl ?_
          refine Wq_skip rfl ?_; refine Wq_skip rfl ?_; refine Wq_skip rfl ?_; refine Wq_skip rfl ?_; refine Wq_skip rfl ?_; refine Wq_skip rfl ?_; refine Wq_o rfl (fun _ _ => opv_pick_f (v := .bool _) rfl rfl) ?_
          refine Wq_o rfl (fun _ _ => opv_assign (v := .bool _) rfl) ?_; refine Wq_nil (fun w3 E3 => ?_); have hs3 := E3.size; refine W_cond_false rfl ?_; refine W_skip ?_; refine W_seq ?_; refine W_region rfl ?_
          refine Wo_lit0 (XSl 3 XInt) rfl el22 Tryz.sizeOf58 ?_; rintro b2 w4 hb2 b2lt E4 hO2; have hs4 := E4.size; refine Wo rfl (opv_assign (v := .slice _ _ _) rfl) ?_; refine Wo rfl (opv_assign (v := .bool _) rfl) ?_; refine Wo_nil ?_
          refine W_ret ?_; refine at_ret (v := .tuple #[.slice _ _ _, .bool _]) rfl ?_; exact ⟨_, rfl, (((E1.trans E2).trans E3).trans E4), hO2.toB.o.mono (by omega)⟩; contradiction
  by_cases e1 : k = 1
  · subst e1
    by_cases en : n = 0
    · subst en
      have hm : M = (rdP t).bind fun q => (pairV q 0 q 0).bind fun s => togV p 0 s 0 := hM.trans (by simp only [madeV]; rw [if_neg (fun h => absurd h.1 (by decide)), if_pos (by simp)])
      cases hr : rdP t with
      | none =>
        rw [hr] at hm hB hQ
        rw [hm, show og (none.bind fun q => (pairV q 0 q 0).bind fun s => togV p 0 s 0) = [] from rfl, show (none.bind fun q => (pairV q 0 q 0).bind fun s => togV p 0 s 0).isSome = false from rfl]
        rw [hB, show (none : Option (List (List Int))).isSome = false from rfl] at k0
        focus
          refine W_seq ?_; refine W_region rfl ?_; refine Wo_box rfl rfl rfl ?_; rintro b1 w1 hb1 E1 hB1; have hlb1 := hB1.lt; have hs1 := E1.size; refine Wo rfl (opv_assign (v := .slice _ _ _) rfl) ?_
          refine Wo rfl (opv_assign (v := .bool _) rfl) ?_; refine Wo_nil ?_; refine W_seq ?_; refine W_region rfl ?_; refine Wo rfl (opv_fieldAddr Tryz.underlying75 rfl rfl Tryz.sizeOf9 rfl) ?_
          refine Wo (v := .string _) rfl (opv_load Tryz.isAgg9 rfl (hB1.cell rfl)) ?_; refine Wo_call rfl (opc1 (a := .string _) Tryz.call95 rfl) (k0 _) ?_; rintro _ w2 ⟨u1, rfl, E2, hO1⟩; have hs2 := E2.size
          refine Wo rfl (opv_move (v := .tuple _) rfl) ?_; refine Wo rfl (opv_extract (v := u1) rfl rfl) ?_; refine Wo rfl (opv_extract (v := .bool _) rfl rfl) ?_; refine Wo rfl (opv_assign (v := u1) rfl) ?_
          refine Wo rfl (opv_assign (v := .bool _) rfl) ?_; refine Wo_nil ?_; refine W_seq ?_; refine W_block ?_; refine W_seq ?_; refine W_region rfl ?_; refine Wo rfl (opv_fieldAddr Tryz.underlying75 rfl rfl Tryz.sizeOf3 rfl) ?_
          refine Wo (v := .int _ _) rfl (opv_load Tryz.isAgg3 rfl ((hB1.ext E2).cell rfl)) ?_; refine Wo rfl (opv_eql rfl rfl) ?_; refine Wo_split_dec rfl (opv_move (v := .bool _) rfl) (fun h1 => ?_) (fun h1 => ?_); contradiction
          refine Wo_skip rfl ?_; refine Wo_skip rfl ?_; refine Wo_skip rfl ?_; refine Wo rfl (opv_pick_f (v := .bool _) rfl rfl) ?_; refine Wo rfl (opv_move (v := .bool _) rfl) ?_; refine Wo_skip rfl ?_; refine Wo_skip rfl ?_
          refine Wo_skip rfl ?_; refine Wo rfl (opv_pick_f (v := .bool _) rfl rfl) ?_; refine Wo rfl (opv_assign (v := .bool _) rfl) ?_; refine Wo_nil ?_; refine W_cond_false rfl ?_; refine W_seq ?_; refine W_region rfl ?_
          refine Wo rfl (opv_fieldAddr Tryz.underlying75 rfl rfl Tryz.sizeOf3 rfl) ?_; refine Wo (v := .int _ _) rfl (opv_load Tryz.isAgg3 rfl ((hB1.ext E2).cell rfl)) ?_; refine Wo rfl (opv_eql rfl rfl) ?_
          refine Wo_split_dec rfl (opv_move (v := .bool _) rfl) (fun h2 => ?_) (fun h2 => ?_); refine Wo rfl (opv_move (v := .bool _) rfl) ?_; refine Wo rfl (opv_pick_t (v := .bool _) rfl rfl) ?_
          refine Wo rfl (opv_move (v := .bool _) rfl) ?_; refine Wo_skip rfl ?_; refine Wo_skip rfl ?_; refine Wo_skip rfl ?_; refine Wo rfl (opv_pick_f (v := .bool _) rfl rfl) ?_; refine Wo rfl (opv_assign (v := .bool _) rfl) ?_
          refine Wo_nil ?_; refine W_cond_false rfl ?_; refine W_seq ?_; refine W_region rfl ?_; refine Wo rfl (opv_fieldAddr Tryz.underlying75 rfl rfl Tryz.sizeOf3 rfl) ?_
          refine Wo (v := .int _ _) rfl (opv_load Tryz.isAgg3 rfl ((hB1.ext E2).cell rfl)) ?_; refine Wo rfl (opv_eql rfl rfl) ?_; refine Wo_split_dec rfl (opv_move (v := .bool _) rfl) (fun h3 => ?_) (fun h3 => ?_); contradiction
          refine Wo_skip rfl ?_; refine Wo rfl (opv_pick_f (v := .bool _) rfl rfl) ?_; refine Wo rfl (opv_move (v := .bool _) rfl) ?_; refine Wo_skip rfl ?_; refine Wo_skip rfl ?_; refine Wo_skip rfl ?_
          refine Wo rfl (opv_pick_f (v := .bool _) rfl rfl) ?_; refine Wo rfl (opv_assign (v := .bool _) rfl) ?_; refine Wo_nil ?_; refine W_cond_false rfl ?_; refine W_seq ?_; refine W_draw mixed (by kernel_rfl) rfl ?_
          refine Wq_o rfl (fun _ _ => opv_fieldAddr Tryz.underlying75 rfl rfl Tryz.sizeOf3 rfl) ?_; refine Wq_o (v := .int _ _) rfl (fun w' hw' => opv_load Tryz.isAgg3 rfl (((hB1.ext E2).ext hw').cell rfl)) ?_
          refine Wq_o rfl (fun _ _ => opv_eql rfl rfl) ?_; refine Wq_split_dec rfl (fun _ _ => opv_move (v := .bool _) rfl) (fun h4 => ?_) (fun h4 => ?_); contradiction; refine Wq_skip rfl ?_; refine Wq_skip rfl ?_; refine Wq_skip rfl ?_
          refine Wq_o rfl (fun _ _ => opv_pick_f (v := .bool _) rfl rfl) ?_; refine Wq_o rfl (fun _ _ => opv_move (v := .bool _) rfl) ?_; refine Wq_skip rfl ?_; refine Wq_skip rfl ?_; refine Wq_skip rfl ?_; refine Wq_skip rfl ?_
          refine Wq_skip rfl ?_; refine Wq_skip rfl ?_; refine Wq_o rfl (fun _ _ => opv_pick_f (v := .bool _) rfl rfl) ?_; refine Wq_o rfl (fun _ _ => opv_move (v := .bool _) rfl) ?_; refine Wq_skip rfl ?_; refine Wq_skip rfl ?_
          refine Wq_skip rfl ?_; refine Wq_skip rfl ?_; refine Wq_skip rfl ?_; refine Wq_skip rfl ?_; refine Wq_skip rfl ?_; refine Wq_skip rfl ?_; refine Wq_o rfl (fun _ _ => opv_pick_f (v := .bool _) rfl rfl) ?_
          refine Wq_o rfl (fun _ _ => opv_assign (v := .bool _) rfl) ?_; refine Wq_nil (fun w3 E3 => ?_); have hs3 := E3.size; refine W_cond_false rfl ?_; refine W_skip ?_; refine W_seq ?_; refine W_region rfl ?_
          refine Wo_lit0 (XSl 3 XInt) rfl el22 Tryz.sizeOf58 ?_; rintro b2 w4 hb2 b2lt E4 hO2; have hs4 := E4.size; refine Wo rfl (opv_assign (v := .slice _ _ _) rfl) ?_; refine Wo rfl (opv_assign (v := .bool _) rfl) ?_; refine Wo_nil ?_
          refine W_ret ?_; refine at_ret (v := .tuple #[.slice _ _ _, .bool _]) rfl ?_; exact ⟨_, rfl, (((E1.trans E2).trans E3).trans E4), hO2.toB.o.mono (by omega)⟩; contradiction
      | some q =>
        rw [hr] at hm hB hQ
        rw [hB, hQ, show (some q).isSome = true from rfl, show (some q).getD [] = q from rfl] at k0
        have hq := (rdP_some hr).1
        have hNq : Nod q (0 : Nat) := ⟨hq, by decide, by have := hq.1; omega⟩
        have k1 : ∀ (w : World) (v u : Value), ESl Ints w v q → ESl Ints w u q → Does Tryz.prog 96 [v, .int .i64 0, u, .int .i64 0] w (RetOB w XR (og (pairV q 0 q 0)) (pairV q 0 q 0).isSome) := fun w v u h1 h2 => PairOf_ok w v u q q h1 h2 0 0 hNq hNq
        rw [hm, show ((some q).bind fun q => (pairV q 0 q 0).bind fun s => togV p 0 s 0) = (pairV q 0 q 0).bind fun s => togV p 0 s 0 from rfl]
        cases hs : pairV q 0 q 0 with
        | none =>
          rw [hs] at k1
          rw [show (none.bind fun s => togV p 0 s 0) = none from rfl]
          rw [show og none = [] from rfl, show (none : Option (List (List Int))).isSome = false from rfl] at k1 ⊢
          focus
            refine W_seq ?_; refine W_region rfl ?_; refine Wo_box rfl rfl rfl ?_; rintro b1 w1 hb1 E1 hB1; have hlb1 := hB1.lt; have hs1 := E1.size; refine Wo rfl (opv_assign (v := .slice _ _ _) rfl) ?_
            refine Wo rfl (opv_assign (v := .bool _) rfl) ?_; refine Wo_nil ?_; refine W_seq ?_; refine W_region rfl ?_; refine Wo rfl (opv_fieldAddr Tryz.underlying75 rfl rfl Tryz.sizeOf9 rfl) ?_
            refine Wo (v := .string _) rfl (opv_load Tryz.isAgg9 rfl (hB1.cell rfl)) ?_; refine Wo_call rfl (opc1 (a := .string _) Tryz.call95 rfl) (k0 _) ?_; rintro _ w2 ⟨u1, rfl, E2, hO1⟩; have hs2 := E2.size
            refine Wo rfl (opv_move (v := .tuple _) rfl) ?_; refine Wo rfl (opv_extract (v := u1) rfl rfl) ?_; refine Wo rfl (opv_extract (v := .bool _) rfl rfl) ?_; refine Wo rfl (opv_assign (v := u1) rfl) ?_
            refine Wo rfl (opv_assign (v := .bool _) rfl) ?_; refine Wo_nil ?_; refine W_seq ?_; refine W_block ?_; refine W_seq ?_; refine W_region rfl ?_; refine Wo rfl (opv_fieldAddr Tryz.underlying75 rfl rfl Tryz.sizeOf3 rfl) ?_
            refine Wo (v := .int _ _) rfl (opv_load Tryz.isAgg3 rfl ((hB1.ext E2).cell rfl)) ?_; refine Wo rfl (opv_eql rfl rfl) ?_; refine Wo_split_dec rfl (opv_move (v := .bool _) rfl) (fun h1 => ?_) (fun h1 => ?_); contradiction
            refine Wo_skip rfl ?_; refine Wo_skip rfl ?_; refine Wo_skip rfl ?_; refine Wo rfl (opv_pick_f (v := .bool _) rfl rfl) ?_; refine Wo rfl (opv_move (v := .bool _) rfl) ?_; refine Wo_skip rfl ?_; refine Wo_skip rfl ?_
            refine Wo_skip rfl ?_; refine Wo rfl (opv_pick_f (v := .bool _) rfl rfl) ?_; refine Wo rfl (opv_assign (v := .bool _) rfl) ?_; refine Wo_nil ?_; refine W_cond_false rfl ?_; refine W_seq ?_; refine W_region rfl ?_
            refine Wo rfl (opv_fieldAddr Tryz.underlying75 rfl rfl Tryz.sizeOf3 rfl) ?_; refine Wo (v := .int _ _) rfl (opv_load Tryz.isAgg3 rfl ((hB1.ext E2).cell rfl)) ?_; refine Wo rfl (opv_eql rfl rfl) ?_
            refine Wo_split_dec rfl (opv_move (v := .bool _) rfl) (fun h2 => ?_) (fun h2 => ?_); refine Wo rfl (opv_move (v := .bool _) rfl) ?_; refine Wo rfl (opv_pick_t (v := .bool _) rfl rfl) ?_
            refine Wo rfl (opv_move (v := .bool _) rfl) ?_; refine Wo rfl (opv_fieldAddr Tryz.underlying75 rfl rfl Tryz.sizeOf3 rfl) ?_; refine Wo (v := .int _ _) rfl (opv_load Tryz.isAgg3 rfl ((hB1.ext E2).cell rfl)) ?_
            refine Wo rfl (opv_eql rfl rfl) ?_; refine Wo rfl (opv_pick_t (v := .bool _) rfl rfl) ?_; refine Wo rfl (opv_assign (v := .bool _) rfl) ?_; refine Wo_nil ?_; refine W_cond_dec rfl (fun h3 => ?_) (fun h3 => ?_); refine W_seq ?_
            refine W_region rfl ?_; refine Wo rfl (opv_move (v := u1) rfl) ?_; refine Wo rfl (opv_move (v := u1) rfl) ?_
            refine Wo_call rfl (opc4 (a := u1) (b := .int _ _) (c := u1) (d := .int _ _) Tryz.call96 rfl rfl rfl rfl) (k1 _ _ _ ((Owned.read hO1)) ((Owned.read hO1))) ?_; rintro _ w3 ⟨u2, rfl, E3, hO2⟩; have hs3 := E3.size
            refine Wo rfl (opv_move (v := .tuple _) rfl) ?_; refine Wo rfl (opv_extract (v := u2) rfl rfl) ?_; refine Wo rfl (opv_extract (v := .bool _) rfl rfl) ?_; refine Wo rfl (opv_assign (v := u2) rfl) ?_
            refine Wo rfl (opv_assign (v := .bool _) rfl) ?_; refine Wo_nil ?_; refine W_seq ?_; refine W_seq ?_; refine W_region rfl ?_; refine Wo rfl (opv_move (v := .bool _) rfl) ?_; refine Wo rfl (opv_not rfl) ?_; refine Wo_nil ?_
            refine W_cond rfl (fun h4 => ?_) (fun h4 => ?_); refine W_seq ?_; refine W_region rfl ?_; refine Wo_lit0 (XSl 3 XInt) rfl el22 Tryz.sizeOf58 ?_; rintro b2 w4 hb2 b2lt E4 hO3; have hs4 := E4.size
            refine Wo rfl (opv_assign (v := .slice _ _ _) rfl) ?_; refine Wo rfl (opv_assign (v := .bool _) rfl) ?_; refine Wo_nil ?_; refine W_ret ?_; refine at_ret (v := .tuple #[.slice _ _ _, .bool _]) rfl ?_
            exact ⟨_, rfl, (((E1.trans E2).trans E3).trans E4), hO3.toB.o.mono (by omega)⟩; contradiction; contradiction; contradiction
        | some s =>
          rw [hs] at k1
          rw [show ((some s).bind fun s => togV p 0 s 0) = togV p 0 s 0 from rfl]
          rw [show og (some s) = s from rfl, show (some s).isSome = true from rfl] at k1
          have hsp := (pairV_some hq hq hs).1
          have hNs : Nod s (0 : Nat) := ⟨hsp, by decide, by have := hsp.1; omega⟩
          have k2 : ∀ (w : World) (v u : Value), ESl Ints w v p → ESl Ints w u s → Does Tryz.prog 97 [v, .int .i64 0, u, .int .i64 0] w (RetOB w XR (og (togV p 0 s 0)) (togV p 0 s 0).isSome) := fun w v u h1 h2 => TogetherOf_ok w v u p s h1 h2 0 0 hN hNs
          focus
            refine W_seq ?_; refine W_region rfl ?_; refine Wo_box rfl rfl rfl ?_; rintro b1 w1 hb1 E1 hB1; have hlb1 := hB1.lt; have hs1 := E1.size; refine Wo rfl (opv_assign (v := .slice _ _ _) rfl) ?_
            refine Wo rfl (opv_assign (v := .bool _) rfl) ?_; refine Wo_nil ?_; refine W_seq ?_; refine W_region rfl ?_; refine Wo rfl (opv_fieldAddr Tryz.underlying75 rfl rfl Tryz.sizeOf9 rfl) ?_
            refine Wo (v := .string _) rfl (opv_load Tryz.isAgg9 rfl (hB1.cell rfl)) ?_; refine Wo_call rfl (opc1 (a := .string _) Tryz.call95 rfl) (k0 _) ?_; rintro _ w2 ⟨u1, rfl, E2, hO1⟩; have hs2 := E2.size
            refine Wo rfl (opv_move (v := .tuple _) rfl) ?_; refine Wo rfl (opv_extract (v := u1) rfl rfl) ?_; refine Wo rfl (opv_extract (v := .bool _) rfl rfl) ?_; refine Wo rfl (opv_assign (v := u1) rfl) ?_
            refine Wo rfl (opv_assign (v := .bool _) rfl) ?_; refine Wo_nil ?_; refine W_seq ?_; refine W_block ?_; refine W_seq ?_; refine W_region rfl ?_; refine Wo rfl (opv_fieldAddr Tryz.underlying75 rfl rfl Tryz.sizeOf3 rfl) ?_
            refine Wo (v := .int _ _) rfl (opv_load Tryz.isAgg3 rfl ((hB1.ext E2).cell rfl)) ?_; refine Wo rfl (opv_eql rfl rfl) ?_; refine Wo_split_dec rfl (opv_move (v := .bool _) rfl) (fun h1 => ?_) (fun h1 => ?_); contradiction
            refine Wo_skip rfl ?_; refine Wo_skip rfl ?_; refine Wo_skip rfl ?_; refine Wo rfl (opv_pick_f (v := .bool _) rfl rfl) ?_; refine Wo rfl (opv_move (v := .bool _) rfl) ?_; refine Wo_skip rfl ?_; refine Wo_skip rfl ?_
            refine Wo_skip rfl ?_; refine Wo rfl (opv_pick_f (v := .bool _) rfl rfl) ?_; refine Wo rfl (opv_assign (v := .bool _) rfl) ?_; refine Wo_nil ?_; refine W_cond_false rfl ?_; refine W_seq ?_; refine W_region rfl ?_
            refine Wo rfl (opv_fieldAddr Tryz.underlying75 rfl rfl Tryz.sizeOf3 rfl) ?_; refine Wo (v := .int _ _) rfl (opv_load Tryz.isAgg3 rfl ((hB1.ext E2).cell rfl)) ?_; refine Wo rfl (opv_eql rfl rfl) ?_
            refine Wo_split_dec rfl (opv_move (v := .bool _) rfl) (fun h2 => ?_) (fun h2 => ?_); refine Wo rfl (opv_move (v := .bool _) rfl) ?_; refine Wo rfl (opv_pick_t (v := .bool _) rfl rfl) ?_
            refine Wo rfl (opv_move (v := .bool _) rfl) ?_; refine Wo rfl (opv_fieldAddr Tryz.underlying75 rfl rfl Tryz.sizeOf3 rfl) ?_; refine Wo (v := .int _ _) rfl (opv_load Tryz.isAgg3 rfl ((hB1.ext E2).cell rfl)) ?_
            refine Wo rfl (opv_eql rfl rfl) ?_; refine Wo rfl (opv_pick_t (v := .bool _) rfl rfl) ?_; refine Wo rfl (opv_assign (v := .bool _) rfl) ?_; refine Wo_nil ?_; refine W_cond_dec rfl (fun h3 => ?_) (fun h3 => ?_); refine W_seq ?_
            refine W_region rfl ?_; refine Wo rfl (opv_move (v := u1) rfl) ?_; refine Wo rfl (opv_move (v := u1) rfl) ?_
            refine Wo_call rfl (opc4 (a := u1) (b := .int _ _) (c := u1) (d := .int _ _) Tryz.call96 rfl rfl rfl rfl) (k1 _ _ _ ((Owned.read hO1)) ((Owned.read hO1))) ?_; rintro _ w3 ⟨u2, rfl, E3, hO2⟩; have hs3 := E3.size
            refine Wo rfl (opv_move (v := .tuple _) rfl) ?_; refine Wo rfl (opv_extract (v := u2) rfl rfl) ?_; refine Wo rfl (opv_extract (v := .bool _) rfl rfl) ?_; refine Wo rfl (opv_assign (v := u2) rfl) ?_
            refine Wo rfl (opv_assign (v := .bool _) rfl) ?_; refine Wo_nil ?_; refine W_seq ?_; refine W_seq ?_; refine W_region rfl ?_; refine Wo rfl (opv_move (v := .bool _) rfl) ?_; refine Wo rfl (opv_not rfl) ?_; refine Wo_nil ?_
            refine W_cond rfl (fun h4 => ?_) (fun h4 => ?_); contradiction; refine W_skip ?_; refine W_seq ?_; refine W_region rfl ?_; refine Wo rfl (opv_move (v := v) rfl) ?_; refine Wo rfl (opv_move (v := u2) rfl) ?_
            refine Wo_call rfl (opc4 (a := v) (b := .int _ _) (c := u2) (d := .int _ _) Tryz.call97 rfl rfl rfl rfl) (k2 _ _ _ ((Mono.mono ((E1.trans E2).trans E3) h)) ((Owned.read hO2))) ?_; rintro _ w4 ⟨u3, rfl, E4, hO3⟩; have hs4 := E4.size
            refine Wo rfl (opv_extract (v := u3) rfl rfl) ?_; refine Wo rfl (opv_extract (v := .bool _) rfl rfl) ?_; refine Wo rfl (opv_assign (v := u3) rfl) ?_; refine Wo rfl (opv_assign (v := .bool _) rfl) ?_; refine Wo_nil ?_
            refine W_ret ?_; refine at_ret (v := .tuple #[u3, .bool _]) rfl ?_; exact ⟨_, rfl, (((E1.trans E2).trans E3).trans E4), hO3.toB.o.mono (by omega)⟩; contradiction; contradiction
    · have hm : M = none := hM.trans (by simp only [madeV]; rw [if_neg (fun h => absurd h.1 (by decide)), if_neg (fun h => en h.2), if_neg (fun h => absurd h.1 (by decide)), if_neg (fun h => absurd h.1 (by decide))])
      rw [hm, show og none = [] from rfl, show (none : Option (List (List Int))).isSome = false from rfl]
      cases B
      · focus
          refine W_seq ?_; refine W_region rfl ?_; refine Wo_box rfl rfl rfl ?_; rintro b1 w1 hb1 E1 hB1; have hlb1 := hB1.lt; have hs1 := E1.size; refine Wo rfl (opv_assign (v := .slice _ _ _) rfl) ?_
          refine Wo rfl (opv_assign (v := .bool _) rfl) ?_; refine Wo_nil ?_; refine W_seq ?_; refine W_region rfl ?_; refine Wo rfl (opv_fieldAddr Tryz.underlying75 rfl rfl Tryz.sizeOf9 rfl) ?_
          refine Wo (v := .string _) rfl (opv_load Tryz.isAgg9 rfl (hB1.cell rfl)) ?_; refine Wo_call rfl (opc1 (a := .string _) Tryz.call95 rfl) (k0 _) ?_; rintro _ w2 ⟨u1, rfl, E2, hO1⟩; have hs2 := E2.size
          refine Wo rfl (opv_move (v := .tuple _) rfl) ?_; refine Wo rfl (opv_extract (v := u1) rfl rfl) ?_; refine Wo rfl (opv_extract (v := .bool _) rfl rfl) ?_; refine Wo rfl (opv_assign (v := u1) rfl) ?_
          refine Wo rfl (opv_assign (v := .bool _) rfl) ?_; refine Wo_nil ?_; refine W_seq ?_; refine W_block ?_; refine W_seq ?_; refine W_region rfl ?_; refine Wo rfl (opv_fieldAddr Tryz.underlying75 rfl rfl Tryz.sizeOf3 rfl) ?_
          refine Wo (v := .int _ _) rfl (opv_load Tryz.isAgg3 rfl ((hB1.ext E2).cell rfl)) ?_; refine Wo rfl (opv_eql rfl rfl) ?_; refine Wo_split_dec rfl (opv_move (v := .bool _) rfl) (fun h1 => ?_) (fun h1 => ?_); contradiction
          refine Wo_skip rfl ?_; refine Wo_skip rfl ?_; refine Wo_skip rfl ?_; refine Wo rfl (opv_pick_f (v := .bool _) rfl rfl) ?_; refine Wo rfl (opv_move (v := .bool _) rfl) ?_; refine Wo_skip rfl ?_; refine Wo_skip rfl ?_
          refine Wo_skip rfl ?_; refine Wo rfl (opv_pick_f (v := .bool _) rfl rfl) ?_; refine Wo rfl (opv_assign (v := .bool _) rfl) ?_; refine Wo_nil ?_; refine W_cond_false rfl ?_; refine W_seq ?_; refine W_region rfl ?_
          refine Wo rfl (opv_fieldAddr Tryz.underlying75 rfl rfl Tryz.sizeOf3 rfl) ?_; refine Wo (v := .int _ _) rfl (opv_load Tryz.isAgg3 rfl ((hB1.ext E2).cell rfl)) ?_; refine Wo rfl (opv_eql rfl rfl) ?_
          refine Wo_split_dec rfl (opv_move (v := .bool _) rfl) (fun h2 => ?_) (fun h2 => ?_); refine Wo rfl (opv_move (v := .bool _) rfl) ?_; refine Wo rfl (opv_pick_t (v := .bool _) rfl rfl) ?_
          refine Wo rfl (opv_move (v := .bool _) rfl) ?_; refine Wo_skip rfl ?_; refine Wo_skip rfl ?_; refine Wo_skip rfl ?_; refine Wo rfl (opv_pick_f (v := .bool _) rfl rfl) ?_; refine Wo rfl (opv_assign (v := .bool _) rfl) ?_
          refine Wo_nil ?_; refine W_cond_false rfl ?_; refine W_seq ?_; refine W_region rfl ?_; refine Wo rfl (opv_fieldAddr Tryz.underlying75 rfl rfl Tryz.sizeOf3 rfl) ?_
          refine Wo (v := .int _ _) rfl (opv_load Tryz.isAgg3 rfl ((hB1.ext E2).cell rfl)) ?_; refine Wo rfl (opv_eql rfl rfl) ?_; refine Wo_split_dec rfl (opv_move (v := .bool _) rfl) (fun h3 => ?_) (fun h3 => ?_); contradiction
          refine Wo_skip rfl ?_; refine Wo rfl (opv_pick_f (v := .bool _) rfl rfl) ?_; refine Wo rfl (opv_move (v := .bool _) rfl) ?_; refine Wo_skip rfl ?_; refine Wo_skip rfl ?_; refine Wo_skip rfl ?_
          refine Wo rfl (opv_pick_f (v := .bool _) rfl rfl) ?_; refine Wo rfl (opv_assign (v := .bool _) rfl) ?_; refine Wo_nil ?_; refine W_cond_false rfl ?_; refine W_seq ?_; refine W_draw mixed (by kernel_rfl) rfl ?_
          refine Wq_o rfl (fun _ _ => opv_fieldAddr Tryz.underlying75 rfl rfl Tryz.sizeOf3 rfl) ?_; refine Wq_o (v := .int _ _) rfl (fun w' hw' => opv_load Tryz.isAgg3 rfl (((hB1.ext E2).ext hw').cell rfl)) ?_
          refine Wq_o rfl (fun _ _ => opv_eql rfl rfl) ?_; refine Wq_split_dec rfl (fun _ _ => opv_move (v := .bool _) rfl) (fun h4 => ?_) (fun h4 => ?_); contradiction; refine Wq_skip rfl ?_; refine Wq_skip rfl ?_; refine Wq_skip rfl ?_
          refine Wq_o rfl (fun _ _ => opv_pick_f (v := .bool _) rfl rfl) ?_; refine Wq_o rfl (fun _ _ => opv_move (v := .bool _) rfl) ?_; refine Wq_skip rfl ?_; refine Wq_skip rfl ?_; refine Wq_skip rfl ?_; refine Wq_skip rfl ?_
          refine Wq_skip rfl ?_; refine Wq_skip rfl ?_; refine Wq_o rfl (fun _ _ => opv_pick_f (v := .bool _) rfl rfl) ?_; refine Wq_o rfl (fun _ _ => opv_move (v := .bool _) rfl) ?_; refine Wq_skip rfl ?_; refine Wq_skip rfl ?_
          refine Wq_skip rfl ?_; refine Wq_skip rfl ?_; refine Wq_skip rfl ?_; refine Wq_skip rfl ?_; refine Wq_skip rfl ?_; refine Wq_skip rfl ?_; refine Wq_o rfl (fun _ _ => opv_pick_f (v := .bool _) rfl rfl) ?_
          refine Wq_o rfl (fun _ _ => opv_assign (v := .bool _) rfl) ?_; refine Wq_nil (fun w3 E3 => ?_); have hs3 := E3.size; refine W_cond_false rfl ?_; refine W_skip ?_; refine W_seq ?_; refine W_region rfl ?_
          refine Wo_lit0 (XSl 3 XInt) rfl el22 Tryz.sizeOf58 ?_; rintro b2 w4 hb2 b2lt E4 hO2; have hs4 := E4.size; refine Wo rfl (opv_assign (v := .slice _ _ _) rfl) ?_; refine Wo rfl (opv_assign (v := .bool _) rfl) ?_; refine Wo_nil ?_
          refine W_ret ?_; refine at_ret (v := .tuple #[.slice _ _ _, .bool _]) rfl ?_; exact ⟨_, rfl, (((E1.trans E2).trans E3).trans E4), hO2.toB.o.mono (by omega)⟩; contradiction
      · focus
          refine W_seq ?_; refine W_region rfl ?_; refine Wo_box rfl rfl rfl ?_; rintro b1 w1 hb1 E1 hB1; have hlb1 := hB1.lt; have hs1 := E1.size; refine Wo rfl (opv_assign (v := .slice _ _ _) rfl) ?_
          refine Wo rfl (opv_assign (v := .bool _) rfl) ?_; refine Wo_nil ?_; refine W_seq ?_; refine W_region rfl ?_; refine Wo rfl (opv_fieldAddr Tryz.underlying75 rfl rfl Tryz.sizeOf9 rfl) ?_
          refine Wo (v := .string _) rfl (opv_load Tryz.isAgg9 rfl (hB1.cell rfl)) ?_; refine Wo_call rfl (opc1 (a := .string _) Tryz.call95 rfl) (k0 _) ?_; rintro _ w2 ⟨u1, rfl, E2, hO1⟩; have hs2 := E2.size
          refine Wo rfl (opv_move (v := .tuple _) rfl) ?_; refine Wo rfl (opv_extract (v := u1) rfl rfl) ?_; refine Wo rfl (opv_extract (v := .bool _) rfl rfl) ?_; refine Wo rfl (opv_assign (v := u1) rfl) ?_
          refine Wo rfl (opv_assign (v := .bool _) rfl) ?_; refine Wo_nil ?_; refine W_seq ?_; refine W_block ?_; refine W_seq ?_; refine W_region rfl ?_; refine Wo rfl (opv_fieldAddr Tryz.underlying75 rfl rfl Tryz.sizeOf3 rfl) ?_
          refine Wo (v := .int _ _) rfl (opv_load Tryz.isAgg3 rfl ((hB1.ext E2).cell rfl)) ?_; refine Wo rfl (opv_eql rfl rfl) ?_; refine Wo_split_dec rfl (opv_move (v := .bool _) rfl) (fun h1 => ?_) (fun h1 => ?_); contradiction
          refine Wo_skip rfl ?_; refine Wo_skip rfl ?_; refine Wo_skip rfl ?_; refine Wo rfl (opv_pick_f (v := .bool _) rfl rfl) ?_; refine Wo rfl (opv_move (v := .bool _) rfl) ?_; refine Wo_skip rfl ?_; refine Wo_skip rfl ?_
          refine Wo_skip rfl ?_; refine Wo rfl (opv_pick_f (v := .bool _) rfl rfl) ?_; refine Wo rfl (opv_assign (v := .bool _) rfl) ?_; refine Wo_nil ?_; refine W_cond_false rfl ?_; refine W_seq ?_; refine W_region rfl ?_
          refine Wo rfl (opv_fieldAddr Tryz.underlying75 rfl rfl Tryz.sizeOf3 rfl) ?_; refine Wo (v := .int _ _) rfl (opv_load Tryz.isAgg3 rfl ((hB1.ext E2).cell rfl)) ?_; refine Wo rfl (opv_eql rfl rfl) ?_
          refine Wo_split_dec rfl (opv_move (v := .bool _) rfl) (fun h2 => ?_) (fun h2 => ?_); refine Wo rfl (opv_move (v := .bool _) rfl) ?_; refine Wo rfl (opv_pick_t (v := .bool _) rfl rfl) ?_
          refine Wo rfl (opv_move (v := .bool _) rfl) ?_; refine Wo rfl (opv_fieldAddr Tryz.underlying75 rfl rfl Tryz.sizeOf3 rfl) ?_; refine Wo (v := .int _ _) rfl (opv_load Tryz.isAgg3 rfl ((hB1.ext E2).cell rfl)) ?_
          refine Wo rfl (opv_eql rfl rfl) ?_; refine Wo rfl (opv_pick_t (v := .bool _) rfl rfl) ?_; refine Wo rfl (opv_assign (v := .bool _) rfl) ?_; refine Wo_nil ?_; refine W_cond_dec rfl (fun h3 => ?_) (fun h3 => ?_); contradiction
          refine W_seq ?_; refine W_region rfl ?_; refine Wo rfl (opv_fieldAddr Tryz.underlying75 rfl rfl Tryz.sizeOf3 rfl) ?_; refine Wo (v := .int _ _) rfl (opv_load Tryz.isAgg3 rfl ((hB1.ext E2).cell rfl)) ?_
          refine Wo rfl (opv_eql rfl rfl) ?_; refine Wo_split_dec rfl (opv_move (v := .bool _) rfl) (fun h4 => ?_) (fun h4 => ?_); contradiction; refine Wo_skip rfl ?_; refine Wo rfl (opv_pick_f (v := .bool _) rfl rfl) ?_
          refine Wo rfl (opv_move (v := .bool _) rfl) ?_; refine Wo_skip rfl ?_; refine Wo_skip rfl ?_; refine Wo_skip rfl ?_; refine Wo rfl (opv_pick_f (v := .bool _) rfl rfl) ?_; refine Wo rfl (opv_assign (v := .bool _) rfl) ?_
          refine Wo_nil ?_; refine W_cond_false rfl ?_; refine W_seq ?_; refine W_draw mixed (by kernel_rfl) rfl ?_; refine Wq_o rfl (fun _ _ => opv_fieldAddr Tryz.underlying75 rfl rfl Tryz.sizeOf3 rfl) ?_
          refine Wq_o (v := .int _ _) rfl (fun w' hw' => opv_load Tryz.isAgg3 rfl (((hB1.ext E2).ext hw').cell rfl)) ?_; refine Wq_o rfl (fun _ _ => opv_eql rfl rfl) ?_
          refine Wq_split_dec rfl (fun _ _ => opv_move (v := .bool _) rfl) (fun h5 => ?_) (fun h5 => ?_); contradiction; refine Wq_skip rfl ?_; refine Wq_skip rfl ?_; refine Wq_skip rfl ?_
          refine Wq_o rfl (fun _ _ => opv_pick_f (v := .bool _) rfl rfl) ?_; refine Wq_o rfl (fun _ _ => opv_move (v := .bool _) rfl) ?_; refine Wq_skip rfl ?_; refine Wq_skip rfl ?_; refine Wq_skip rfl ?_; refine Wq_skip rfl ?_
          refine Wq_skip rfl ?_; refine Wq_skip rfl ?_; refine Wq_o rfl (fun _ _ => opv_pick_f (v := .bool _) rfl rfl) ?_; refine Wq_o rfl (fun _ _ => opv_move (v := .bool _) rfl) ?_; refine Wq_skip rfl ?_; refine Wq_skip rfl ?_
          refine Wq_skip rfl ?_; refine Wq_skip rfl ?_; refine Wq_skip rfl ?_; refine Wq_skip rfl ?_; refine Wq_skip rfl ?_; refine Wq_skip rfl ?_; refine Wq_o rfl (fun _ _ => opv_pick_f (v := .bool _) rfl rfl) ?_
          refine Wq_o rfl (fun _ _ => opv_assign (v := .bool _) rfl) ?_; refine Wq_nil (fun w3 E3 => ?_); have hs3 := E3.size; refine W_cond_false rfl ?_; refine W_skip ?_; refine W_seq ?_; refine W_region rfl ?_
          refine Wo_lit0 (XSl 3 XInt) rfl el22 Tryz.sizeOf58 ?_; rintro b2 w4 hb2 b2lt E4 hO2; have hs4 := E4.size; refine Wo rfl (opv_assign (v := .slice _ _ _) rfl) ?_; refine Wo rfl (opv_assign (v := .bool _) rfl) ?_; refine Wo_nil ?_
          refine W_ret ?_; refine at_ret (v := .tuple #[.slice _ _ _, .bool _]) rfl ?_; exact ⟨_, rfl, (((E1.trans E2).trans E3).trans E4), hO2.toB.o.mono (by omega)⟩; contradiction
  by_cases e2 : k = 2
  · subst e2
    by_cases en : n = 0
    · subst en
      have hm : M = (rdP t).bind fun q => wosV p 0 q 0 := hM.trans (by simp only [madeV]; rw [if_neg (fun h => absurd h.1 (by decide)), if_neg (fun h => absurd h.1 (by decide)), if_pos (by simp)])
      cases hr : rdP t with
      | none =>
        rw [hr] at hm hB hQ
        rw [hm, show og (none.bind fun q => wosV p 0 q 0) = [] from rfl, show (none.bind fun q => wosV p 0 q 0).isSome = false from rfl]
        rw [hB, show (none : Option (List (List Int))).isSome = false from rfl] at k0
        focus
          refine W_seq ?_; refine W_region rfl ?_; refine Wo_box rfl rfl rfl ?_; rintro b1 w1 hb1 E1 hB1; have hlb1 := hB1.lt; have hs1 := E1.size; refine Wo rfl (opv_assign (v := .slice _ _ _) rfl) ?_
          refine Wo rfl (opv_assign (v := .bool _) rfl) ?_; refine Wo_nil ?_; refine W_seq ?_; refine W_region rfl ?_; refine Wo rfl (opv_fieldAddr Tryz.underlying75 rfl rfl Tryz.sizeOf9 rfl) ?_
          refine Wo (v := .string _) rfl (opv_load Tryz.isAgg9 rfl (hB1.cell rfl)) ?_; refine Wo_call rfl (opc1 (a := .string _) Tryz.call95 rfl) (k0 _) ?_; rintro _ w2 ⟨u1, rfl, E2, hO1⟩; have hs2 := E2.size
          refine Wo rfl (opv_move (v := .tuple _) rfl) ?_; refine Wo rfl (opv_extract (v := u1) rfl rfl) ?_; refine Wo rfl (opv_extract (v := .bool _) rfl rfl) ?_; refine Wo rfl (opv_assign (v := u1) rfl) ?_
          refine Wo rfl (opv_assign (v := .bool _) rfl) ?_; refine Wo_nil ?_; refine W_seq ?_; refine W_block ?_; refine W_seq ?_; refine W_region rfl ?_; refine Wo rfl (opv_fieldAddr Tryz.underlying75 rfl rfl Tryz.sizeOf3 rfl) ?_
          refine Wo (v := .int _ _) rfl (opv_load Tryz.isAgg3 rfl ((hB1.ext E2).cell rfl)) ?_; refine Wo rfl (opv_eql rfl rfl) ?_; refine Wo_split_dec rfl (opv_move (v := .bool _) rfl) (fun h1 => ?_) (fun h1 => ?_); contradiction
          refine Wo_skip rfl ?_; refine Wo_skip rfl ?_; refine Wo_skip rfl ?_; refine Wo rfl (opv_pick_f (v := .bool _) rfl rfl) ?_; refine Wo rfl (opv_move (v := .bool _) rfl) ?_; refine Wo_skip rfl ?_; refine Wo_skip rfl ?_
          refine Wo_skip rfl ?_; refine Wo rfl (opv_pick_f (v := .bool _) rfl rfl) ?_; refine Wo rfl (opv_assign (v := .bool _) rfl) ?_; refine Wo_nil ?_; refine W_cond_false rfl ?_; refine W_seq ?_; refine W_region rfl ?_
          refine Wo rfl (opv_fieldAddr Tryz.underlying75 rfl rfl Tryz.sizeOf3 rfl) ?_; refine Wo (v := .int _ _) rfl (opv_load Tryz.isAgg3 rfl ((hB1.ext E2).cell rfl)) ?_; refine Wo rfl (opv_eql rfl rfl) ?_
          refine Wo_split_dec rfl (opv_move (v := .bool _) rfl) (fun h2 => ?_) (fun h2 => ?_); contradiction; refine Wo_skip rfl ?_; refine Wo rfl (opv_pick_f (v := .bool _) rfl rfl) ?_; refine Wo rfl (opv_move (v := .bool _) rfl) ?_
          refine Wo_skip rfl ?_; refine Wo_skip rfl ?_; refine Wo_skip rfl ?_; refine Wo rfl (opv_pick_f (v := .bool _) rfl rfl) ?_; refine Wo rfl (opv_assign (v := .bool _) rfl) ?_; refine Wo_nil ?_; refine W_cond_false rfl ?_
          refine W_seq ?_; refine W_region rfl ?_; refine Wo rfl (opv_fieldAddr Tryz.underlying75 rfl rfl Tryz.sizeOf3 rfl) ?_; refine Wo (v := .int _ _) rfl (opv_load Tryz.isAgg3 rfl ((hB1.ext E2).cell rfl)) ?_
          refine Wo rfl (opv_eql rfl rfl) ?_; refine Wo_split_dec rfl (opv_move (v := .bool _) rfl) (fun h3 => ?_) (fun h3 => ?_); refine Wo rfl (opv_move (v := .bool _) rfl) ?_; refine Wo rfl (opv_pick_t (v := .bool _) rfl rfl) ?_
          refine Wo rfl (opv_move (v := .bool _) rfl) ?_; refine Wo_skip rfl ?_; refine Wo_skip rfl ?_; refine Wo_skip rfl ?_; refine Wo rfl (opv_pick_f (v := .bool _) rfl rfl) ?_; refine Wo rfl (opv_assign (v := .bool _) rfl) ?_
          refine Wo_nil ?_; refine W_cond_false rfl ?_; refine W_seq ?_; refine W_draw mixed (by kernel_rfl) rfl ?_; refine Wq_o rfl (fun _ _ => opv_fieldAddr Tryz.underlying75 rfl rfl Tryz.sizeOf3 rfl) ?_
          refine Wq_o (v := .int _ _) rfl (fun w' hw' => opv_load Tryz.isAgg3 rfl (((hB1.ext E2).ext hw').cell rfl)) ?_; refine Wq_o rfl (fun _ _ => opv_eql rfl rfl) ?_
          refine Wq_split_dec rfl (fun _ _ => opv_move (v := .bool _) rfl) (fun h4 => ?_) (fun h4 => ?_); contradiction; refine Wq_skip rfl ?_; refine Wq_skip rfl ?_; refine Wq_skip rfl ?_
          refine Wq_o rfl (fun _ _ => opv_pick_f (v := .bool _) rfl rfl) ?_; refine Wq_o rfl (fun _ _ => opv_move (v := .bool _) rfl) ?_; refine Wq_skip rfl ?_; refine Wq_skip rfl ?_; refine Wq_skip rfl ?_; refine Wq_skip rfl ?_
          refine Wq_skip rfl ?_; refine Wq_skip rfl ?_; refine Wq_o rfl (fun _ _ => opv_pick_f (v := .bool _) rfl rfl) ?_; refine Wq_o rfl (fun _ _ => opv_move (v := .bool _) rfl) ?_; refine Wq_skip rfl ?_; refine Wq_skip rfl ?_
          refine Wq_skip rfl ?_; refine Wq_skip rfl ?_; refine Wq_skip rfl ?_; refine Wq_skip rfl ?_; refine Wq_skip rfl ?_; refine Wq_skip rfl ?_; refine Wq_o rfl (fun _ _ => opv_pick_f (v := .bool _) rfl rfl) ?_
          refine Wq_o rfl (fun _ _ => opv_assign (v := .bool _) rfl) ?_; refine Wq_nil (fun w3 E3 => ?_); have hs3 := E3.size; refine W_cond_false rfl ?_; refine W_skip ?_; refine W_seq ?_; refine W_region rfl ?_
          refine Wo_lit0 (XSl 3 XInt) rfl el22 Tryz.sizeOf58 ?_; rintro b2 w4 hb2 b2lt E4 hO2; have hs4 := E4.size; refine Wo rfl (opv_assign (v := .slice _ _ _) rfl) ?_; refine Wo rfl (opv_assign (v := .bool _) rfl) ?_; refine Wo_nil ?_
          refine W_ret ?_; refine at_ret (v := .tuple #[.slice _ _ _, .bool _]) rfl ?_; exact ⟨_, rfl, (((E1.trans E2).trans E3).trans E4), hO2.toB.o.mono (by omega)⟩; contradiction
      | some q =>
        rw [hr] at hm hB hQ
        rw [hB, hQ, show (some q).isSome = true from rfl, show (some q).getD [] = q from rfl] at k0
        have hq := (rdP_some hr).1
        have hNq : Nod q (0 : Nat) := ⟨hq, by decide, by have := hq.1; omega⟩
        have k1 : ∀ (w : World) (v u : Value), ESl Ints w v p → ESl Ints w u q → Does Tryz.prog 98 [v, .int .i64 0, u, .int .i64 0] w (RetOB w XR (og (wosV p 0 q 0)) (wosV p 0 q 0).isSome) := fun w v u h1 h2 => WithoutSet_ok w v u p q h1 h2 0 0 hN hNq
        rw [hm, show ((some q).bind fun q => wosV p 0 q 0) = wosV p 0 q 0 from rfl]
        focus
          refine W_seq ?_; refine W_region rfl ?_; refine Wo_box rfl rfl rfl ?_; rintro b1 w1 hb1 E1 hB1; have hlb1 := hB1.lt; have hs1 := E1.size; refine Wo rfl (opv_assign (v := .slice _ _ _) rfl) ?_
          refine Wo rfl (opv_assign (v := .bool _) rfl) ?_; refine Wo_nil ?_; refine W_seq ?_; refine W_region rfl ?_; refine Wo rfl (opv_fieldAddr Tryz.underlying75 rfl rfl Tryz.sizeOf9 rfl) ?_
          refine Wo (v := .string _) rfl (opv_load Tryz.isAgg9 rfl (hB1.cell rfl)) ?_; refine Wo_call rfl (opc1 (a := .string _) Tryz.call95 rfl) (k0 _) ?_; rintro _ w2 ⟨u1, rfl, E2, hO1⟩; have hs2 := E2.size
          refine Wo rfl (opv_move (v := .tuple _) rfl) ?_; refine Wo rfl (opv_extract (v := u1) rfl rfl) ?_; refine Wo rfl (opv_extract (v := .bool _) rfl rfl) ?_; refine Wo rfl (opv_assign (v := u1) rfl) ?_
          refine Wo rfl (opv_assign (v := .bool _) rfl) ?_; refine Wo_nil ?_; refine W_seq ?_; refine W_block ?_; refine W_seq ?_; refine W_region rfl ?_; refine Wo rfl (opv_fieldAddr Tryz.underlying75 rfl rfl Tryz.sizeOf3 rfl) ?_
          refine Wo (v := .int _ _) rfl (opv_load Tryz.isAgg3 rfl ((hB1.ext E2).cell rfl)) ?_; refine Wo rfl (opv_eql rfl rfl) ?_; refine Wo_split_dec rfl (opv_move (v := .bool _) rfl) (fun h1 => ?_) (fun h1 => ?_); contradiction
          refine Wo_skip rfl ?_; refine Wo_skip rfl ?_; refine Wo_skip rfl ?_; refine Wo rfl (opv_pick_f (v := .bool _) rfl rfl) ?_; refine Wo rfl (opv_move (v := .bool _) rfl) ?_; refine Wo_skip rfl ?_; refine Wo_skip rfl ?_
          refine Wo_skip rfl ?_; refine Wo rfl (opv_pick_f (v := .bool _) rfl rfl) ?_; refine Wo rfl (opv_assign (v := .bool _) rfl) ?_; refine Wo_nil ?_; refine W_cond_false rfl ?_; refine W_seq ?_; refine W_region rfl ?_
          refine Wo rfl (opv_fieldAddr Tryz.underlying75 rfl rfl Tryz.sizeOf3 rfl) ?_; refine Wo (v := .int _ _) rfl (opv_load Tryz.isAgg3 rfl ((hB1.ext E2).cell rfl)) ?_; refine Wo rfl (opv_eql rfl rfl) ?_
          refine Wo_split_dec rfl (opv_move (v := .bool _) rfl) (fun h2 => ?_) (fun h2 => ?_); contradiction; refine Wo_skip rfl ?_; refine Wo rfl (opv_pick_f (v := .bool _) rfl rfl) ?_; refine Wo rfl (opv_move (v := .bool _) rfl) ?_
          refine Wo_skip rfl ?_; refine Wo_skip rfl ?_; refine Wo_skip rfl ?_; refine Wo rfl (opv_pick_f (v := .bool _) rfl rfl) ?_; refine Wo rfl (opv_assign (v := .bool _) rfl) ?_; refine Wo_nil ?_; refine W_cond_false rfl ?_
          refine W_seq ?_; refine W_region rfl ?_; refine Wo rfl (opv_fieldAddr Tryz.underlying75 rfl rfl Tryz.sizeOf3 rfl) ?_; refine Wo (v := .int _ _) rfl (opv_load Tryz.isAgg3 rfl ((hB1.ext E2).cell rfl)) ?_
          refine Wo rfl (opv_eql rfl rfl) ?_; refine Wo_split_dec rfl (opv_move (v := .bool _) rfl) (fun h3 => ?_) (fun h3 => ?_); refine Wo rfl (opv_move (v := .bool _) rfl) ?_; refine Wo rfl (opv_pick_t (v := .bool _) rfl rfl) ?_
          refine Wo rfl (opv_move (v := .bool _) rfl) ?_; refine Wo rfl (opv_fieldAddr Tryz.underlying75 rfl rfl Tryz.sizeOf3 rfl) ?_; refine Wo (v := .int _ _) rfl (opv_load Tryz.isAgg3 rfl ((hB1.ext E2).cell rfl)) ?_
          refine Wo rfl (opv_eql rfl rfl) ?_; refine Wo rfl (opv_pick_t (v := .bool _) rfl rfl) ?_; refine Wo rfl (opv_assign (v := .bool _) rfl) ?_; refine Wo_nil ?_; refine W_cond_dec rfl (fun h4 => ?_) (fun h4 => ?_); refine W_seq ?_
          refine W_region rfl ?_; refine Wo rfl (opv_move (v := v) rfl) ?_; refine Wo rfl (opv_move (v := u1) rfl) ?_
          refine Wo_call rfl (opc4 (a := v) (b := .int _ _) (c := u1) (d := .int _ _) Tryz.call98 rfl rfl rfl rfl) (k1 _ _ _ ((Mono.mono (E1.trans E2) h)) ((Owned.read hO1))) ?_; rintro _ w3 ⟨u2, rfl, E3, hO2⟩; have hs3 := E3.size
          refine Wo rfl (opv_extract (v := u2) rfl rfl) ?_; refine Wo rfl (opv_extract (v := .bool _) rfl rfl) ?_; refine Wo rfl (opv_assign (v := u2) rfl) ?_; refine Wo rfl (opv_assign (v := .bool _) rfl) ?_; refine Wo_nil ?_
          refine W_ret ?_; refine at_ret (v := .tuple #[u2, .bool _]) rfl ?_; exact ⟨_, rfl, ((E1.trans E2).trans E3), hO2.toB.o.mono (by omega)⟩; contradiction; contradiction
    · have hm : M = none := hM.trans (by simp only [madeV]; rw [if_neg (fun h => absurd h.1 (by decide)), if_neg (fun h => absurd h.1 (by decide)), if_neg (fun h => en h.2), if_neg (fun h => absurd h.1 (by decide))])
      rw [hm, show og none = [] from rfl, show (none : Option (List (List Int))).isSome = false from rfl]
      cases B
      · focus
          refine W_seq ?_; refine W_region rfl ?_; refine Wo_box rfl rfl rfl ?_; rintro b1 w1 hb1 E1 hB1; have hlb1 := hB1.lt; have hs1 := E1.size; refine Wo rfl (opv_assign (v := .slice _ _ _) rfl) ?_
          refine Wo rfl (opv_assign (v := .bool _) rfl) ?_; refine Wo_nil ?_; refine W_seq ?_; refine W_region rfl ?_; refine Wo rfl (opv_fieldAddr Tryz.underlying75 rfl rfl Tryz.sizeOf9 rfl) ?_
          refine Wo (v := .string _) rfl (opv_load Tryz.isAgg9 rfl (hB1.cell rfl)) ?_; refine Wo_call rfl (opc1 (a := .string _) Tryz.call95 rfl) (k0 _) ?_; rintro _ w2 ⟨u1, rfl, E2, hO1⟩; have hs2 := E2.size
          refine Wo rfl (opv_move (v := .tuple _) rfl) ?_; refine Wo rfl (opv_extract (v := u1) rfl rfl) ?_; refine Wo rfl (opv_extract (v := .bool _) rfl rfl) ?_; refine Wo rfl (opv_assign (v := u1) rfl) ?_
          refine Wo rfl (opv_assign (v := .bool _) rfl) ?_; refine Wo_nil ?_; refine W_seq ?_; refine W_block ?_; refine W_seq ?_; refine W_region rfl ?_; refine Wo rfl (opv_fieldAddr Tryz.underlying75 rfl rfl Tryz.sizeOf3 rfl) ?_
          refine Wo (v := .int _ _) rfl (opv_load Tryz.isAgg3 rfl ((hB1.ext E2).cell rfl)) ?_; refine Wo rfl (opv_eql rfl rfl) ?_; refine Wo_split_dec rfl (opv_move (v := .bool _) rfl) (fun h1 => ?_) (fun h1 => ?_); contradiction
          refine Wo_skip rfl ?_; refine Wo_skip rfl ?_; refine Wo_skip rfl ?_; refine Wo rfl (opv_pick_f (v := .bool _) rfl rfl) ?_; refine Wo rfl (opv_move (v := .bool _) rfl) ?_; refine Wo_skip rfl ?_; refine Wo_skip rfl ?_
          refine Wo_skip rfl ?_; refine Wo rfl (opv_pick_f (v := .bool _) rfl rfl) ?_; refine Wo rfl (opv_assign (v := .bool _) rfl) ?_; refine Wo_nil ?_; refine W_cond_false rfl ?_; refine W_seq ?_; refine W_region rfl ?_
          refine Wo rfl (opv_fieldAddr Tryz.underlying75 rfl rfl Tryz.sizeOf3 rfl) ?_; refine Wo (v := .int _ _) rfl (opv_load Tryz.isAgg3 rfl ((hB1.ext E2).cell rfl)) ?_; refine Wo rfl (opv_eql rfl rfl) ?_
          refine Wo_split_dec rfl (opv_move (v := .bool _) rfl) (fun h2 => ?_) (fun h2 => ?_); contradiction; refine Wo_skip rfl ?_; refine Wo rfl (opv_pick_f (v := .bool _) rfl rfl) ?_; refine Wo rfl (opv_move (v := .bool _) rfl) ?_
          refine Wo_skip rfl ?_; refine Wo_skip rfl ?_; refine Wo_skip rfl ?_; refine Wo rfl (opv_pick_f (v := .bool _) rfl rfl) ?_; refine Wo rfl (opv_assign (v := .bool _) rfl) ?_; refine Wo_nil ?_; refine W_cond_false rfl ?_
          refine W_seq ?_; refine W_region rfl ?_; refine Wo rfl (opv_fieldAddr Tryz.underlying75 rfl rfl Tryz.sizeOf3 rfl) ?_; refine Wo (v := .int _ _) rfl (opv_load Tryz.isAgg3 rfl ((hB1.ext E2).cell rfl)) ?_
          refine Wo rfl (opv_eql rfl rfl) ?_; refine Wo_split_dec rfl (opv_move (v := .bool _) rfl) (fun h3 => ?_) (fun h3 => ?_); refine Wo rfl (opv_move (v := .bool _) rfl) ?_; refine Wo rfl (opv_pick_t (v := .bool _) rfl rfl) ?_
          refine Wo rfl (opv_move (v := .bool _) rfl) ?_; refine Wo_skip rfl ?_; refine Wo_skip rfl ?_; refine Wo_skip rfl ?_; refine Wo rfl (opv_pick_f (v := .bool _) rfl rfl) ?_; refine Wo rfl (opv_assign (v := .bool _) rfl) ?_
          refine Wo_nil ?_; refine W_cond_false rfl ?_; refine W_seq ?_; refine W_draw mixed (by kernel_rfl) rfl ?_; refine Wq_o rfl (fun _ _ => opv_fieldAddr Tryz.underlying75 rfl rfl Tryz.sizeOf3 rfl) ?_
          refine Wq_o (v := .int _ _) rfl (fun w' hw' => opv_load Tryz.isAgg3 rfl (((hB1.ext E2).ext hw').cell rfl)) ?_; refine Wq_o rfl (fun _ _ => opv_eql rfl rfl) ?_
          refine Wq_split_dec rfl (fun _ _ => opv_move (v := .bool _) rfl) (fun h4 => ?_) (fun h4 => ?_); contradiction; refine Wq_skip rfl ?_; refine Wq_skip rfl ?_; refine Wq_skip rfl ?_
          refine Wq_o rfl (fun _ _ => opv_pick_f (v := .bool _) rfl rfl) ?_; refine Wq_o rfl (fun _ _ => opv_move (v := .bool _) rfl) ?_; refine Wq_skip rfl ?_; refine Wq_skip rfl ?_; refine Wq_skip rfl ?_; refine Wq_skip rfl ?_
          refine Wq_skip rfl ?_; refine Wq_skip rfl ?_; refine Wq_o rfl (fun _ _ => opv_pick_f (v := .bool _) rfl rfl) ?_; refine Wq_o rfl (fun _ _ => opv_move (v := .bool _) rfl) ?_; refine Wq_skip rfl ?_; refine Wq_skip rfl ?_
          refine Wq_skip rfl ?_; refine Wq_skip rfl ?_; refine Wq_skip rfl ?_; refine Wq_skip rfl ?_; refine Wq_skip rfl ?_; refine Wq_skip rfl ?_; refine Wq_o rfl (fun _ _ => opv_pick_f (v := .bool _) rfl rfl) ?_
          refine Wq_o rfl (fun _ _ => opv_assign (v := .bool _) rfl) ?_; refine Wq_nil (fun w3 E3 => ?_); have hs3 := E3.size; refine W_cond_false rfl ?_; refine W_skip ?_; refine W_seq ?_; refine W_region rfl ?_
          refine Wo_lit0 (XSl 3 XInt) rfl el22 Tryz.sizeOf58 ?_; rintro b2 w4 hb2 b2lt E4 hO2; have hs4 := E4.size; refine Wo rfl (opv_assign (v := .slice _ _ _) rfl) ?_; refine Wo rfl (opv_assign (v := .bool _) rfl) ?_; refine Wo_nil ?_
          refine W_ret ?_; refine at_ret (v := .tuple #[.slice _ _ _, .bool _]) rfl ?_; exact ⟨_, rfl, (((E1.trans E2).trans E3).trans E4), hO2.toB.o.mono (by omega)⟩; contradiction
      · focus
          refine W_seq ?_; refine W_region rfl ?_; refine Wo_box rfl rfl rfl ?_; rintro b1 w1 hb1 E1 hB1; have hlb1 := hB1.lt; have hs1 := E1.size; refine Wo rfl (opv_assign (v := .slice _ _ _) rfl) ?_
          refine Wo rfl (opv_assign (v := .bool _) rfl) ?_; refine Wo_nil ?_; refine W_seq ?_; refine W_region rfl ?_; refine Wo rfl (opv_fieldAddr Tryz.underlying75 rfl rfl Tryz.sizeOf9 rfl) ?_
          refine Wo (v := .string _) rfl (opv_load Tryz.isAgg9 rfl (hB1.cell rfl)) ?_; refine Wo_call rfl (opc1 (a := .string _) Tryz.call95 rfl) (k0 _) ?_; rintro _ w2 ⟨u1, rfl, E2, hO1⟩; have hs2 := E2.size
          refine Wo rfl (opv_move (v := .tuple _) rfl) ?_; refine Wo rfl (opv_extract (v := u1) rfl rfl) ?_; refine Wo rfl (opv_extract (v := .bool _) rfl rfl) ?_; refine Wo rfl (opv_assign (v := u1) rfl) ?_
          refine Wo rfl (opv_assign (v := .bool _) rfl) ?_; refine Wo_nil ?_; refine W_seq ?_; refine W_block ?_; refine W_seq ?_; refine W_region rfl ?_; refine Wo rfl (opv_fieldAddr Tryz.underlying75 rfl rfl Tryz.sizeOf3 rfl) ?_
          refine Wo (v := .int _ _) rfl (opv_load Tryz.isAgg3 rfl ((hB1.ext E2).cell rfl)) ?_; refine Wo rfl (opv_eql rfl rfl) ?_; refine Wo_split_dec rfl (opv_move (v := .bool _) rfl) (fun h1 => ?_) (fun h1 => ?_); contradiction
          refine Wo_skip rfl ?_; refine Wo_skip rfl ?_; refine Wo_skip rfl ?_; refine Wo rfl (opv_pick_f (v := .bool _) rfl rfl) ?_; refine Wo rfl (opv_move (v := .bool _) rfl) ?_; refine Wo_skip rfl ?_; refine Wo_skip rfl ?_
          refine Wo_skip rfl ?_; refine Wo rfl (opv_pick_f (v := .bool _) rfl rfl) ?_; refine Wo rfl (opv_assign (v := .bool _) rfl) ?_; refine Wo_nil ?_; refine W_cond_false rfl ?_; refine W_seq ?_; refine W_region rfl ?_
          refine Wo rfl (opv_fieldAddr Tryz.underlying75 rfl rfl Tryz.sizeOf3 rfl) ?_; refine Wo (v := .int _ _) rfl (opv_load Tryz.isAgg3 rfl ((hB1.ext E2).cell rfl)) ?_; refine Wo rfl (opv_eql rfl rfl) ?_
          refine Wo_split_dec rfl (opv_move (v := .bool _) rfl) (fun h2 => ?_) (fun h2 => ?_); contradiction; refine Wo_skip rfl ?_; refine Wo rfl (opv_pick_f (v := .bool _) rfl rfl) ?_; refine Wo rfl (opv_move (v := .bool _) rfl) ?_
          refine Wo_skip rfl ?_; refine Wo_skip rfl ?_; refine Wo_skip rfl ?_; refine Wo rfl (opv_pick_f (v := .bool _) rfl rfl) ?_; refine Wo rfl (opv_assign (v := .bool _) rfl) ?_; refine Wo_nil ?_; refine W_cond_false rfl ?_
          refine W_seq ?_; refine W_region rfl ?_; refine Wo rfl (opv_fieldAddr Tryz.underlying75 rfl rfl Tryz.sizeOf3 rfl) ?_; refine Wo (v := .int _ _) rfl (opv_load Tryz.isAgg3 rfl ((hB1.ext E2).cell rfl)) ?_
          refine Wo rfl (opv_eql rfl rfl) ?_; refine Wo_split_dec rfl (opv_move (v := .bool _) rfl) (fun h3 => ?_) (fun h3 => ?_); refine Wo rfl (opv_move (v := .bool _) rfl) ?_; refine Wo rfl (opv_pick_t (v := .bool _) rfl rfl) ?_
          refine Wo rfl (opv_move (v := .bool _) rfl) ?_; refine Wo rfl (opv_fieldAddr Tryz.underlying75 rfl rfl Tryz.sizeOf3 rfl) ?_; refine Wo (v := .int _ _) rfl (opv_load Tryz.isAgg3 rfl ((hB1.ext E2).cell rfl)) ?_
          refine Wo rfl (opv_eql rfl rfl) ?_; refine Wo rfl (opv_pick_t (v := .bool _) rfl rfl) ?_; refine Wo rfl (opv_assign (v := .bool _) rfl) ?_; refine Wo_nil ?_; refine W_cond_dec rfl (fun h4 => ?_) (fun h4 => ?_); contradiction
          refine W_seq ?_; refine W_draw mixed (by kernel_rfl) rfl ?_; refine Wq_o rfl (fun _ _ => opv_fieldAddr Tryz.underlying75 rfl rfl Tryz.sizeOf3 rfl) ?_
          refine Wq_o (v := .int _ _) rfl (fun w' hw' => opv_load Tryz.isAgg3 rfl (((hB1.ext E2).ext hw').cell rfl)) ?_; refine Wq_o rfl (fun _ _ => opv_eql rfl rfl) ?_
          refine Wq_split_dec rfl (fun _ _ => opv_move (v := .bool _) rfl) (fun h5 => ?_) (fun h5 => ?_); contradiction; refine Wq_skip rfl ?_; refine Wq_skip rfl ?_; refine Wq_skip rfl ?_
          refine Wq_o rfl (fun _ _ => opv_pick_f (v := .bool _) rfl rfl) ?_; refine Wq_o rfl (fun _ _ => opv_move (v := .bool _) rfl) ?_; refine Wq_skip rfl ?_; refine Wq_skip rfl ?_; refine Wq_skip rfl ?_; refine Wq_skip rfl ?_
          refine Wq_skip rfl ?_; refine Wq_skip rfl ?_; refine Wq_o rfl (fun _ _ => opv_pick_f (v := .bool _) rfl rfl) ?_; refine Wq_o rfl (fun _ _ => opv_move (v := .bool _) rfl) ?_; refine Wq_skip rfl ?_; refine Wq_skip rfl ?_
          refine Wq_skip rfl ?_; refine Wq_skip rfl ?_; refine Wq_skip rfl ?_; refine Wq_skip rfl ?_; refine Wq_skip rfl ?_; refine Wq_skip rfl ?_; refine Wq_o rfl (fun _ _ => opv_pick_f (v := .bool _) rfl rfl) ?_
          refine Wq_o rfl (fun _ _ => opv_assign (v := .bool _) rfl) ?_; refine Wq_nil (fun w3 E3 => ?_); have hs3 := E3.size; refine W_cond_false rfl ?_; refine W_skip ?_; refine W_seq ?_; refine W_region rfl ?_
          refine Wo_lit0 (XSl 3 XInt) rfl el22 Tryz.sizeOf58 ?_; rintro b2 w4 hb2 b2lt E4 hO2; have hs4 := E4.size; refine Wo rfl (opv_assign (v := .slice _ _ _) rfl) ?_; refine Wo rfl (opv_assign (v := .bool _) rfl) ?_; refine Wo_nil ?_
          refine W_ret ?_; refine at_ret (v := .tuple #[.slice _ _ _, .bool _]) rfl ?_; exact ⟨_, rfl, (((E1.trans E2).trans E3).trans E4), hO2.toB.o.mono (by omega)⟩; contradiction
  by_cases e3 : k = 3
  · subst e3
    by_cases et : t = []
    · subst et
      by_cases en : 0 ≤ n ∧ n ≤ (p.length : Int) - 1
      · have k2 : ∀ w, Does Tryz.prog 53 [.int .i64 n, .int .i64 0, .int .i64 ((p.length : Int) - 1)] w (Ret w (.bool true)) := fun w => by
          have := l1In_ok n 0 ((p.length : Int) - 1) w; rwa [decide_eq_true en] at this
        have hrow : p[0].length = p.length := hp.row hp1
        obtain ⟨i, rfl⟩ : ∃ i : Nat, n = i := ⟨n.toNat, by omega⟩
        have hil : i < p.length := by omega
        have hbit : bit p 0 i = p[0][i] := by unfold bit; rw [getD_lt hp1, getD_lt (show i < p[0].length by omega)]
        by_cases eb : p[0][i] = 1
        · have hm : M = some (lst p i) := hM.trans (by simp only [madeV]; rw [if_neg (fun h => absurd h.1 (by decide)), if_neg (fun h => absurd h.1 (by decide)), if_neg (fun h => absurd h.1 (by decide)), if_pos ⟨trivial, trivial, by omega, by omega, by rw [Int.toNat_natCast, hbit, eb]⟩, Int.toNat_natCast])
          have hNi : Nod p (i : Int) := ⟨hp, by omega, by omega⟩
          have k3 : ∀ (w : World) (v : Value), ESl Ints w v p → Does Tryz.prog 32 [v, .int .i64 (i : Int)] w (RetO w XR (lst p i)) := fun w v h => by
            have := LeastOf_ok w v p h (i : Int); rw [if_pos hNi] at this; exact this
          rw [hm, show og (some (lst p i)) = lst p i from rfl, show (some (lst p i)).isSome = true from rfl]
          focus
            refine W_seq ?_; refine W_region rfl ?_; refine Wo_box rfl rfl rfl ?_; rintro b1 w1 hb1 E1 hB1; have hlb1 := hB1.lt; have hs1 := E1.size; refine Wo rfl (opv_assign (v := .slice _ _ _) rfl) ?_
            refine Wo rfl (opv_assign (v := .bool _) rfl) ?_; refine Wo_nil ?_; refine W_seq ?_; refine W_region rfl ?_; refine Wo rfl (opv_fieldAddr Tryz.underlying75 rfl rfl Tryz.sizeOf9 rfl) ?_
            refine Wo (v := .string _) rfl (opv_load Tryz.isAgg9 rfl (hB1.cell rfl)) ?_; refine Wo_call rfl (opc1 (a := .string _) Tryz.call95 rfl) (k0 _) ?_; rintro _ w2 ⟨u1, rfl, E2, hO1⟩; have hs2 := E2.size
            refine Wo rfl (opv_move (v := .tuple _) rfl) ?_; refine Wo rfl (opv_extract (v := u1) rfl rfl) ?_; refine Wo rfl (opv_extract (v := .bool _) rfl rfl) ?_; refine Wo rfl (opv_assign (v := u1) rfl) ?_
            refine Wo rfl (opv_assign (v := .bool _) rfl) ?_; refine Wo_nil ?_; refine W_seq ?_; refine W_block ?_; refine W_seq ?_; refine W_region rfl ?_; refine Wo rfl (opv_fieldAddr Tryz.underlying75 rfl rfl Tryz.sizeOf3 rfl) ?_
            refine Wo (v := .int _ _) rfl (opv_load Tryz.isAgg3 rfl ((hB1.ext E2).cell rfl)) ?_; refine Wo rfl (opv_eql rfl rfl) ?_; refine Wo_split_dec rfl (opv_move (v := .bool _) rfl) (fun h1 => ?_) (fun h1 => ?_); contradiction
            refine Wo_skip rfl ?_; refine Wo_skip rfl ?_; refine Wo_skip rfl ?_; refine Wo rfl (opv_pick_f (v := .bool _) rfl rfl) ?_; refine Wo rfl (opv_move (v := .bool _) rfl) ?_; refine Wo_skip rfl ?_; refine Wo_skip rfl ?_
            refine Wo_skip rfl ?_; refine Wo rfl (opv_pick_f (v := .bool _) rfl rfl) ?_; refine Wo rfl (opv_assign (v := .bool _) rfl) ?_; refine Wo_nil ?_; refine W_cond_false rfl ?_; refine W_seq ?_; refine W_region rfl ?_
            refine Wo rfl (opv_fieldAddr Tryz.underlying75 rfl rfl Tryz.sizeOf3 rfl) ?_; refine Wo (v := .int _ _) rfl (opv_load Tryz.isAgg3 rfl ((hB1.ext E2).cell rfl)) ?_; refine Wo rfl (opv_eql rfl rfl) ?_
            refine Wo_split_dec rfl (opv_move (v := .bool _) rfl) (fun h2 => ?_) (fun h2 => ?_); contradiction; refine Wo_skip rfl ?_; refine Wo rfl (opv_pick_f (v := .bool _) rfl rfl) ?_; refine Wo rfl (opv_move (v := .bool _) rfl) ?_
            refine Wo_skip rfl ?_; refine Wo_skip rfl ?_; refine Wo_skip rfl ?_; refine Wo rfl (opv_pick_f (v := .bool _) rfl rfl) ?_; refine Wo rfl (opv_assign (v := .bool _) rfl) ?_; refine Wo_nil ?_; refine W_cond_false rfl ?_
            refine W_seq ?_; refine W_region rfl ?_; refine Wo rfl (opv_fieldAddr Tryz.underlying75 rfl rfl Tryz.sizeOf3 rfl) ?_; refine Wo (v := .int _ _) rfl (opv_load Tryz.isAgg3 rfl ((hB1.ext E2).cell rfl)) ?_
            refine Wo rfl (opv_eql rfl rfl) ?_; refine Wo_split_dec rfl (opv_move (v := .bool _) rfl) (fun h3 => ?_) (fun h3 => ?_); contradiction; refine Wo_skip rfl ?_; refine Wo rfl (opv_pick_f (v := .bool _) rfl rfl) ?_
            refine Wo rfl (opv_move (v := .bool _) rfl) ?_; refine Wo_skip rfl ?_; refine Wo_skip rfl ?_; refine Wo_skip rfl ?_; refine Wo rfl (opv_pick_f (v := .bool _) rfl rfl) ?_; refine Wo rfl (opv_assign (v := .bool _) rfl) ?_
            refine Wo_nil ?_; refine W_cond_false rfl ?_; refine W_seq ?_; refine W_draw mixed (by kernel_rfl) rfl ?_; refine Wq_o rfl (fun _ _ => opv_fieldAddr Tryz.underlying75 rfl rfl Tryz.sizeOf3 rfl) ?_
            refine Wq_o (v := .int _ _) rfl (fun w' hw' => opv_load Tryz.isAgg3 rfl (((hB1.ext E2).ext hw').cell rfl)) ?_; refine Wq_o rfl (fun _ _ => opv_eql rfl rfl) ?_
            refine Wq_split_dec rfl (fun _ _ => opv_move (v := .bool _) rfl) (fun h4 => ?_) (fun h4 => ?_); refine Wq_o rfl (fun _ _ => opv_fieldAddr Tryz.underlying75 rfl rfl Tryz.sizeOf9 rfl) ?_
            refine Wq_o (v := .string _) rfl (fun w' hw' => opv_load Tryz.isAgg9 rfl (((hB1.ext E2).ext hw').cell rfl)) ?_; refine Wq_o rfl (fun _ _ => opv_eql_str rfl rfl) ?_; refine Wq_o rfl (fun _ _ => opv_pick_t (v := .bool _) rfl rfl) ?_
            refine Wq_split_dec rfl (fun _ _ => opv_move (v := .bool _) rfl) (fun h5 => ?_) (fun h5 => ?_); refine Wq_o rfl (fun _ _ => opv_fieldAddr Tryz.underlying75 rfl rfl Tryz.sizeOf3 rfl) ?_
            refine Wq_o (v := .int _ _) rfl (fun w' hw' => opv_load Tryz.isAgg3 rfl (((hB1.ext E2).ext hw').cell rfl)) ?_; refine Wq_o rfl (fun _ _ => opv_move (v := v) rfl) ?_; refine Wq_o rfl (fun _ _ => opv_len Tryz.underlying22 rfl h) ?_
            refine Wq_o rfl (fun _ _ => opv_sub rfl rfl (by omega)) ?_; refine Wq_call rfl (fun _ _ => opc3 (a := .int _ _) (b := .int _ _) (c := .int _ _) Tryz.call53 rfl rfl rfl) (fun w' hw' => (k2 _)) ?_
            refine Wq_o rfl (fun _ _ => opv_pick_t (v := .bool _) rfl rfl) ?_; refine Wq_o rfl (fun _ _ => opv_move (v := .bool _) rfl) ?_; refine Wq_o rfl (fun _ _ => opv_move (v := v) rfl) ?_
            refine Wq_get (k := 0) Tryz.underlying22 Tryz.sizeOf58 Tryz.isAgg58 rfl (fun _ => rfl) rfl h (E1.trans E2) rfl (by first | omega | (simp <;> omega)) ?_; rintro _ u2 hu1
            refine Wq_o rfl (fun _ _ => opv_fieldAddr Tryz.underlying75 rfl rfl Tryz.sizeOf3 rfl) ?_; refine Wq_o (v := .int _ _) rfl (fun w' hw' => opv_load Tryz.isAgg3 rfl (((hB1.ext E2).ext hw').cell rfl)) ?_
            refine Wq_get Tryz.underlying58 Tryz.sizeOf3 Tryz.isAgg3 rfl (fun _ => rfl) rfl hu1 (E1.trans E2) rfl (by first | omega | (simp <;> omega)) ?_; rintro _ _ rfl; refine Wq_o rfl (fun _ _ => opv_eql rfl rfl) ?_
            refine Wq_o rfl (fun _ _ => opv_pick_t (v := .bool _) rfl rfl) ?_; refine Wq_o rfl (fun _ _ => opv_assign (v := .bool _) rfl) ?_; refine Wq_nil (fun w3 E3 => ?_); have hs3 := E3.size
            refine W_cond_dec rfl (fun h6 => ?_) (fun h6 => ?_); refine W_seq ?_; refine W_region rfl ?_; refine Wo rfl (opv_move (v := v) rfl) ?_; refine Wo rfl (opv_fieldAddr Tryz.underlying75 rfl rfl Tryz.sizeOf3 rfl) ?_
            refine Wo (v := .int _ _) rfl (opv_load Tryz.isAgg3 rfl ((hB1.ext (E2.trans E3)).cell rfl)) ?_; refine Wo_call rfl (opc2 (a := v) (b := .int _ _) Tryz.call32 rfl rfl) (k3 _ _ ((Mono.mono ((E1.trans E2).trans E3) h))) ?_
            rintro u3 w4 ⟨E4, hO2⟩; have hs4 := E4.size; refine Wo rfl (opv_assign (v := u3) rfl) ?_; refine Wo rfl (opv_assign (v := .bool _) rfl) ?_; refine Wo_nil ?_; refine W_ret ?_; refine at_ret (v := .tuple #[u3, .bool _]) rfl ?_
            exact ⟨_, rfl, (((E1.trans E2).trans E3).trans E4), hO2.toB.o.mono (by omega)⟩; contradiction; contradiction; contradiction
        · have hm : M = none := hM.trans (by simp only [madeV]; rw [if_neg (fun h => absurd h.1 (by decide)), if_neg (fun h => absurd h.1 (by decide)), if_neg (fun h => absurd h.1 (by decide)), if_neg (fun h => eb (by have := h.2.2.2.2; rwa [Int.toNat_natCast, hbit] at this))])
          rw [hm, show og none = [] from rfl, show (none : Option (List (List Int))).isSome = false from rfl]
          focus
            refine W_seq ?_; refine W_region rfl ?_; refine Wo_box rfl rfl rfl ?_; rintro b1 w1 hb1 E1 hB1; have hlb1 := hB1.lt; have hs1 := E1.size; refine Wo rfl (opv_assign (v := .slice _ _ _) rfl) ?_
            refine Wo rfl (opv_assign (v := .bool _) rfl) ?_; refine Wo_nil ?_; refine W_seq ?_; refine W_region rfl ?_; refine Wo rfl (opv_fieldAddr Tryz.underlying75 rfl rfl Tryz.sizeOf9 rfl) ?_
            refine Wo (v := .string _) rfl (opv_load Tryz.isAgg9 rfl (hB1.cell rfl)) ?_; refine Wo_call rfl (opc1 (a := .string _) Tryz.call95 rfl) (k0 _) ?_; rintro _ w2 ⟨u1, rfl, E2, hO1⟩; have hs2 := E2.size
            refine Wo rfl (opv_move (v := .tuple _) rfl) ?_; refine Wo rfl (opv_extract (v := u1) rfl rfl) ?_; refine Wo rfl (opv_extract (v := .bool _) rfl rfl) ?_; refine Wo rfl (opv_assign (v := u1) rfl) ?_
            refine Wo rfl (opv_assign (v := .bool _) rfl) ?_; refine Wo_nil ?_; refine W_seq ?_; refine W_block ?_; refine W_seq ?_; refine W_region rfl ?_; refine Wo rfl (opv_fieldAddr Tryz.underlying75 rfl rfl Tryz.sizeOf3 rfl) ?_
            refine Wo (v := .int _ _) rfl (opv_load Tryz.isAgg3 rfl ((hB1.ext E2).cell rfl)) ?_; refine Wo rfl (opv_eql rfl rfl) ?_; refine Wo_split_dec rfl (opv_move (v := .bool _) rfl) (fun h1 => ?_) (fun h1 => ?_); contradiction
            refine Wo_skip rfl ?_; refine Wo_skip rfl ?_; refine Wo_skip rfl ?_; refine Wo rfl (opv_pick_f (v := .bool _) rfl rfl) ?_; refine Wo rfl (opv_move (v := .bool _) rfl) ?_; refine Wo_skip rfl ?_; refine Wo_skip rfl ?_
            refine Wo_skip rfl ?_; refine Wo rfl (opv_pick_f (v := .bool _) rfl rfl) ?_; refine Wo rfl (opv_assign (v := .bool _) rfl) ?_; refine Wo_nil ?_; refine W_cond_false rfl ?_; refine W_seq ?_; refine W_region rfl ?_
            refine Wo rfl (opv_fieldAddr Tryz.underlying75 rfl rfl Tryz.sizeOf3 rfl) ?_; refine Wo (v := .int _ _) rfl (opv_load Tryz.isAgg3 rfl ((hB1.ext E2).cell rfl)) ?_; refine Wo rfl (opv_eql rfl rfl) ?_
            refine Wo_split_dec rfl (opv_move (v := .bool _) rfl) (fun h2 => ?_) (fun h2 => ?_); contradiction; refine Wo_skip rfl ?_; refine Wo rfl (opv_pick_f (v := .bool _) rfl rfl) ?_; refine Wo rfl (opv_move (v := .bool _) rfl) ?_
            refine Wo_skip rfl ?_; refine Wo_skip rfl ?_; refine Wo_skip rfl ?_; refine Wo rfl (opv_pick_f (v := .bool _) rfl rfl) ?_; refine Wo rfl (opv_assign (v := .bool _) rfl) ?_; refine Wo_nil ?_; refine W_cond_false rfl ?_
            refine W_seq ?_; refine W_region rfl ?_; refine Wo rfl (opv_fieldAddr Tryz.underlying75 rfl rfl Tryz.sizeOf3 rfl) ?_; refine Wo (v := .int _ _) rfl (opv_load Tryz.isAgg3 rfl ((hB1.ext E2).cell rfl)) ?_
            refine Wo rfl (opv_eql rfl rfl) ?_; refine Wo_split_dec rfl (opv_move (v := .bool _) rfl) (fun h3 => ?_) (fun h3 => ?_); contradiction; refine Wo_skip rfl ?_; refine Wo rfl (opv_pick_f (v := .bool _) rfl rfl) ?_
            refine Wo rfl (opv_move (v := .bool _) rfl) ?_; refine Wo_skip rfl ?_; refine Wo_skip rfl ?_; refine Wo_skip rfl ?_; refine Wo rfl (opv_pick_f (v := .bool _) rfl rfl) ?_; refine Wo rfl (opv_assign (v := .bool _) rfl) ?_
            refine Wo_nil ?_; refine W_cond_false rfl ?_; refine W_seq ?_; refine W_draw mixed (by kernel_rfl) rfl ?_; refine Wq_o rfl (fun _ _ => opv_fieldAddr Tryz.underlying75 rfl rfl Tryz.sizeOf3 rfl) ?_
            refine Wq_o (v := .int _ _) rfl (fun w' hw' => opv_load Tryz.isAgg3 rfl (((hB1.ext E2).ext hw').cell rfl)) ?_; refine Wq_o rfl (fun _ _ => opv_eql rfl rfl) ?_
            refine Wq_split_dec rfl (fun _ _ => opv_move (v := .bool _) rfl) (fun h4 => ?_) (fun h4 => ?_); refine Wq_o rfl (fun _ _ => opv_fieldAddr Tryz.underlying75 rfl rfl Tryz.sizeOf9 rfl) ?_
            refine Wq_o (v := .string _) rfl (fun w' hw' => opv_load Tryz.isAgg9 rfl (((hB1.ext E2).ext hw').cell rfl)) ?_; refine Wq_o rfl (fun _ _ => opv_eql_str rfl rfl) ?_; refine Wq_o rfl (fun _ _ => opv_pick_t (v := .bool _) rfl rfl) ?_
            refine Wq_split_dec rfl (fun _ _ => opv_move (v := .bool _) rfl) (fun h5 => ?_) (fun h5 => ?_); refine Wq_o rfl (fun _ _ => opv_fieldAddr Tryz.underlying75 rfl rfl Tryz.sizeOf3 rfl) ?_
            refine Wq_o (v := .int _ _) rfl (fun w' hw' => opv_load Tryz.isAgg3 rfl (((hB1.ext E2).ext hw').cell rfl)) ?_; refine Wq_o rfl (fun _ _ => opv_move (v := v) rfl) ?_; refine Wq_o rfl (fun _ _ => opv_len Tryz.underlying22 rfl h) ?_
            refine Wq_o rfl (fun _ _ => opv_sub rfl rfl (by omega)) ?_; refine Wq_call rfl (fun _ _ => opc3 (a := .int _ _) (b := .int _ _) (c := .int _ _) Tryz.call53 rfl rfl rfl) (fun w' hw' => (k2 _)) ?_
            refine Wq_o rfl (fun _ _ => opv_pick_t (v := .bool _) rfl rfl) ?_; refine Wq_o rfl (fun _ _ => opv_move (v := .bool _) rfl) ?_; refine Wq_o rfl (fun _ _ => opv_move (v := v) rfl) ?_
            refine Wq_get (k := 0) Tryz.underlying22 Tryz.sizeOf58 Tryz.isAgg58 rfl (fun _ => rfl) rfl h (E1.trans E2) rfl (by first | omega | (simp <;> omega)) ?_; rintro _ u2 hu1
            refine Wq_o rfl (fun _ _ => opv_fieldAddr Tryz.underlying75 rfl rfl Tryz.sizeOf3 rfl) ?_; refine Wq_o (v := .int _ _) rfl (fun w' hw' => opv_load Tryz.isAgg3 rfl (((hB1.ext E2).ext hw').cell rfl)) ?_
            refine Wq_get Tryz.underlying58 Tryz.sizeOf3 Tryz.isAgg3 rfl (fun _ => rfl) rfl hu1 (E1.trans E2) rfl (by first | omega | (simp <;> omega)) ?_; rintro _ _ rfl; refine Wq_o rfl (fun _ _ => opv_eql rfl rfl) ?_
            refine Wq_o rfl (fun _ _ => opv_pick_t (v := .bool _) rfl rfl) ?_; refine Wq_o rfl (fun _ _ => opv_assign (v := .bool _) rfl) ?_; refine Wq_nil (fun w3 E3 => ?_); have hs3 := E3.size
            refine W_cond_dec rfl (fun h6 => ?_) (fun h6 => ?_); contradiction; refine W_skip ?_; refine W_seq ?_; refine W_region rfl ?_; refine Wo_lit0 (XSl 3 XInt) rfl el22 Tryz.sizeOf58 ?_; rintro b2 w4 hb2 b2lt E4 hO2; have hs4 := E4.size
            refine Wo rfl (opv_assign (v := .slice _ _ _) rfl) ?_; refine Wo rfl (opv_assign (v := .bool _) rfl) ?_; refine Wo_nil ?_; refine W_ret ?_; refine at_ret (v := .tuple #[.slice _ _ _, .bool _]) rfl ?_
            exact ⟨_, rfl, (((E1.trans E2).trans E3).trans E4), hO2.toB.o.mono (by omega)⟩; contradiction; contradiction
      · have k2 : ∀ w, Does Tryz.prog 53 [.int .i64 n, .int .i64 0, .int .i64 ((p.length : Int) - 1)] w (Ret w (.bool false)) := fun w => by
          have := l1In_ok n 0 ((p.length : Int) - 1) w; rwa [decide_eq_false en] at this
        have hm : M = none := hM.trans (by simp only [madeV]; rw [if_neg (fun h => absurd h.1 (by decide)), if_neg (fun h => absurd h.1 (by decide)), if_neg (fun h => absurd h.1 (by decide)), if_neg (fun h => en ⟨h.2.2.1, by have := h.2.2.2.1; omega⟩)])
        rw [hm, show og none = [] from rfl, show (none : Option (List (List Int))).isSome = false from rfl]
        focus
          refine W_seq ?_; refine W_region rfl ?_; refine Wo_box rfl rfl rfl ?_; rintro b1 w1 hb1 E1 hB1; have hlb1 := hB1.lt; have hs1 := E1.size; refine Wo rfl (opv_assign (v := .slice _ _ _) rfl) ?_
          refine Wo rfl (opv_assign (v := .bool _) rfl) ?_; refine Wo_nil ?_; refine W_seq ?_; refine W_region rfl ?_; refine Wo rfl (opv_fieldAddr Tryz.underlying75 rfl rfl Tryz.sizeOf9 rfl) ?_
          refine Wo (v := .string _) rfl (opv_load Tryz.isAgg9 rfl (hB1.cell rfl)) ?_; refine Wo_call rfl (opc1 (a := .string _) Tryz.call95 rfl) (k0 _) ?_; rintro _ w2 ⟨u1, rfl, E2, hO1⟩; have hs2 := E2.size
          refine Wo rfl (opv_move (v := .tuple _) rfl) ?_; refine Wo rfl (opv_extract (v := u1) rfl rfl) ?_; refine Wo rfl (opv_extract (v := .bool _) rfl rfl) ?_; refine Wo rfl (opv_assign (v := u1) rfl) ?_
          refine Wo rfl (opv_assign (v := .bool _) rfl) ?_; refine Wo_nil ?_; refine W_seq ?_; refine W_block ?_; refine W_seq ?_; refine W_region rfl ?_; refine Wo rfl (opv_fieldAddr Tryz.underlying75 rfl rfl Tryz.sizeOf3 rfl) ?_
          refine Wo (v := .int _ _) rfl (opv_load Tryz.isAgg3 rfl ((hB1.ext E2).cell rfl)) ?_; refine Wo rfl (opv_eql rfl rfl) ?_; refine Wo_split_dec rfl (opv_move (v := .bool _) rfl) (fun h1 => ?_) (fun h1 => ?_); contradiction
          refine Wo_skip rfl ?_; refine Wo_skip rfl ?_; refine Wo_skip rfl ?_; refine Wo rfl (opv_pick_f (v := .bool _) rfl rfl) ?_; refine Wo rfl (opv_move (v := .bool _) rfl) ?_; refine Wo_skip rfl ?_; refine Wo_skip rfl ?_
          refine Wo_skip rfl ?_; refine Wo rfl (opv_pick_f (v := .bool _) rfl rfl) ?_; refine Wo rfl (opv_assign (v := .bool _) rfl) ?_; refine Wo_nil ?_; refine W_cond_false rfl ?_; refine W_seq ?_; refine W_region rfl ?_
          refine Wo rfl (opv_fieldAddr Tryz.underlying75 rfl rfl Tryz.sizeOf3 rfl) ?_; refine Wo (v := .int _ _) rfl (opv_load Tryz.isAgg3 rfl ((hB1.ext E2).cell rfl)) ?_; refine Wo rfl (opv_eql rfl rfl) ?_
          refine Wo_split_dec rfl (opv_move (v := .bool _) rfl) (fun h2 => ?_) (fun h2 => ?_); contradiction; refine Wo_skip rfl ?_; refine Wo rfl (opv_pick_f (v := .bool _) rfl rfl) ?_; refine Wo rfl (opv_move (v := .bool _) rfl) ?_
          refine Wo_skip rfl ?_; refine Wo_skip rfl ?_; refine Wo_skip rfl ?_; refine Wo rfl (opv_pick_f (v := .bool _) rfl rfl) ?_; refine Wo rfl (opv_assign (v := .bool _) rfl) ?_; refine Wo_nil ?_; refine W_cond_false rfl ?_
          refine W_seq ?_; refine W_region rfl ?_; refine Wo rfl (opv_fieldAddr Tryz.underlying75 rfl rfl Tryz.sizeOf3 rfl) ?_; refine Wo (v := .int _ _) rfl (opv_load Tryz.isAgg3 rfl ((hB1.ext E2).cell rfl)) ?_
          refine Wo rfl (opv_eql rfl rfl) ?_; refine Wo_split_dec rfl (opv_move (v := .bool _) rfl) (fun h3 => ?_) (fun h3 => ?_); contradiction; refine Wo_skip rfl ?_; refine Wo rfl (opv_pick_f (v := .bool _) rfl rfl) ?_
          refine Wo rfl (opv_move (v := .bool _) rfl) ?_; refine Wo_skip rfl ?_; refine Wo_skip rfl ?_; refine Wo_skip rfl ?_; refine Wo rfl (opv_pick_f (v := .bool _) rfl rfl) ?_; refine Wo rfl (opv_assign (v := .bool _) rfl) ?_
          refine Wo_nil ?_; refine W_cond_false rfl ?_; refine W_seq ?_; refine W_draw mixed (by kernel_rfl) rfl ?_; refine Wq_o rfl (fun _ _ => opv_fieldAddr Tryz.underlying75 rfl rfl Tryz.sizeOf3 rfl) ?_
          refine Wq_o (v := .int _ _) rfl (fun w' hw' => opv_load Tryz.isAgg3 rfl (((hB1.ext E2).ext hw').cell rfl)) ?_; refine Wq_o rfl (fun _ _ => opv_eql rfl rfl) ?_
          refine Wq_split_dec rfl (fun _ _ => opv_move (v := .bool _) rfl) (fun h4 => ?_) (fun h4 => ?_); refine Wq_o rfl (fun _ _ => opv_fieldAddr Tryz.underlying75 rfl rfl Tryz.sizeOf9 rfl) ?_
          refine Wq_o (v := .string _) rfl (fun w' hw' => opv_load Tryz.isAgg9 rfl (((hB1.ext E2).ext hw').cell rfl)) ?_; refine Wq_o rfl (fun _ _ => opv_eql_str rfl rfl) ?_; refine Wq_o rfl (fun _ _ => opv_pick_t (v := .bool _) rfl rfl) ?_
          refine Wq_split_dec rfl (fun _ _ => opv_move (v := .bool _) rfl) (fun h5 => ?_) (fun h5 => ?_); refine Wq_o rfl (fun _ _ => opv_fieldAddr Tryz.underlying75 rfl rfl Tryz.sizeOf3 rfl) ?_
          refine Wq_o (v := .int _ _) rfl (fun w' hw' => opv_load Tryz.isAgg3 rfl (((hB1.ext E2).ext hw').cell rfl)) ?_; refine Wq_o rfl (fun _ _ => opv_move (v := v) rfl) ?_; refine Wq_o rfl (fun _ _ => opv_len Tryz.underlying22 rfl h) ?_
          refine Wq_o rfl (fun _ _ => opv_sub rfl rfl (by omega)) ?_; refine Wq_call rfl (fun _ _ => opc3 (a := .int _ _) (b := .int _ _) (c := .int _ _) Tryz.call53 rfl rfl rfl) (fun w' hw' => (k2 _)) ?_
          refine Wq_o rfl (fun _ _ => opv_pick_t (v := .bool _) rfl rfl) ?_; refine Wq_o rfl (fun _ _ => opv_move (v := .bool _) rfl) ?_; refine Wq_skip rfl ?_; refine Wq_skip rfl ?_; refine Wq_skip rfl ?_; refine Wq_skip rfl ?_
          refine Wq_skip rfl ?_; refine Wq_skip rfl ?_; refine Wq_skip rfl ?_; refine Wq_skip rfl ?_; refine Wq_o rfl (fun _ _ => opv_pick_f (v := .bool _) rfl rfl) ?_; refine Wq_o rfl (fun _ _ => opv_assign (v := .bool _) rfl) ?_
          refine Wq_nil (fun w3 E3 => ?_); have hs3 := E3.size; refine W_cond_false rfl ?_; refine W_skip ?_; refine W_seq ?_; refine W_region rfl ?_; refine Wo_lit0 (XSl 3 XInt) rfl el22 Tryz.sizeOf58 ?_; rintro b2 w4 hb2 b2lt E4 hO2
          have hs4 := E4.size; refine Wo rfl (opv_assign (v := .slice _ _ _) rfl) ?_; refine Wo rfl (opv_assign (v := .bool _) rfl) ?_; refine Wo_nil ?_; refine W_ret ?_; refine at_ret (v := .tuple #[.slice _ _ _, .bool _]) rfl ?_
          exact ⟨_, rfl, (((E1.trans E2).trans E3).trans E4), hO2.toB.o.mono (by omega)⟩; contradiction; contradiction
    · have hm : M = none := hM.trans (by simp only [madeV]; rw [if_neg (fun h => absurd h.1 (by decide)), if_neg (fun h => absurd h.1 (by decide)), if_neg (fun h => absurd h.1 (by decide)), if_neg (fun h => et h.2.1)])
      rw [hm, show og none = [] from rfl, show (none : Option (List (List Int))).isSome = false from rfl]
      focus
        refine W_seq ?_; refine W_region rfl ?_; refine Wo_box rfl rfl rfl ?_; rintro b1 w1 hb1 E1 hB1; have hlb1 := hB1.lt; have hs1 := E1.size; refine Wo rfl (opv_assign (v := .slice _ _ _) rfl) ?_
        refine Wo rfl (opv_assign (v := .bool _) rfl) ?_; refine Wo_nil ?_; refine W_seq ?_; refine W_region rfl ?_; refine Wo rfl (opv_fieldAddr Tryz.underlying75 rfl rfl Tryz.sizeOf9 rfl) ?_
        refine Wo (v := .string _) rfl (opv_load Tryz.isAgg9 rfl (hB1.cell rfl)) ?_; refine Wo_call rfl (opc1 (a := .string _) Tryz.call95 rfl) (k0 _) ?_; rintro _ w2 ⟨u1, rfl, E2, hO1⟩; have hs2 := E2.size
        refine Wo rfl (opv_move (v := .tuple _) rfl) ?_; refine Wo rfl (opv_extract (v := u1) rfl rfl) ?_; refine Wo rfl (opv_extract (v := .bool _) rfl rfl) ?_; refine Wo rfl (opv_assign (v := u1) rfl) ?_
        refine Wo rfl (opv_assign (v := .bool _) rfl) ?_; refine Wo_nil ?_; refine W_seq ?_; refine W_block ?_; refine W_seq ?_; refine W_region rfl ?_; refine Wo rfl (opv_fieldAddr Tryz.underlying75 rfl rfl Tryz.sizeOf3 rfl) ?_
        refine Wo (v := .int _ _) rfl (opv_load Tryz.isAgg3 rfl ((hB1.ext E2).cell rfl)) ?_; refine Wo rfl (opv_eql rfl rfl) ?_; refine Wo_split_dec rfl (opv_move (v := .bool _) rfl) (fun h1 => ?_) (fun h1 => ?_); contradiction
        refine Wo_skip rfl ?_; refine Wo_skip rfl ?_; refine Wo_skip rfl ?_; refine Wo rfl (opv_pick_f (v := .bool _) rfl rfl) ?_; refine Wo rfl (opv_move (v := .bool _) rfl) ?_; refine Wo_skip rfl ?_; refine Wo_skip rfl ?_
        refine Wo_skip rfl ?_; refine Wo rfl (opv_pick_f (v := .bool _) rfl rfl) ?_; refine Wo rfl (opv_assign (v := .bool _) rfl) ?_; refine Wo_nil ?_; refine W_cond_false rfl ?_; refine W_seq ?_; refine W_region rfl ?_
        refine Wo rfl (opv_fieldAddr Tryz.underlying75 rfl rfl Tryz.sizeOf3 rfl) ?_; refine Wo (v := .int _ _) rfl (opv_load Tryz.isAgg3 rfl ((hB1.ext E2).cell rfl)) ?_; refine Wo rfl (opv_eql rfl rfl) ?_
        refine Wo_split_dec rfl (opv_move (v := .bool _) rfl) (fun h2 => ?_) (fun h2 => ?_); contradiction; refine Wo_skip rfl ?_; refine Wo rfl (opv_pick_f (v := .bool _) rfl rfl) ?_; refine Wo rfl (opv_move (v := .bool _) rfl) ?_
        refine Wo_skip rfl ?_; refine Wo_skip rfl ?_; refine Wo_skip rfl ?_; refine Wo rfl (opv_pick_f (v := .bool _) rfl rfl) ?_; refine Wo rfl (opv_assign (v := .bool _) rfl) ?_; refine Wo_nil ?_; refine W_cond_false rfl ?_
        refine W_seq ?_; refine W_region rfl ?_; refine Wo rfl (opv_fieldAddr Tryz.underlying75 rfl rfl Tryz.sizeOf3 rfl) ?_; refine Wo (v := .int _ _) rfl (opv_load Tryz.isAgg3 rfl ((hB1.ext E2).cell rfl)) ?_
        refine Wo rfl (opv_eql rfl rfl) ?_; refine Wo_split_dec rfl (opv_move (v := .bool _) rfl) (fun h3 => ?_) (fun h3 => ?_); contradiction; refine Wo_skip rfl ?_; refine Wo rfl (opv_pick_f (v := .bool _) rfl rfl) ?_
        refine Wo rfl (opv_move (v := .bool _) rfl) ?_; refine Wo_skip rfl ?_; refine Wo_skip rfl ?_; refine Wo_skip rfl ?_; refine Wo rfl (opv_pick_f (v := .bool _) rfl rfl) ?_; refine Wo rfl (opv_assign (v := .bool _) rfl) ?_
        refine Wo_nil ?_; refine W_cond_false rfl ?_; refine W_seq ?_; refine W_draw mixed (by kernel_rfl) rfl ?_; refine Wq_o rfl (fun _ _ => opv_fieldAddr Tryz.underlying75 rfl rfl Tryz.sizeOf3 rfl) ?_
        refine Wq_o (v := .int _ _) rfl (fun w' hw' => opv_load Tryz.isAgg3 rfl (((hB1.ext E2).ext hw').cell rfl)) ?_; refine Wq_o rfl (fun _ _ => opv_eql rfl rfl) ?_
        refine Wq_split_dec rfl (fun _ _ => opv_move (v := .bool _) rfl) (fun h4 => ?_) (fun h4 => ?_); refine Wq_o rfl (fun _ _ => opv_fieldAddr Tryz.underlying75 rfl rfl Tryz.sizeOf9 rfl) ?_
        refine Wq_o (v := .string _) rfl (fun w' hw' => opv_load Tryz.isAgg9 rfl (((hB1.ext E2).ext hw').cell rfl)) ?_; refine Wq_o rfl (fun _ _ => opv_eql_str rfl rfl) ?_; refine Wq_o rfl (fun _ _ => opv_pick_t (v := .bool _) rfl rfl) ?_
        refine Wq_split_dec rfl (fun _ _ => opv_move (v := .bool _) rfl) (fun h5 => ?_) (fun h5 => ?_); contradiction; refine Wq_skip rfl ?_; refine Wq_skip rfl ?_; refine Wq_skip rfl ?_; refine Wq_skip rfl ?_; refine Wq_skip rfl ?_
        refine Wq_skip rfl ?_; refine Wq_o rfl (fun _ _ => opv_pick_f (v := .bool _) rfl rfl) ?_; refine Wq_o rfl (fun _ _ => opv_move (v := .bool _) rfl) ?_; refine Wq_skip rfl ?_; refine Wq_skip rfl ?_; refine Wq_skip rfl ?_
        refine Wq_skip rfl ?_; refine Wq_skip rfl ?_; refine Wq_skip rfl ?_; refine Wq_skip rfl ?_; refine Wq_skip rfl ?_; refine Wq_o rfl (fun _ _ => opv_pick_f (v := .bool _) rfl rfl) ?_
        refine Wq_o rfl (fun _ _ => opv_assign (v := .bool _) rfl) ?_; refine Wq_nil (fun w3 E3 => ?_); have hs3 := E3.size; refine W_cond_false rfl ?_; refine W_skip ?_; refine W_seq ?_; refine W_region rfl ?_
        refine Wo_lit0 (XSl 3 XInt) rfl el22 Tryz.sizeOf58 ?_; rintro b2 w4 hb2 b2lt E4 hO2; have hs4 := E4.size; refine Wo rfl (opv_assign (v := .slice _ _ _) rfl) ?_; refine Wo rfl (opv_assign (v := .bool _) rfl) ?_; refine Wo_nil ?_
        refine W_ret ?_; refine at_ret (v := .tuple #[.slice _ _ _, .bool _]) rfl ?_; exact ⟨_, rfl, (((E1.trans E2).trans E3).trans E4), hO2.toB.o.mono (by omega)⟩; contradiction
  have hm : M = none := hM.trans (by simp only [madeV]; rw [if_neg (fun h => e0 h.1), if_neg (fun h => e1 h.1), if_neg (fun h => e2 h.1), if_neg (fun h => e3 h.1)])
  rw [hm, show og none = [] from rfl, show (none : Option (List (List Int))).isSome = false from rfl]
  focus
    refine W_seq ?_; refine W_region rfl ?_; refine Wo_box rfl rfl rfl ?_; rintro b1 w1 hb1 E1 hB1; have hlb1 := hB1.lt; have hs1 := E1.size; refine Wo rfl (opv_assign (v := .slice _ _ _) rfl) ?_
    refine Wo rfl (opv_assign (v := .bool _) rfl) ?_; refine Wo_nil ?_; refine W_seq ?_; refine W_region rfl ?_; refine Wo rfl (opv_fieldAddr Tryz.underlying75 rfl rfl Tryz.sizeOf9 rfl) ?_
    refine Wo (v := .string _) rfl (opv_load Tryz.isAgg9 rfl (hB1.cell rfl)) ?_; refine Wo_call rfl (opc1 (a := .string _) Tryz.call95 rfl) (k0 _) ?_; rintro _ w2 ⟨u1, rfl, E2, hO1⟩; have hs2 := E2.size
    refine Wo rfl (opv_move (v := .tuple _) rfl) ?_; refine Wo rfl (opv_extract (v := u1) rfl rfl) ?_; refine Wo rfl (opv_extract (v := .bool _) rfl rfl) ?_; refine Wo rfl (opv_assign (v := u1) rfl) ?_
    refine Wo rfl (opv_assign (v := .bool _) rfl) ?_; refine Wo_nil ?_; refine W_seq ?_; refine W_block ?_; refine W_seq ?_; refine W_region rfl ?_; refine Wo rfl (opv_fieldAddr Tryz.underlying75 rfl rfl Tryz.sizeOf3 rfl) ?_
    refine Wo (v := .int _ _) rfl (opv_load Tryz.isAgg3 rfl ((hB1.ext E2).cell rfl)) ?_; refine Wo rfl (opv_eql rfl rfl) ?_; refine Wo_split_dec rfl (opv_move (v := .bool _) rfl) (fun h1 => ?_) (fun h1 => ?_); contradiction
    refine Wo_skip rfl ?_; refine Wo_skip rfl ?_; refine Wo_skip rfl ?_; refine Wo rfl (opv_pick_f (v := .bool _) rfl rfl) ?_; refine Wo rfl (opv_move (v := .bool _) rfl) ?_; refine Wo_skip rfl ?_; refine Wo_skip rfl ?_
    refine Wo_skip rfl ?_; refine Wo rfl (opv_pick_f (v := .bool _) rfl rfl) ?_; refine Wo rfl (opv_assign (v := .bool _) rfl) ?_; refine Wo_nil ?_; refine W_cond_false rfl ?_; refine W_seq ?_; refine W_region rfl ?_
    refine Wo rfl (opv_fieldAddr Tryz.underlying75 rfl rfl Tryz.sizeOf3 rfl) ?_; refine Wo (v := .int _ _) rfl (opv_load Tryz.isAgg3 rfl ((hB1.ext E2).cell rfl)) ?_; refine Wo rfl (opv_eql rfl rfl) ?_
    refine Wo_split_dec rfl (opv_move (v := .bool _) rfl) (fun h2 => ?_) (fun h2 => ?_); contradiction; refine Wo_skip rfl ?_; refine Wo rfl (opv_pick_f (v := .bool _) rfl rfl) ?_; refine Wo rfl (opv_move (v := .bool _) rfl) ?_
    refine Wo_skip rfl ?_; refine Wo_skip rfl ?_; refine Wo_skip rfl ?_; refine Wo rfl (opv_pick_f (v := .bool _) rfl rfl) ?_; refine Wo rfl (opv_assign (v := .bool _) rfl) ?_; refine Wo_nil ?_; refine W_cond_false rfl ?_
    refine W_seq ?_; refine W_region rfl ?_; refine Wo rfl (opv_fieldAddr Tryz.underlying75 rfl rfl Tryz.sizeOf3 rfl) ?_; refine Wo (v := .int _ _) rfl (opv_load Tryz.isAgg3 rfl ((hB1.ext E2).cell rfl)) ?_
    refine Wo rfl (opv_eql rfl rfl) ?_; refine Wo_split_dec rfl (opv_move (v := .bool _) rfl) (fun h3 => ?_) (fun h3 => ?_); contradiction; refine Wo_skip rfl ?_; refine Wo rfl (opv_pick_f (v := .bool _) rfl rfl) ?_
    refine Wo rfl (opv_move (v := .bool _) rfl) ?_; refine Wo_skip rfl ?_; refine Wo_skip rfl ?_; refine Wo_skip rfl ?_; refine Wo rfl (opv_pick_f (v := .bool _) rfl rfl) ?_; refine Wo rfl (opv_assign (v := .bool _) rfl) ?_
    refine Wo_nil ?_; refine W_cond_false rfl ?_; refine W_seq ?_; refine W_draw mixed (by kernel_rfl) rfl ?_; refine Wq_o rfl (fun _ _ => opv_fieldAddr Tryz.underlying75 rfl rfl Tryz.sizeOf3 rfl) ?_
    refine Wq_o (v := .int _ _) rfl (fun w' hw' => opv_load Tryz.isAgg3 rfl (((hB1.ext E2).ext hw').cell rfl)) ?_; refine Wq_o rfl (fun _ _ => opv_eql rfl rfl) ?_
    refine Wq_split_dec rfl (fun _ _ => opv_move (v := .bool _) rfl) (fun h4 => ?_) (fun h4 => ?_); contradiction; refine Wq_skip rfl ?_; refine Wq_skip rfl ?_; refine Wq_skip rfl ?_
    refine Wq_o rfl (fun _ _ => opv_pick_f (v := .bool _) rfl rfl) ?_; refine Wq_o rfl (fun _ _ => opv_move (v := .bool _) rfl) ?_; refine Wq_skip rfl ?_; refine Wq_skip rfl ?_; refine Wq_skip rfl ?_; refine Wq_skip rfl ?_
    refine Wq_skip rfl ?_; refine Wq_skip rfl ?_; refine Wq_o rfl (fun _ _ => opv_pick_f (v := .bool _) rfl rfl) ?_; refine Wq_o rfl (fun _ _ => opv_move (v := .bool _) rfl) ?_; refine Wq_skip rfl ?_; refine Wq_skip rfl ?_
    refine Wq_skip rfl ?_; refine Wq_skip rfl ?_; refine Wq_skip rfl ?_; refine Wq_skip rfl ?_; refine Wq_skip rfl ?_; refine Wq_skip rfl ?_; refine Wq_o rfl (fun _ _ => opv_pick_f (v := .bool _) rfl rfl) ?_
    refine Wq_o rfl (fun _ _ => opv_assign (v := .bool _) rfl) ?_; refine Wq_nil (fun w3 E3 => ?_); have hs3 := E3.size; refine W_cond_false rfl ?_; refine W_skip ?_; refine W_seq ?_; refine W_region rfl ?_
    refine Wo_lit0 (XSl 3 XInt) rfl el22 Tryz.sizeOf58 ?_; rintro b2 w4 hb2 b2lt E4 hO2; have hs4 := E4.size; refine Wo rfl (opv_assign (v := .slice _ _ _) rfl) ?_; refine Wo rfl (opv_assign (v := .bool _) rfl) ?_; refine Wo_nil ?_
    refine W_ret ?_; refine at_ret (v := .tuple #[.slice _ _ _, .bool _]) rfl ?_; exact ⟨_, rfl, (((E1.trans E2).trans E3).trans E4), hO2.toB.o.mono (by omega)⟩

end Go.Proofs.YtgphoihilheoeaaGreatDoor
namespace Go.Proofs.YtgphoihilheoeaaGreatDoor
open Go.Hs
set_option maxRecDepth 10000
set_option maxHeartbeats 4000000
set_option linter.unusedVariables false
set_option linter.unusedSimpArgs false

end Go.Proofs.YtgphoihilheoeaaGreatDoor
namespace Go.Proofs.YtgphoihilheoeaaGreatDoor
open Go.Hs
set_option maxRecDepth 10000
set_option maxHeartbeats 4000000
set_option linter.unusedVariables false
set_option linter.unusedSimpArgs false

theorem Twin_ok {w0 : World} (w : World) {br m : Nat} (n : Int) (hr : Rdr w0 w br m) (hm : m ≤ 10000000) (hn : 0 ≤ n ∧ n ≤ 1000) :
    Does Tryz.prog 61 [.pointer (some ⟨br, 0, none⟩), .int .i64 n] w (RetDO w0 w br (m + 63) XR (fun p => p.length ≤ 5 ∧ ∀ r ∈ p, r.length ≤ 6)) := by
  refine fn_of_W1 Tryz.func61 rfl Tryz.results61 Tryz.ntmps61 rfl ?_
  have hG : w.grownBy w (some br) := grownBy_refl _ _
  have hlr := hr.lt
  have hgr := hr.ge
  have E0 := hr.old
  focus
    have szE0 := E0.size; refine W_seq ?_; refine W_region rfl ?_; refine Wo rfl (opv_assign (v := .slice _ _ _) rfl) ?_; refine Wo_nil ?_; refine W_seq ?_; refine W_region rfl ?_; refine Wo rfl (opv_move (v := .pointer _) rfl) ?_
    refine Wo rfl (opv_move (v := .int _ _) rfl) ?_; refine Wo_call rfl (opc2 (a := .pointer _) (b := .int _ _) Tryz.call45 rfl rfl) (Picture_ok _ _ (by assumption) (by omega) (by assumption)) ?_; rintro u1 w1 ⟨E1, hr1, x1, hO1, hy1⟩
    (try dsimp only at hy1); have hlhr1 := hr1.lt; have Ehr1 := hr1.old; have hG := grownBy_trans hG E1; have hs1 := E1.size; refine Wo rfl (opv_assign (v := u1) rfl) ?_; refine Wo_nil ?_; refine W_seq ?_; refine W_seq ?_
    refine W_region rfl ?_; refine Wo rfl (opv_move (v := u1) rfl) ?_
  by_cases hp : Pic x1
  · have hk : ∀ w u, ESl Ints w u x1 → Does Tryz.prog 52 [u] w (Ret w (.bool true)) := fun w u h => by
      have := PictureOk_ok w u x1 h
      rw [decide_eq_true hp] at this; exact this
    focus
      have szEhr1 := Ehr1.size; have szE0 := E0.size; refine Wo_call rfl (opc1 (a := u1) Tryz.call52 rfl) (hk _ _ ((Owned.read hO1))) ?_; rintro _ w2 ⟨rfl, E2⟩; have hr1 := hr1.ext E2; have hG := grownBy_ext hG E2; have hs2 := E2.size
      refine Wo rfl (opv_move (v := .bool _) rfl) ?_; refine Wo rfl (opv_move (v := u1) rfl) ?_; refine Wo rfl (opv_len Tryz.underlying22 rfl (Owned.read hO1)) ?_; refine Wo rfl (opv_gtr rfl rfl) ?_
      refine Wo rfl (opv_pick_t (v := .bool _) rfl rfl) ?_; refine Wo_split_dec rfl (opv_move (v := .bool _) rfl) (fun h1 => ?_) (fun h1 => ?_); refine Wo rfl (opv_move (v := .pointer _) rfl) ?_
      refine Wo_call rfl (opc2 (a := .pointer _) (b := .int _ _) Tryz.call46 rfl rfl) (pick_ok _ _ (by assumption) (by omega)) ?_; rintro _ w3 ⟨y1, rfl, E3, hr2, hy2⟩; (try dsimp only at hy2); have hlhr2 := hr2.lt; have Ehr2 := hr2.old
      have hO1 := (hO1.toB.ext E2).grown E3 (by omega); have hG := grownBy_trans hG E3; have hs3 := E3.size; refine Wo rfl (opv_eql rfl rfl) ?_; refine Wo rfl (opv_pick_t (v := .bool _) rfl rfl) ?_; refine Wo_nil ?_
      refine W_cond_dec rfl (fun h2 => ?_) (fun h2 => ?_); refine W_seq ?_; refine W_region rfl ?_; refine Wo rfl (opv_move (v := .pointer _) rfl) ?_; refine Wo rfl (opv_move (v := u1) rfl) ?_
      refine Wo rfl (opv_len Tryz.underlying22 rfl (OwnedB.read hO1)) ?_; refine Wo_call rfl (opc2 (a := .pointer _) (b := .int _ _) Tryz.call46 rfl rfl) (pick_ok _ _ (by assumption) (by omega)) ?_; rintro _ w4 ⟨y2, rfl, E4, hr3, hy3⟩
      (try dsimp only at hy3); have hlhr3 := hr3.lt; have Ehr3 := hr3.old; have hO1 := hO1.grown E4 (by omega); have hG := grownBy_trans hG E4; have hs4 := E4.size; refine Wo rfl (opv_assign (v := .int _ _) rfl) ?_; refine Wo_nil ?_
      refine W_seq ?_; refine W_region rfl ?_; refine Wo rfl (opv_move (v := .pointer _) rfl) ?_; refine Wo rfl (opv_move (v := u1) rfl) ?_; refine Wo rfl (opv_len Tryz.underlying22 rfl (OwnedB.read hO1)) ?_
      refine Wo_call rfl (opc2 (a := .pointer _) (b := .int _ _) Tryz.call46 rfl rfl) (pick_ok _ _ (by assumption) (by omega)) ?_; rintro _ w5 ⟨y3, rfl, E5, hr4, hy4⟩; (try dsimp only at hy4); have hlhr4 := hr4.lt; have Ehr4 := hr4.old
      have hO1 := hO1.grown E5 (by omega); have hG := grownBy_trans hG E5; have hs5 := E5.size; refine Wo rfl (opv_assign (v := .int _ _) rfl) ?_; refine Wo_nil ?_; refine W_seq ?_; refine W_region rfl ?_
      refine Wo rfl (opv_assign (v := .int _ _) rfl) ?_; refine Wo_nil ?_; refine W_block ?_; rotate_left; refine W_skip ?_; refine W_seq ?_; refine W_region rfl ?_; refine Wo rfl (opv_move (v := u1) rfl) ?_
      refine Wo rfl (opv_assign (v := u1) rfl) ?_; refine Wo_nil ?_; refine W_ret ?_; refine at_ret (v := u1) rfl ?_; rotate_left; refine Wo_skip rfl ?_; refine Wo_skip rfl ?_; refine Wo_skip rfl ?_
      refine Wo rfl (opv_pick_f (v := .bool _) rfl rfl) ?_; refine Wo_nil ?_; refine W_cond_false rfl ?_; refine W_skip ?_; refine W_seq ?_; refine W_region rfl ?_; refine Wo rfl (opv_move (v := u1) rfl) ?_
      refine Wo rfl (opv_assign (v := u1) rfl) ?_; refine Wo_nil ?_; refine W_ret ?_; refine at_ret (v := u1) rfl ?_; rotate_left
    · have hy3' := hy3 (by omega)
      have hy4' := hy4 (by omega)
      have hlen : ∀ r ∈ x1, r.length = x1.length := fun r hr => (hp.2.2 r hr).1
      clear hp hk
      refine W_loop [8, 32, 33, 34, 35, 36, 37, 38, 39, 40, 41, 42, 43, 44, 45, 46, 47, 48, 49, 50] (fun (j, rows) => [(8, .int .i64 (j : Nat))]) (fun (j, rows) w' => w.grownBy w' (some br) ∧ Rdr w0 w' br (m + 63) ∧ j ≤ x1.length ∧ Owned w.heap.size XR w' u1 rows ∧ rows.length = x1.length ∧ ∀ r ∈ rows, r.length = x1.length) (fun x => x1.length - x.1) (0, x1) (by repeat (first | exact trivial | refine And.intro rfl ?_)) ?_ ?_
      · exact ⟨hG, hr4, Nat.zero_le _, hO1.o, rfl, hlen⟩
      rintro ⟨j, rows⟩ ρj w6 ⟨hG6, hr6, hj, hO6, hrl, hrr⟩
      have E6 := hr6.old
      have hg6 := hG6.size
      by_cases hlt : j < x1.length
      · obtain ⟨ub, uc, rfl, _⟩ := hO6.lit (by omega)
        have hub := hO6.lt_own (k := ub) rfl
        have hrb := hrr rows[y3] (List.getElem_mem (by omega))
        have hra := hrr rows[y2] (List.getElem_mem (by omega))
        have hset : ∀ r' : List Int, r'.length = x1.length → ∀ r ∈ rows.set y3 r', r.length = x1.length := by
          intro r' h9 r hr9
          rcases List.mem_or_eq_of_mem_set hr9 with h | h
          · exact hrr r h
          · rw [h]; exact h9
        focus
          have szE6 := E6.size; have szEhr4 := Ehr4.size; have szEhr3 := Ehr3.size; have szEhr2 := Ehr2.size; have szE2 := E2.size; have szEhr1 := Ehr1.size; have szE0 := E0.size; refine W_seq ?_; refine W_seq ?_; refine W_region rfl ?_
          refine Wo rfl (opv_move (v := .int _ _) rfl) ?_; refine Wo rfl (opv_move (v := .slice _ _ _) rfl) ?_; refine Wo rfl (opv_len Tryz.underlying22 rfl (Owned.read hO6)) ?_; refine Wo rfl (opv_lss rfl rfl) ?_; refine Wo_nil ?_
          refine W_cond_dec rfl (fun h3 => ?_) (fun h3 => ?_); refine W_skip ?_; refine W_seq ?_; refine W_block ?_; refine W_held (fun _ => True) mixed rfl (by kernel_rfl) ?_; intro w7 E7 K1 hz1; have hG6 := grownBy_ext hG6 E7
          have hr6 := hr6.ext E7; have hs6 := E7.size; refine Wh_take 0 rfl (by kernel_rfl) (by kernel_rfl) rfl (fun _ _ => opv_move (v := .slice _ _ _) rfl) trivial ?_
          refine Wh_take 1 rfl (by kernel_rfl) (by kernel_rfl) rfl (fun _ _ => opv_move (v := .int _ _) rfl) trivial ?_
          refine Wh_take 2 rfl (by kernel_rfl) (by kernel_rfl) rfl (fun _ _ => opv_indexAddr Tryz.underlying22 Tryz.sizeOf58 rfl rfl (by omega)) trivial ?_
          refine Wh_take 4 rfl (by kernel_rfl) (by kernel_rfl) rfl (fun _ _ => opv_move (v := .int _ _) rfl) trivial ?_; refine Wh_take 5 rfl (by kernel_rfl) (by kernel_rfl) rfl (fun _ _ => opv_move (v := .slice _ _ _) rfl) trivial ?_
          refine Wh_take 6 rfl (by kernel_rfl) (by kernel_rfl) rfl (fun _ _ => opv_move (v := .int _ _) rfl) trivial ?_
          refine Wh_take 7 rfl (by kernel_rfl) (by kernel_rfl) rfl (fun _ _ => opv_indexAddr Tryz.underlying22 Tryz.sizeOf58 rfl rfl (by omega)) trivial ?_
          refine Wh_take 9 rfl (by kernel_rfl) (by kernel_rfl) rfl (fun _ _ => opv_move (v := .int _ _) rfl) trivial ?_; refine Wh_all (rs := [3, 8]) (by kernel_rfl) rfl ?_; refine WhAll_cons rfl ?_ ?_; rotate_left
          refine WhAll_cons rfl ?_ ?_; rotate_left; exact WhAll_nil; (exfalso; omega)
        all_goals
          have hO7 := hO6.ext E7
          obtain ⟨bra, cra, hRa, ha1, ha2, ha3, ha4⟩ := rowCell hO7 (i := y2) (j := j) (by omega) (by omega)
          obtain ⟨brb, crb, hRb, hb1, hb2, hb3, hb4⟩ := rowCell hO7 (i := y3) (j := j) (by omega) (by omega)
        · focus
            have szE7 := E7.size; have szE6 := E6.size; have szEhr4 := Ehr4.size; have szEhr3 := Ehr3.size; have szEhr2 := Ehr2.size; have szE2 := E2.size; have szEhr1 := Ehr1.size; have szE0 := E0.size
            refine Wo rfl (opv_load Tryz.isAgg58 rfl (by assumption)) ?_; refine Wo_nil ?_; refine ⟨trivial, ?_⟩; refine Wh_all (rs := [8]) (by kernel_rfl) rfl ?_; refine WhAll_cons rfl ?_ ?_
            refine Wo rfl (opv_load Tryz.isAgg58 rfl (by assumption)) ?_; refine Wo_nil ?_; refine ⟨trivial, ?_⟩
            refine Wh_take 10 rfl (by kernel_rfl) (by kernel_rfl) rfl (fun _ _ => opv_indexAddr Tryz.underlying58 Tryz.sizeOf3 rfl rfl (by omega)) trivial ?_; refine Wh_all (rs := [11]) (by kernel_rfl) rfl ?_; refine WhAll_cons rfl ?_ ?_
            refine Wo rfl (opv_load Tryz.isAgg3 rfl (by assumption)) ?_; refine Wo_nil ?_; refine ⟨trivial, ?_⟩
            refine Wh_take 12 rfl (by kernel_rfl) (by kernel_rfl) rfl (fun _ _ => opv_indexAddr Tryz.underlying58 Tryz.sizeOf3 rfl rfl (by omega)) trivial ?_; refine Wh_all (rs := [13]) (by kernel_rfl) rfl ?_; refine WhAll_cons rfl ?_ ?_
            refine Wo_gset rfl Tryz.sizeOf3 rfl rfl (hO6.toB.ext E7) hRb (by first | omega | (simp <;> omega)) (by first | omega | (simp <;> omega)) ?_; rintro w8 hO6 hRb On1 K2 hz2; have E8 := On1.ext1 (E6.trans E7) (by omega)
            have hG6 := grownBy_wrote hG6 (E6.trans E7) E8 K2 hz2 (by first | exact .inr rfl | omega); have hr6 := hr6.wrote E8 (K2 _ (by omega)) hz2; have hs7 := On1.size; refine Wo_nil ?_; refine ⟨trivial, ?_⟩
            refine Wh_done (by kernel_rfl) ?_; refine W_region rfl ?_; refine Wo rfl (opv_move (v := .int _ _) rfl) ?_; refine Wo rfl (opv_add rfl rfl (by omega)) ?_; refine Wo rfl (opv_assign (v := .int _ _) rfl) ?_; refine Wo_nil ?_
            rotate_left; exact WhAll_nil; exact WhAll_nil; exact WhAll_nil
          refine ⟨((j + 1, rows.set y3 (rows[y3].set j rows[y2][j]))), by repeat (first | exact trivial | refine And.intro rfl ?_), by repeat (first | with_reducible exact Same.refl | refine Same.upd rfl ?_ | refine Same.upds rfl ?_ | refine Same.mix rfl ?_), ?_, ?_⟩
          · exact ⟨hG6, hr6, by omega, hO6, by simp [hrl], hset _ (by simp [hrb])⟩
          · simp only; omega
        · focus
            have szE7 := E7.size; have szE6 := E6.size; have szEhr4 := Ehr4.size; have szEhr3 := Ehr3.size; have szEhr2 := Ehr2.size; have szE2 := E2.size; have szEhr1 := Ehr1.size; have szE0 := E0.size
            refine Wo rfl (opv_load Tryz.isAgg58 rfl (by assumption)) ?_; refine Wo_nil ?_; refine ⟨trivial, ?_⟩
            refine Wh_take 10 rfl (by kernel_rfl) (by kernel_rfl) rfl (fun _ _ => opv_indexAddr Tryz.underlying58 Tryz.sizeOf3 rfl rfl (by omega)) trivial ?_; refine Wh_all (rs := [3, 11]) (by kernel_rfl) rfl ?_; refine WhAll_cons rfl ?_ ?_
            refine Wo rfl (opv_load Tryz.isAgg58 rfl (by assumption)) ?_; refine Wo_nil ?_; refine ⟨trivial, ?_⟩; refine Wh_all (rs := [11]) (by kernel_rfl) rfl ?_; refine WhAll_cons rfl ?_ ?_
            refine Wo rfl (opv_load Tryz.isAgg3 rfl (by assumption)) ?_; refine Wo_nil ?_; refine ⟨trivial, ?_⟩
            refine Wh_take 12 rfl (by kernel_rfl) (by kernel_rfl) rfl (fun _ _ => opv_indexAddr Tryz.underlying58 Tryz.sizeOf3 rfl rfl (by omega)) trivial ?_; refine Wh_all (rs := [13]) (by kernel_rfl) rfl ?_; refine WhAll_cons rfl ?_ ?_
            refine Wo_gset rfl Tryz.sizeOf3 rfl rfl (hO6.toB.ext E7) hRb (by first | omega | (simp <;> omega)) (by first | omega | (simp <;> omega)) ?_; rintro w8 hO6 hRb On1 K2 hz2; have E8 := On1.ext1 (E6.trans E7) (by omega)
            have hG6 := grownBy_wrote hG6 (E6.trans E7) E8 K2 hz2 (by first | exact .inr rfl | omega); have hr6 := hr6.wrote E8 (K2 _ (by omega)) hz2; have hs7 := On1.size; refine Wo_nil ?_; refine ⟨trivial, ?_⟩
            refine Wh_done (by kernel_rfl) ?_; refine W_region rfl ?_; refine Wo rfl (opv_move (v := .int _ _) rfl) ?_; refine Wo rfl (opv_add rfl rfl (by omega)) ?_; refine Wo rfl (opv_assign (v := .int _ _) rfl) ?_; refine Wo_nil ?_
            rotate_left; exact WhAll_nil; exact WhAll_nil; refine WhAll_cons rfl ?_ ?_; refine Wo rfl (opv_load Tryz.isAgg3 rfl (by assumption)) ?_; refine Wo_nil ?_; refine ⟨trivial, ?_⟩; refine Wh_all (rs := [3]) (by kernel_rfl) rfl ?_
            refine WhAll_cons rfl ?_ ?_; refine Wo rfl (opv_load Tryz.isAgg58 rfl (by assumption)) ?_; refine Wo_nil ?_; refine ⟨trivial, ?_⟩
            refine Wh_take 12 rfl (by kernel_rfl) (by kernel_rfl) rfl (fun _ _ => opv_indexAddr Tryz.underlying58 Tryz.sizeOf3 rfl rfl (by omega)) trivial ?_; refine Wh_all (rs := [13]) (by kernel_rfl) rfl ?_; refine WhAll_cons rfl ?_ ?_
            refine Wo_gset rfl Tryz.sizeOf3 rfl rfl (hO6.toB.ext E7) hRb (by first | omega | (simp <;> omega)) (by first | omega | (simp <;> omega)) ?_; rintro w8 hO6 hRb On1 K2 hz2; have E8 := On1.ext1 (E6.trans E7) (by omega)
            have hG6 := grownBy_wrote hG6 (E6.trans E7) E8 K2 hz2 (by first | exact .inr rfl | omega); have hr6 := hr6.wrote E8 (K2 _ (by omega)) hz2; have hs7 := On1.size; refine Wo_nil ?_; refine ⟨trivial, ?_⟩
            refine Wh_done (by kernel_rfl) ?_; refine W_region rfl ?_; refine Wo rfl (opv_move (v := .int _ _) rfl) ?_; refine Wo rfl (opv_add rfl rfl (by omega)) ?_; refine Wo rfl (opv_assign (v := .int _ _) rfl) ?_; refine Wo_nil ?_
            rotate_left; exact WhAll_nil; exact WhAll_nil; exact WhAll_nil
          · refine ⟨((j + 1, rows.set y3 (rows[y3].set j rows[y2][j]))), by repeat (first | exact trivial | refine And.intro rfl ?_), by repeat (first | with_reducible exact Same.refl | refine Same.upd rfl ?_ | refine Same.upds rfl ?_ | refine Same.mix rfl ?_), ?_, ?_⟩
            · exact ⟨hG6, hr6, by omega, hO6, by simp [hrl], hset _ (by simp [hrb])⟩
            · simp only; omega
          · refine ⟨((j + 1, rows.set y3 (rows[y3].set j rows[y2][j]))), by repeat (first | exact trivial | refine And.intro rfl ?_), by repeat (first | with_reducible exact Same.refl | refine Same.upd rfl ?_ | refine Same.upds rfl ?_ | refine Same.mix rfl ?_), ?_, ?_⟩
            · exact ⟨hG6, hr6, by omega, hO6, by simp [hrl], hset _ (by simp [hrb])⟩
            · simp only; omega
      · obtain rfl : j = x1.length := by omega
        focus
          have szE6 := E6.size; have szEhr4 := Ehr4.size; have szEhr3 := Ehr3.size; have szEhr2 := Ehr2.size; have szE2 := E2.size; have szEhr1 := Ehr1.size; have szE0 := E0.size; refine W_seq ?_; refine W_seq ?_; refine W_region rfl ?_
          refine Wo rfl (opv_move (v := .int _ _) rfl) ?_; refine Wo rfl (opv_move (v := u1) rfl) ?_; refine Wo rfl (opv_len Tryz.underlying22 rfl (Owned.read hO6)) ?_; refine Wo rfl (opv_lss rfl rfl) ?_; refine Wo_nil ?_
          refine W_cond_dec rfl (fun h3 => ?_) (fun h3 => ?_); (exfalso; omega); refine W_exit ?_; refine exitX_same ?_; refine W_seq ?_; refine W_region rfl ?_; refine Wo rfl (opv_move (v := u1) rfl) ?_
          refine Wo rfl (opv_assign (v := u1) rfl) ?_; refine Wo_nil ?_; refine W_ret ?_; refine at_ret (v := u1) rfl ?_
        exact ⟨hG6, hr6, _, hO6, by omega, fun r h => by have := hrr r h; omega⟩
    · exact ⟨hG, hr2.le (by omega), _, hO1.o, hy1⟩
    · exact ⟨hG, hr1.le (by omega), _, hO1.ext E2, hy1⟩
  · have hk : ∀ w u, ESl Ints w u x1 → Does Tryz.prog 52 [u] w (Ret w (.bool false)) := fun w u h => by
      have := PictureOk_ok w u x1 h
      rw [decide_eq_false hp] at this; exact this
    focus
      have szEhr1 := Ehr1.size; have szE0 := E0.size; refine Wo_call rfl (opc1 (a := u1) Tryz.call52 rfl) (hk _ _ ((Owned.read hO1))) ?_; rintro _ w2 ⟨rfl, E2⟩; have hr1 := hr1.ext E2; have hG := grownBy_ext hG E2; have hs2 := E2.size
      refine Wo rfl (opv_move (v := .bool _) rfl) ?_; refine Wo_skip rfl ?_; refine Wo_skip rfl ?_; refine Wo_skip rfl ?_; refine Wo rfl (opv_pick_f (v := .bool _) rfl rfl) ?_; refine Wo rfl (opv_move (v := .bool _) rfl) ?_
      refine Wo_skip rfl ?_; refine Wo_skip rfl ?_; refine Wo_skip rfl ?_; refine Wo rfl (opv_pick_f (v := .bool _) rfl rfl) ?_; refine Wo_nil ?_; refine W_cond_false rfl ?_; refine W_skip ?_; refine W_seq ?_; refine W_region rfl ?_
      refine Wo rfl (opv_move (v := u1) rfl) ?_; refine Wo rfl (opv_assign (v := u1) rfl) ?_; refine Wo_nil ?_; refine W_ret ?_; refine at_ret (v := u1) rfl ?_
    exact ⟨hG, hr1.le (by omega), _, hO1.ext E2, hy1⟩

end Go.Proofs.YtgphoihilheoeaaGreatDoor
set_option linter.unusedVariables false
set_option linter.unusedSimpArgs false
namespace Go.Hs
/-- a deed drawn -/
def RetDD (w0 w : World) (br m : Nat) (p : Deed → Prop) : Value → World → Prop := fun v w' => ∃ k t n, v = .agg #[.int .i64 k, str t, .int .i64 n] ∧ w.grownBy w' (some br) ∧ Rdr w0 w' br m ∧ p ⟨k, t, n⟩
/-- a desk drawn -/
def RetDK (w0 w : World) (br m : Nat) (p : Dsk → Prop) : Value → World → Prop := fun v w' => ∃ u1 u2 now past, v = .agg #[u1, u2] ∧ w.grownBy w' (some br) ∧ Rdr w0 w' br m ∧ Above w.heap.size (ESl Ints) w' u1 now ∧ Above w.heap.size (ESl (ESl Ints)) w' u2 past ∧ isCell u1 = true ∧ isCell u2 = true ∧ w.heap.size < w'.heap.size ∧ p ⟨now, past⟩
/-- It reads, by these blocks alone: as if they were its own. -/
def XRd {α : Type} (E : World → Value → α → Prop) : World → List Nat → Value → α → Prop := fun w fp v x => (∀ w1, (∀ k ∈ fp, w1.heap[k]? = w.heap[k]?) → E w1 v x) ∧ isCell v = true ∧ ∀ k ∈ fp, k < w.heap.size
instance loc_XRd {α : Type} {E : World → Value → α → Prop} : Loc (XRd E) := ⟨fun {w w' fp v x} hk h => ⟨fun w1 h1 => h.1 w1 fun k hm => (h1 k hm).trans (hk k hm), h.2.1, fun k hm => by
    have h1 := hk k hm
    have h2 := h.2.2 k hm
    rw [Array.getElem?_eq_getElem h2] at h1
    exact (Array.getElem?_eq_some_iff.1 h1).1⟩, fun h => h.2.2, fun h => h.2.1⟩
instance shows_XRd {α : Type} {E : World → Value → α → Prop} : Shows (XRd E) E := ⟨fun h => h.1 _ fun _ _ => rfl⟩
theorem Above.xrd {α : Type} {E : World → Value → α → Prop} {w : World} {v : Value} {x : α} {lo : Nat} (h : Above lo E w v x) (hl : lo < w.heap.size) (hc : isCell v = true) : OwnedB lo w.heap.size (XRd E) w v x := by
  refine ⟨List.range' lo (w.heap.size - lo), List.nodup_range', fun k hk => ?_, fun w1 h1 => ?_, hc, fun k hk => ?_⟩
  · have := List.mem_range'_1.1 hk; omega
  · refine h w1 (fun k h2 h3 => h1 k (List.mem_range'_1.2 (by omega))) ?_
    have h2 := h1 (w.heap.size - 1) (List.mem_range'_1.2 (by omega))
    rw [Array.getElem?_eq_getElem (show w.heap.size - 1 < w.heap.size by omega)] at h2
    have := (Array.getElem?_eq_some_iff.1 h2).1
    omega
  · have := List.mem_range'_1.1 hk; omega
/-- A desk and an answer, told by new blocks alone, as if owned. -/
def RetDkRB (w : World) (now : List (List Int)) (past : List (List (List Int))) (b : Bool) : Value → World → Prop := fun v w' => ∃ u1 u2, v = .tuple #[.agg #[u1, u2], .bool b] ∧ Ext w w' ∧ OwnedB w.heap.size w'.heap.size (XRd (ESl Ints)) w' u1 now ∧ OwnedB w.heap.size w'.heap.size (XRd (ESl (ESl Ints))) w' u2 past ∧ isCell u1 = true ∧ isCell u2 = true ∧ w.heap.size < w'.heap.size
theorem RetDkAB.r {w w' : World} {now : List (List Int)} {past : List (List (List Int))} {b : Bool} {v : Value} (h : RetDkAB w now past b v w') : RetDkRB w now past b v w' := by
  obtain ⟨u1, u2, rfl, h1, h2, h3, h4, h5, h6⟩ := h
  exact ⟨u1, u2, rfl, h1, h2.xrd h6 h4, h3.xrd h6 h5, h4, h5, h6⟩
theorem OwnedB.rd_above {α : Type} {E : World → Value → α → Prop} {w : World} {v : Value} {x : α} {lo hi : Nat} (h : OwnedB lo hi (XRd E) w v x) : Above lo E w v x := h.above
/-- a table of small numbers -/
def Nums : List Value → Prop
  | [] => True
  | v :: cs => (∃ z : Int, v = .int .i64 z ∧ (0 ≤ z ∧ z ≤ 9)) ∧ Nums cs
theorem Nums.at : ∀ {cs : List Value} {i : Nat}, Nums cs → i < cs.length → ∃ z : Int, cs[i]? = some (.int .i64 z) ∧ (0 ≤ z ∧ z ≤ 9)
  | [], _, _, h => by simp at h
  | v :: cs, 0, h, _ => by
    obtain ⟨z, rfl, h2⟩ := h.1
    exact ⟨z, rfl, h2⟩
  | v :: cs, i + 1, h, hi => by
    obtain ⟨z, h1, h2⟩ := Nums.at h.2 (i := i) (by simpa using hi)
    exact ⟨z, by simpa using h1, h2⟩
section
variable {P : Program} {n d i b : Nat} {N : Env → World → Prop} {ρ : Env} {w : World} {all : Array Oper} {rest : List Oper} {tl ty : TypeId} {pos : String} {after : Array Edge} {g : Option (Nat × Bool)} {x : Operand} {cs : List Value}
theorem Wo_tblI (hta : ∀ w, (isAgg tl).run P w = .ok false w) (hw : wantedE all ⟨some d, .load tl x, ty, pos, after, g⟩ ρ = true) (hx : evalE ρ x = .pointer (some ⟨b, i, none⟩))
    (hB : Blk w b cs) (hT : Nums cs) (hi : i < cs.length) (hk : ∀ z : Int, 0 ≤ z ∧ z ≤ 9 → Wops P n all rest N (upd ρ d (.int .i64 z)) w) :
    Wops P n all (⟨some d, .load tl x, ty, pos, after, g⟩ :: rest) N ρ w := by
  obtain ⟨z, h1, h2⟩ := hT.at hi
  exact Wo hw (opv_load hta hx (hB.cell h1)) (hk z h2)
end
section
variable {α : Type} {E : World → Value → α → Prop} {P : Program} {n d b o k len cap : Nat} {N : Env → World → Prop} {ρ : Env} {w : World} {all : Array Oper} {rest : List Oper} {tl ty : TypeId} {pos : String} {after : Array Edge} {g : Option (Nat × Bool)} {x : Operand} {xs : List α}
/-- an element, its address at hand -/
theorem Wo_ldAt (hta : ∀ w, (isAgg tl).run P w = .ok false w) (hw : wantedE all ⟨some d, .load tl x, ty, pos, after, g⟩ ρ = true) (hx : evalE ρ x = .pointer (some ⟨b, o + k, none⟩))
    (h : ESl E w (.slice (some ⟨b, o, none⟩) len cap) xs) (hk : k < xs.length) (hn : ∀ u, E w u xs[k] → Wops P n all rest N (upd ρ d u) w) :
    Wops P n all (⟨some d, .load tl x, ty, pos, after, g⟩ :: rest) N ρ w := by
  obtain ⟨a, c1, e1, hle, hr⟩ := h
  injection e1 with e1 e2 e3
  subst e1
  rcases hr with rfl | ⟨b', o', e4, hr⟩
  · cases hk
  · injection e4 with e4
    injection e4 with e4 e5 _
    subst e4 e5
    obtain ⟨u, h1, h2⟩ := hr k hk
    exact Wo hw (opv_load hta hx h1) (hn u h2)
end
/-- what is drawn as a desk's set -/
def NowP (p : List (List Int)) : Prop := p = [] ∨ Gr p
/-- what is drawn as a deed -/
def DrP (a : Deed) : Prop := 0 ≤ a.kind ∧ a.kind ≤ 20 ∧ a.text.length ≤ 1000 ∧ 0 ≤ a.node ∧ a.node ≤ 11
end Go.Hs
