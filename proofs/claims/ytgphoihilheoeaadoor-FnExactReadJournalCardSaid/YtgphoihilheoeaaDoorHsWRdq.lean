/- Walks: texts read as pictures, the reference's. -/
import Derived.Test.YtgphoihilheoeaaDoorHsWTxt
import Derived.Test.YtgphoihilheoeaaDoorHsRdp
import Derived.Test.YtgphoihilheoeaaDoorHsLit
import Derived.Test.YtgphoihilheoeaaDoorHsBt
namespace Go.Proofs.YtgphoihilheoeaaDoor
open Go.Hs
set_option maxRecDepth 10000
set_option maxHeartbeats 4000000
set_option linter.unusedVariables false
set_option linter.unusedSimpArgs false

theorem spec_ReadPicture_ok (w : World) (s : List UInt8) (hs : s.length ≤ 1048576) : Does Tryd.prog 41 [str s] w (RetOB w XR ((rdP s).getD []) (rdP s).isSome) := by
  obtain ⟨ps, hps⟩ : ∃ ps, ps = cutB 47 s := ⟨_, rfl⟩
  have k1 : ∀ w, Does Tryd.prog 45 [str s, .int .u8 47] w (RetO w XS ps) := fun w => hps ▸ l1Cut_ok w s 47 hs
  have hpl : ps.length ≤ 1048577 := by rw [hps, cutB_len]; have := List.count_le_length (a := (47 : UInt8)) (l := s); omega
  have hpe : ∀ (k : Nat) (hk : k < ps.length), ps[k].length ≤ 1048576 := fun k hk => by
    have : ps[k] ∈ cutB 47 s := hps ▸ List.getElem_mem hk
    have := cutB_mem_len s.length s (Nat.le_refl _) _ this; omega
  refine fn_of_W2 Tryd.func41 rfl Tryd.results41 Tryd.ntmps41 rfl ?_
  focus
    refine W_seq ?_; refine W_region rfl ?_; refine Wo rfl (opv_assign (v := .slice _ _ _) rfl) ?_; refine Wo rfl (opv_assign (v := .bool _) rfl) ?_; refine Wo_nil ?_; refine W_seq ?_; refine W_region rfl ?_
    refine Wo_lit0 (XSl 3 XInt) rfl el49 Tryd.sizeOf80 ?_; rintro b1 w1 hb1 b1lt E1 hO1; have hs1 := E1.size; refine Wo rfl (opv_assign (v := .slice _ _ _) rfl) ?_; refine Wo_nil ?_; refine W_seq ?_; refine W_region rfl ?_
    refine Wo rfl (opv_move (v := .string _) rfl) ?_; refine Wo_call rfl (opc2 (a := .string _) (b := .int _ _) Tryd.call45 rfl rfl) (k1 _) ?_; rintro u1 w2 ⟨E2, hO2⟩; have hs2 := E2.size; refine Wo rfl (opv_assign (v := u1) rfl) ?_
    refine Wo_nil ?_; refine W_seq ?_; refine W_seq ?_; refine W_region rfl ?_; refine Wo rfl (opv_assign (v := .int _ _) rfl) ?_; refine Wo_nil ?_; refine W_block ?_
  have hBe : Besides (Value.ownBlock (.slice (some ⟨b1, 0, none⟩) 0 0)) Strs w2 u1 ps := Besides.start hO1 hO2.above
  refine W_loop [2, 3, 4, 6, 7, 8, 9, 13, 14, 15, 16, 17, 18, 19, 20, 21, 22, 23, 24, 25, 26, 27, 28, 29, 30, 31, 32, 33, 34, 35, 36, 37, 38, 39, 40, 41, 42, 43, 44, 45, 46, 47, 48, 49, 50, 51, 52] (fun (k, u) => [(6, .int .i64 (k : Nat)), (4, u)]) (fun (k, u) w' => Ext w w' ∧ k ≤ ps.length ∧ Owned w.heap.size XR w' u ((ps.take k).map (rowB ps.length)) ∧ Besides u.ownBlock Strs w' u1 ps ∧ ∀ x ∈ ps.take k, inR ps.length x) (fun x => ps.length - x.1) (0, .slice (some ⟨b1, 0, none⟩) 0 0) (by repeat (first | exact trivial | refine And.intro rfl ?_)) ?_ ?_
  · exact ⟨E1.trans E2, Nat.zero_le _, hO1.ext E2, hBe, by simp⟩
  clear hO1 hO2 hBe
  rintro ⟨k, u⟩ ρj w3 ⟨E3, hk, hO3, hBe, hin⟩
  by_cases hkl : k < ps.length
  · have hpk := hpe k hkl
    focus
      have szE3 := E3.size; have szE2 := E2.size; have szE1 := E1.size; refine W_seq ?_; refine W_seq ?_; refine W_region rfl ?_; refine Wo rfl (opv_move (v := .int _ _) rfl) ?_; refine Wo rfl (opv_move (v := u1) rfl) ?_
      refine Wo rfl (opv_len Tryd.underlying65 rfl (Besides.here hBe)) ?_; refine Wo rfl (opv_lss rfl rfl) ?_; refine Wo_nil ?_; refine W_cond_dec rfl (fun h1 => ?_) (fun h1 => ?_); refine W_skip ?_; refine W_seq ?_; refine W_block ?_
      refine W_seq ?_; refine W_region rfl ?_; refine Wo rfl (opv_move (v := u1) rfl) ?_; refine Wo rfl (opv_len Tryd.underlying65 rfl (Besides.here hBe)) ?_; refine Wo_makeI rfl el80 rfl (by omega) ?_; rintro b2 w4 hb2 b2lt E4 hO1
      have hs3 := E4.size; refine Wo rfl (opv_assign (v := .slice _ _ _) rfl) ?_; refine Wo_nil ?_; refine W_seq ?_; refine W_seq ?_; refine W_region rfl ?_; refine Wo rfl (opv_assign (v := .int _ _) rfl) ?_; refine Wo_nil ?_
      refine W_block ?_; rotate_left; (exfalso; omega)
    refine W_loop [2, 3, 8, 9, 22, 23, 24, 25, 26, 27, 28, 29, 30, 31, 32, 33, 34, 35, 36, 37, 38, 39, 40, 41, 42, 43, 44, 45, 46, 47, 48] (fun (j : Nat) => [(8, .int .i64 (j : Nat))]) (fun j w' => Ext w3 w' ∧ j ≤ ps[k].length ∧ Owned w3.heap.size XI w' (.slice (some ⟨b2, 0, none⟩) ps.length ps.length) (rowB ps.length (ps[k].take j)) ∧ inR ps.length (ps[k].take j)) (fun j => ps[k].length - j) 0 (by repeat (first | exact trivial | refine And.intro rfl ?_)) ?_ ?_
    · refine ⟨by assumption, Nat.zero_le _, ?_, fun c hc => by cases hc⟩
      rw [List.take_zero, rowB_nil]
      simpa using hO1
    clear hO1
    rintro j ρk w5 ⟨E5, hj, hO5, hir⟩
    have hrl : (rowB ps.length (ps[k].take j)).length = ps.length := rowB_len
    by_cases hjl : j < ps[k].length
    · have hc8 : (ps[k].getD j 0).toNat < 256 := UInt8.toNat_lt _
      have hcd : ps[k].getD j 0 = ps[k][j] := getD_lt hjl
      have hts : ps[k].take (j + 1) = ps[k].take j ++ [ps[k].getD j 0] := by rw [hcd]; exact List.take_succ_eq_append_getElem hjl
      have hmem : ps[k] ∈ cutB 47 s := hps ▸ List.getElem_mem hkl
      have hnl : (ps.length : Int) = (cutB 47 s).length := by rw [hps]
      by_cases hr : 48 ≤ (ps[k].getD j 0).toNat ∧ (ps[k].getD j 0).toNat < 48 + ps.length
      · focus
          have szE5 := E5.size; have szE4 := E4.size; have szE3 := E3.size; have szE2 := E2.size; have szE1 := E1.size; refine W_seq ?_; refine W_seq ?_; refine W_region rfl ?_; refine Wo rfl (opv_move (v := .int _ _) rfl) ?_
          refine Wo rfl (opv_move (v := u1) rfl) ?_; refine Wo rfl (opv_move (v := .int _ _) rfl) ?_
          refine Wo_get Tryd.underlying65 Tryd.sizeOf9 Tryd.isAgg9 rfl (fun _ => rfl) rfl (Besides.here hBe) E5 rfl (by first | omega | (simp <;> omega)) ?_; rintro _ _ ⟨rfl, -⟩; refine Wo rfl (opv_len_str Tryd.underlying9 rfl) ?_
          refine Wo rfl (opv_lss rfl rfl) ?_; refine Wo_nil ?_; refine W_cond_dec rfl (fun h2 => ?_) (fun h2 => ?_); refine W_skip ?_; refine W_seq ?_; refine W_block ?_; refine W_seq ?_; refine W_region rfl ?_
          refine Wo rfl (opv_move (v := u1) rfl) ?_; refine Wo rfl (opv_move (v := .int _ _) rfl) ?_
          refine Wo_get Tryd.underlying65 Tryd.sizeOf9 Tryd.isAgg9 rfl (fun _ => rfl) rfl (Besides.here hBe) E5 rfl (by first | omega | (simp <;> omega)) ?_; rintro _ _ ⟨rfl, -⟩; refine Wo rfl (opv_move (v := .int _ _) rfl) ?_
          refine Wo rfl (opv_index_str Tryd.underlying9 rfl rfl (by omega)) ?_; refine Wo rfl (opv_conv_int Tryd.underlying5 Tryd.underlying3 rfl (by omega)) ?_; refine Wo rfl (opv_sub rfl rfl (by omega)) ?_
          refine Wo rfl (opv_assign (v := .int _ _) rfl) ?_; refine Wo_nil ?_; refine W_seq ?_; refine W_seq ?_; refine W_region rfl ?_; refine Wo rfl (opv_move (v := .int _ _) rfl) ?_; refine Wo rfl (opv_move (v := u1) rfl) ?_
          refine Wo rfl (opv_len Tryd.underlying65 rfl (Besides.here hBe)) ?_; refine Wo rfl (opv_sub rfl rfl (by omega)) ?_
          refine Wo_call rfl (opc3 (a := .int _ _) (b := .int _ _) (c := .int _ _) Tryd.call42 rfl rfl rfl) (l1In_ok _ _ _ _) ?_; rintro _ w6 ⟨rfl, E6⟩; have hs4 := E6.size; refine Wo rfl (opv_not rfl) ?_; refine Wo_nil ?_
          refine W_cond_ndec rfl (fun h3 => ?_) (fun h3 => ?_); (exfalso; omega); refine W_skip ?_; refine W_region rfl ?_; refine Wo rfl (opv_move (v := .slice _ _ _) rfl) ?_; refine Wo rfl (opv_move (v := .int _ _) rfl) ?_
          refine Wo rfl (opv_indexAddr_z Tryd.underlying80 Tryd.sizeOf3 rfl rfl (by omega)) ?_; refine Wo_set rfl Tryd.sizeOf3 rfl rfl (hO5.toB.ext E6) (by first | omega | (simp <;> omega)) Owned.int (Nat.le_refl _) (by omega) ?_
          rintro w7 hO5 On1 K1 hz1; have E7 := On1.ext1 ((E3.trans E5).trans E6) (by omega); have E8 := On1.ext1 (E5.trans E6) (by omega); have szE8 := E8.size; have hO3 := (hO3.toB.ext (E5.trans E6)).wrote K1 (by omega); have hs5 := On1.size
          refine Wo_nil ?_; refine W_region rfl ?_; refine Wo rfl (opv_move (v := .int _ _) rfl) ?_; refine Wo rfl (opv_add rfl rfl (by omega)) ?_; refine Wo rfl (opv_assign (v := .int _ _) rfl) ?_; refine Wo_nil ?_; rotate_left
          (exfalso; omega)
        · refine ⟨(j + 1), by repeat (first | exact trivial | refine And.intro rfl ?_), by repeat (first | with_reducible exact Same.refl | refine Same.upd rfl ?_ | refine Same.upds rfl ?_ | refine Same.mix rfl ?_), ?_, ?_⟩
          · refine ⟨by assumption, by omega, ?_, ?_⟩
            · rw [rowB_set (c := ps[k].getD j 0) (by omega) (by omega), ← hts] at hO5
              exact hO5
            · rw [hts]
              intro c hc
              rcases List.mem_append.1 hc with hc | hc
              · exact hir c hc
              · obtain rfl := List.mem_singleton.1 hc; exact hr
          · omega
        all_goals omega
      · rw [rd_no1 hmem (List.getElem_mem hjl) (fun h => hr (by rw [hcd]; omega))]
        focus
          have szE5 := E5.size; have szE4 := E4.size; have szE3 := E3.size; have szE2 := E2.size; have szE1 := E1.size; refine W_seq ?_; refine W_seq ?_; refine W_region rfl ?_; refine Wo rfl (opv_move (v := .int _ _) rfl) ?_
          refine Wo rfl (opv_move (v := u1) rfl) ?_; refine Wo rfl (opv_move (v := .int _ _) rfl) ?_
          refine Wo_get Tryd.underlying65 Tryd.sizeOf9 Tryd.isAgg9 rfl (fun _ => rfl) rfl (Besides.here hBe) E5 rfl (by first | omega | (simp <;> omega)) ?_; rintro _ _ ⟨rfl, -⟩; refine Wo rfl (opv_len_str Tryd.underlying9 rfl) ?_
          refine Wo rfl (opv_lss rfl rfl) ?_; refine Wo_nil ?_; refine W_cond_dec rfl (fun h2 => ?_) (fun h2 => ?_); refine W_skip ?_; refine W_seq ?_; refine W_block ?_; refine W_seq ?_; refine W_region rfl ?_
          refine Wo rfl (opv_move (v := u1) rfl) ?_; refine Wo rfl (opv_move (v := .int _ _) rfl) ?_
          refine Wo_get Tryd.underlying65 Tryd.sizeOf9 Tryd.isAgg9 rfl (fun _ => rfl) rfl (Besides.here hBe) E5 rfl (by first | omega | (simp <;> omega)) ?_; rintro _ _ ⟨rfl, -⟩; refine Wo rfl (opv_move (v := .int _ _) rfl) ?_
          refine Wo rfl (opv_index_str Tryd.underlying9 rfl rfl (by omega)) ?_; refine Wo rfl (opv_conv_int Tryd.underlying5 Tryd.underlying3 rfl (by omega)) ?_; refine Wo rfl (opv_sub rfl rfl (by omega)) ?_
          refine Wo rfl (opv_assign (v := .int _ _) rfl) ?_; refine Wo_nil ?_; refine W_seq ?_; refine W_seq ?_; refine W_region rfl ?_; refine Wo rfl (opv_move (v := .int _ _) rfl) ?_; refine Wo rfl (opv_move (v := u1) rfl) ?_
          refine Wo rfl (opv_len Tryd.underlying65 rfl (Besides.here hBe)) ?_; refine Wo rfl (opv_sub rfl rfl (by omega)) ?_
          refine Wo_call rfl (opc3 (a := .int _ _) (b := .int _ _) (c := .int _ _) Tryd.call42 rfl rfl rfl) (l1In_ok _ _ _ _) ?_; rintro _ w6 ⟨rfl, E6⟩; have hs4 := E6.size; refine Wo rfl (opv_not rfl) ?_; refine Wo_nil ?_
          refine W_cond_ndec rfl (fun h3 => ?_) (fun h3 => ?_); refine W_seq ?_; refine W_region rfl ?_; refine Wo_lit0 (XSl 3 XInt) rfl el49 Tryd.sizeOf80 ?_; rintro b3 w7 hb3 b3lt E7 hO1; have hs5 := E7.size
          refine Wo rfl (opv_assign (v := .slice _ _ _) rfl) ?_; refine Wo rfl (opv_assign (v := .bool _) rfl) ?_; refine Wo_nil ?_; refine W_ret ?_; refine at_ret (v := .tuple #[.slice _ _ _, .bool _]) rfl ?_
          exact ⟨_, rfl, (((E3.trans E5).trans E6).trans E7), hO1.toB.o.mono (by omega)⟩; (exfalso; omega); (exfalso; omega)
        all_goals omega
    · obtain rfl : j = ps[k].length := by omega
      rw [List.take_length] at hO5 hir
      focus
        have szE5 := E5.size; have szE4 := E4.size; have szE3 := E3.size; have szE2 := E2.size; have szE1 := E1.size; refine W_seq ?_; refine W_seq ?_; refine W_region rfl ?_; refine Wo rfl (opv_move (v := .int _ _) rfl) ?_
        refine Wo rfl (opv_move (v := u1) rfl) ?_; refine Wo rfl (opv_move (v := .int _ _) rfl) ?_
        refine Wo_get Tryd.underlying65 Tryd.sizeOf9 Tryd.isAgg9 rfl (fun _ => rfl) rfl (Besides.here hBe) E5 rfl (by first | omega | (simp <;> omega)) ?_; rintro _ _ ⟨rfl, -⟩; refine Wo rfl (opv_len_str Tryd.underlying9 rfl) ?_
        refine Wo rfl (opv_lss rfl rfl) ?_; refine Wo_nil ?_; refine W_cond_dec rfl (fun h2 => ?_) (fun h2 => ?_); (exfalso; omega); refine W_exit ?_; refine exitX_same ?_; refine W_region rfl ?_; refine Wo rfl (opv_move (v := u) rfl) ?_
        refine Wo rfl (opv_move (v := .slice _ _ _) rfl) ?_; refine Wo_buildSlice (ps := [(0, .slice _ _ _)]) (cs := [_]) rfl Tryd.underlying49 Tryd.sizeOf80 Tryd.zeroValue80 rfl rfl rfl rfl ?_; rintro b3 w6 hb3 E6 hB1; have hlb3 := hB1.lt
        have hs4 := E6.size; refine Wo_app1 rfl el49 rfl rfl hB1 (hO3.toB.ext (E5.trans E6)) (hO5.toB.ext E6).o (by omega) (by first | omega | (simp <;> omega)) (by omega) (by omega) ((E3.trans E5).trans E6) (by omega) ?_
        have hT1 := (hO3.toB.ext (E5.trans E6)); rintro v1 w7 hO3 E7 M1; have hBe := (hBe.ext (E5.trans E6)).moves M1; have hO5 := (hO5.toB.ext E6).moves M1 hT1 (by omega); have hB1 := hB1.moves M1 hT1 (by omega); have hs5 := E7.size
        refine Wo rfl (opv_assign (v := v1) rfl) ?_; refine Wo_nil ?_; refine W_region rfl ?_; refine Wo rfl (opv_move (v := .int _ _) rfl) ?_; refine Wo rfl (opv_add rfl rfl (by omega)) ?_; refine Wo rfl (opv_assign (v := .int _ _) rfl) ?_
        refine Wo_nil ?_
      refine ⟨((k + 1, v1)), by repeat (first | exact trivial | refine And.intro rfl ?_), by repeat (first | with_reducible exact Same.refl | refine Same.upd rfl ?_ | refine Same.upds rfl ?_ | refine Same.mix rfl ?_), ?_, ?_⟩
      · have hts : ps.take (k + 1) = ps.take k ++ [ps[k]] := List.take_succ_eq_append_getElem hkl
        refine ⟨by assumption, by omega, ?_, by assumption, ?_⟩
        · rw [hts, List.map_append]; exact hO3
        · rw [hts]
          intro x hx
          rcases List.mem_append.1 hx with hx | hx
          · exact hin x hx
          · obtain rfl := List.mem_singleton.1 hx; exact hir
      · simp only; omega
  · obtain rfl : k = ps.length := by omega
    have eM : ps.map (rowB ps.length) = rdM s := by rw [hps]; rfl
    rw [List.take_length, eM] at hO3
    clear k1
    by_cases hP : Pic (rdM s)
    · by_cases hT : txt (rdM s) = s
      · rw [rd_yes hP hT]
        have k2 : ∀ w v, ESl Ints w v (rdM s) → Does Tryd.prog 70 [v] w (Ret w (.bool true)) := fun w v h => by
          have := PictureOk_ok w v _ h
          rwa [decide_eq_true hP] at this
        have k3 : ∀ w v, ESl Ints w v (rdM s) → Does Tryd.prog 71 [v] w (Ret w (str s)) := fun w v h => by
          have := PictureText_ok w v _ h
          rwa [if_pos hP, hT] at this
        focus
          have szE3 := E3.size; have szE2 := E2.size; have szE1 := E1.size; refine W_seq ?_; refine W_seq ?_; refine W_region rfl ?_; refine Wo rfl (opv_move (v := .int _ _) rfl) ?_; refine Wo rfl (opv_move (v := u1) rfl) ?_
          refine Wo rfl (opv_len Tryd.underlying65 rfl (Besides.here hBe)) ?_; refine Wo rfl (opv_lss rfl rfl) ?_; refine Wo_nil ?_; refine W_cond_dec rfl (fun h1 => ?_) (fun h1 => ?_); (exfalso; omega); refine W_exit ?_; refine exitX_same ?_
          refine W_seq ?_; refine W_seq ?_; refine W_region rfl ?_; refine Wo rfl (opv_move (v := u) rfl) ?_; refine Wo_call rfl (opc1 (a := u) Tryd.call70 rfl) (k2 _ _ ((Owned.read hO3))) ?_; rintro _ w4 ⟨rfl, E4⟩; have hs3 := E4.size
          refine Wo rfl (opv_not rfl) ?_; refine Wo_split rfl (opv_move (v := .bool _) rfl) (fun h2 => ?_) (fun h2 => ?_); contradiction; refine Wo rfl (opv_move (v := u) rfl) ?_
          refine Wo_call rfl (opc1 (a := u) Tryd.call71 rfl) (k3 _ _ ((Mono.mono E4 (Owned.read hO3)))) ?_; rintro _ w5 ⟨rfl, E5⟩; have hs4 := E5.size; refine Wo rfl (opv_move (v := .string _) rfl) ?_; refine Wo rfl (opv_neq_str rfl rfl) ?_
          refine Wo rfl (opv_pick_f (v := .bool _) rfl rfl) ?_; refine Wo_nil ?_; refine W_cond_ndec rfl (fun h3 => ?_) (fun h3 => ?_); contradiction; refine W_skip ?_; refine W_seq ?_; refine W_region rfl ?_
          refine Wo rfl (opv_move (v := u) rfl) ?_; refine Wo rfl (opv_assign (v := u) rfl) ?_; refine Wo rfl (opv_assign (v := .bool _) rfl) ?_; refine Wo_nil ?_; refine W_ret ?_; refine at_ret (v := .tuple #[u, .bool _]) rfl ?_
          exact ⟨_, rfl, ((E3.trans E4).trans E5), (hO3.toB.ext (E4.trans E5)).o.mono (by omega)⟩
      · rw [rd_no3 hT]
        have k2 : ∀ w v, ESl Ints w v (rdM s) → Does Tryd.prog 70 [v] w (Ret w (.bool true)) := fun w v h => by
          have := PictureOk_ok w v _ h
          rwa [decide_eq_true hP] at this
        have k3 : ∀ w v, ESl Ints w v (rdM s) → Does Tryd.prog 71 [v] w (Ret w (str (txt (rdM s)))) := fun w v h => by
          have := PictureText_ok w v _ h
          rwa [if_pos hP] at this
        focus
          have szE3 := E3.size; have szE2 := E2.size; have szE1 := E1.size; refine W_seq ?_; refine W_seq ?_; refine W_region rfl ?_; refine Wo rfl (opv_move (v := .int _ _) rfl) ?_; refine Wo rfl (opv_move (v := u1) rfl) ?_
          refine Wo rfl (opv_len Tryd.underlying65 rfl (Besides.here hBe)) ?_; refine Wo rfl (opv_lss rfl rfl) ?_; refine Wo_nil ?_; refine W_cond_dec rfl (fun h1 => ?_) (fun h1 => ?_); (exfalso; omega); refine W_exit ?_; refine exitX_same ?_
          refine W_seq ?_; refine W_seq ?_; refine W_region rfl ?_; refine Wo rfl (opv_move (v := u) rfl) ?_; refine Wo_call rfl (opc1 (a := u) Tryd.call70 rfl) (k2 _ _ ((Owned.read hO3))) ?_; rintro _ w4 ⟨rfl, E4⟩; have hs3 := E4.size
          refine Wo rfl (opv_not rfl) ?_; refine Wo_split rfl (opv_move (v := .bool _) rfl) (fun h2 => ?_) (fun h2 => ?_); contradiction; refine Wo rfl (opv_move (v := u) rfl) ?_
          refine Wo_call rfl (opc1 (a := u) Tryd.call71 rfl) (k3 _ _ ((Mono.mono E4 (Owned.read hO3)))) ?_; rintro _ w5 ⟨rfl, E5⟩; have hs4 := E5.size; refine Wo rfl (opv_move (v := .string _) rfl) ?_; refine Wo rfl (opv_neq_str rfl rfl) ?_
          refine Wo rfl (opv_pick_f (v := .bool _) rfl rfl) ?_; refine Wo_nil ?_; refine W_cond_ndec rfl (fun h3 => ?_) (fun h3 => ?_); refine W_seq ?_; refine W_region rfl ?_; refine Wo_lit0 (XSl 3 XInt) rfl el49 Tryd.sizeOf80 ?_
          rintro b2 w6 hb2 b2lt E6 hO1; have hs5 := E6.size; refine Wo rfl (opv_assign (v := .slice _ _ _) rfl) ?_; refine Wo rfl (opv_assign (v := .bool _) rfl) ?_; refine Wo_nil ?_; refine W_ret ?_
          refine at_ret (v := .tuple #[.slice _ _ _, .bool _]) rfl ?_; exact ⟨_, rfl, (((E3.trans E4).trans E5).trans E6), hO1.toB.o.mono (by omega)⟩; contradiction
    · rw [rd_no2 hP]
      have k2 : ∀ w v, ESl Ints w v (rdM s) → Does Tryd.prog 70 [v] w (Ret w (.bool false)) := fun w v h => by
        have := PictureOk_ok w v _ h
        rwa [decide_eq_false hP] at this
      focus
        have szE3 := E3.size; have szE2 := E2.size; have szE1 := E1.size; refine W_seq ?_; refine W_seq ?_; refine W_region rfl ?_; refine Wo rfl (opv_move (v := .int _ _) rfl) ?_; refine Wo rfl (opv_move (v := u1) rfl) ?_
        refine Wo rfl (opv_len Tryd.underlying65 rfl (Besides.here hBe)) ?_; refine Wo rfl (opv_lss rfl rfl) ?_; refine Wo_nil ?_; refine W_cond_dec rfl (fun h1 => ?_) (fun h1 => ?_); (exfalso; omega); refine W_exit ?_; refine exitX_same ?_
        refine W_seq ?_; refine W_seq ?_; refine W_region rfl ?_; refine Wo rfl (opv_move (v := u) rfl) ?_; refine Wo_call rfl (opc1 (a := u) Tryd.call70 rfl) (k2 _ _ ((Owned.read hO3))) ?_; rintro _ w4 ⟨rfl, E4⟩; have hs3 := E4.size
        refine Wo rfl (opv_not rfl) ?_; refine Wo_split rfl (opv_move (v := .bool _) rfl) (fun h2 => ?_) (fun h2 => ?_); refine Wo_skip rfl ?_; refine Wo_skip rfl ?_; refine Wo_skip rfl ?_; refine Wo_skip rfl ?_
        refine Wo rfl (opv_pick_t (v := .bool _) rfl rfl) ?_; refine Wo_nil ?_; refine W_cond_true rfl ?_; refine W_seq ?_; refine W_region rfl ?_; refine Wo_lit0 (XSl 3 XInt) rfl el49 Tryd.sizeOf80 ?_; rintro b2 w5 hb2 b2lt E5 hO1
        have hs4 := E5.size; refine Wo rfl (opv_assign (v := .slice _ _ _) rfl) ?_; refine Wo rfl (opv_assign (v := .bool _) rfl) ?_; refine Wo_nil ?_; refine W_ret ?_; refine at_ret (v := .tuple #[.slice _ _ _, .bool _]) rfl ?_
        exact ⟨_, rfl, ((E3.trans E4).trans E5), hO1.toB.o.mono (by omega)⟩; contradiction

end Go.Proofs.YtgphoihilheoeaaDoor
