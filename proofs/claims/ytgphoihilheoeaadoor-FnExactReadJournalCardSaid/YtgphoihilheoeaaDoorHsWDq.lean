/- Walks: texts read as deeds, the reference's; the law FnExactReadDeed. -/
import Derived.Test.YtgphoihilheoeaaDoorHsWDr
import Derived.Test.YtgphoihilheoeaaDoorHsWDg
namespace Go.Proofs.YtgphoihilheoeaaDoor
open Go.Hs
set_option maxRecDepth 10000
set_option maxHeartbeats 4000000
set_option linter.unusedVariables false
set_option linter.unusedSimpArgs false

theorem elD36 : ElD Tryd.prog 36 26 := ElD.of Tryd.underlying36 (by kernel_rfl) Tryd.sizeOf26 Tryd.zeroValue26
/-- the deeds that the reference tries -/
def rdL (ps : List (List UInt8)) (z : Int) : List Deed := [⟨0, [], 0⟩, ⟨4, [], 0⟩] ++ if ps.length = 2 then [⟨1, ps.getD 1 [], 0⟩, ⟨2, ps.getD 1 [], 0⟩, ⟨3, [], z⟩] else []
theorem rdL_all {s : List UInt8} {z : Int} (hz : ∀ d : Nat, d ≤ 9 → (cutB 32 s).getD 1 [] = [dig d] → z = d) {a : Deed} (h : rdD s = some a) : a ∈ rdL (cutB 32 s) z := by
  have ht := rdD_told h
  have h1 := (rdD_some h).1
  cases ht with
  | single => simp [rdL]
  | back => simp [rdL]
  | into d hd =>
    rw [dtV_into hd] at h1
    subst h1
    have e : cutB 32 (sInto ++ [dig d]) = [wInto, [dig d]] := by
      have hn : (32 : UInt8) ∉ [dig d] := by
        intro hm
        have := List.mem_singleton.1 hm
        have h2 := congrArg UInt8.toNat this
        rw [dig_toNat (by omega)] at h2
        have : (32 : UInt8).toNat = 32 := rfl
        omega
      rw [show sInto ++ [dig d] = wInto ++ 32 :: [dig d] from rfl, cutB_app (by decide), cutB_one hn]
    rw [e] at hz ⊢
    rw [hz d hd rfl]
    simp [rdL]
  | add p hp =>
    rw [dtV_add hp] at h1
    subst h1
    have e : cutB 32 (sAdd ++ txt p) = [wAdd, txt p] := by
      rw [show sAdd ++ txt p = wAdd ++ 32 :: txt p from rfl, cutB_app (by decide), cutB_one (txt_no hp.gr (by decide))]
    rw [e]
    simp [rdL]
  | drop p hp =>
    rw [dtV_drop hp] at h1
    subst h1
    have e : cutB 32 (sDrop ++ txt p) = [wDrop, txt p] := by
      rw [show sDrop ++ txt p = wDrop ++ 32 :: txt p from rfl, cutB_app (by decide), cutB_one (txt_no hp.gr (by decide))]
    rw [e]
    simp [rdL]
theorem spec_ReadDeed_ok (w : World) (s : List UInt8) (hs : s.length ≤ 1048576) :
    Does Tryd.prog 15 [str s] w (Ret w (.tuple #[dv ((rdD s).getD ⟨0, [], 0⟩), .bool (rdD s).isSome])) := by
  obtain ⟨ps, hps⟩ : ∃ ps, ps = cutB 32 s := ⟨_, rfl⟩
  have k1 : ∀ w, Does Tryd.prog 45 [str s, .int .u8 32] w (RetO w XS ps) := fun w => hps ▸ l1Cut_ok w s 32 hs
  have hpe : ∀ (k : Nat) (hk : k < ps.length), ps[k].length ≤ 1048576 := fun k hk => by
    have : ps[k] ∈ cutB 32 s := hps ▸ List.getElem_mem hk
    have := cutB_mem_len s.length s (Nat.le_refl _) _ this; omega
  obtain ⟨z, hz⟩ : ∃ z : Int, z = digV (ps.getD 1 []) := ⟨_, rfl⟩
  obtain ⟨L, hL⟩ : ∃ L, L = rdL ps z := ⟨_, rfl⟩
  have hall : ∀ a, rdD s = some a → a ∈ L := fun a h => by
    rw [hL, hps]
    refine rdL_all (fun d hd e => ?_) h
    rw [hz, hps, e, digV_one hd]
  have hlen : L.length ≤ 5 := by rw [hL]; unfold rdL; split <;> simp
  have htx : ∀ (k : Nat) (h : k < L.length), L[k].text.length ≤ 1048576 := fun k h => by
    have hm : L[k] ∈ rdL ps z := hL ▸ List.getElem_mem h
    unfold rdL at hm
    split at hm
    · rename_i h2
      have hp1 := hpe 1 (by omega)
      have hg1 : ps.getD 1 [] = ps[1] := getD_lt (by omega)
      rw [hg1] at hm
      simp only [List.cons_append, List.nil_append, List.mem_cons, List.not_mem_nil, or_false] at hm
      rcases hm with h | h | h | h | h <;> rw [h] <;> simp <;> omega
    · simp only [List.append_nil, List.mem_cons, List.not_mem_nil, or_false] at hm
      rcases hm with h | h <;> rw [h] <;> simp
  refine fn_of_Wc3t Tryd.func15 rfl Tryd.results15 Tryd.ntmps15 rfl Tryd.isAgg26 Tryd.sizeOf26 ?_
  have stopC : True := trivial
  focus
    refine W_seq ?_; refine W_region rfl ?_; refine Wo_allocN rfl flat26 ?_; rintro b1 w1 hb1 E1 hB1; have hlb1 := hB1.lt; have hs1 := E1.size; refine Wo rfl (opv_assign (v := .bool _) rfl) ?_; refine Wo_nil ?_; refine W_seq ?_
    refine W_region rfl ?_; refine Wo rfl (opv_move (v := .string _) rfl) ?_; refine Wo_call rfl (opc2 (a := .string _) (b := .int _ _) Tryd.call45 rfl rfl) (k1 _) ?_; rintro u1 w2 ⟨E2, hO1⟩; have hs2 := E2.size
    refine Wo rfl (opv_assign (v := u1) rfl) ?_; refine Wo_nil ?_; refine W_seq ?_; refine W_region rfl ?_; refine Wo rfl (opv_build (ps := [(0, .int _ _)]) (cs := [_, _, _]) flat26 rfl rfl) ?_
    refine Wo rfl (opv_build (ps := [(0, .int _ _)]) (cs := [_, _, _]) flat26 rfl rfl) ?_
    refine Wo_buildD2 (a1 := ⟨_, _, _⟩) (a2 := ⟨_, _, _⟩) rfl elD36 rfl rfl (by first | assumption | omega | (simp <;> omega)) (by first | assumption | omega | (simp <;> omega)) ?_; rintro b2 w3 hb2 E3 hO2; have hs3 := E3.size
    refine Wo rfl (opv_assign (v := .slice _ _ _) rfl) ?_; refine Wo_nil ?_; refine W_seq ?_; refine W_seq ?_; refine W_region rfl ?_; refine Wo rfl (opv_move (v := u1) rfl) ?_
    refine Wo rfl (opv_len Tryd.underlying65 rfl (Owned.read hO1)) ?_; refine Wo rfl (opv_eql rfl rfl) ?_; refine Wo_nil ?_
  clear stopC
  refine W_mid [5, 15, 16, 17, 18, 19, 20, 21, 22, 23, 24, 25, 26, 27, 28, 29, 30] (fun (v : Value) => [(5, v)]) (fun v w' => Ext w2 w' ∧ OD 26 w2.heap.size w' v L) ?_ ?_
  · by_cases h2 : ps.length = 2
    · have hp1 := hpe 1 (by omega)
      have hg1 : ps.getD 1 [] = ps[1] := getD_lt (by omega)
      have stop4 : True := trivial
      focus
        have szE3 := E3.size; have szE2 := E2.size; have szE1 := E1.size; refine W_cond_dec rfl (fun h1 => ?_) (fun h1 => ?_); rotate_left; (exfalso; omega)
      clear stop4
      obtain ⟨ub, uc, rfl, _⟩ := hO1.lit (by omega)
      have hcell : w3.cell? ⟨ub, 0 + 1, none⟩ = some (str ps[1]) := by
        obtain ⟨a', c', e, _, hR⟩ := hO1.read
        rcases hR with hR | ⟨b', o', e2, hR⟩
        · rw [hR] at h2; cases h2
        · subst e2; injection e with e3 e4 e5; injection e3 with e3; injection e3 with e6 e7; subst e6; subst e7
          obtain ⟨u, hu, rfl, _⟩ := hR 1 (by omega)
          exact E3.cell hu
      have eL : L = [⟨0, [], 0⟩, ⟨4, [], 0⟩] ++ [⟨1, ps[1], 0⟩, ⟨2, ps[1], 0⟩, ⟨3, [], digV ps[1]⟩] := by rw [hL, hz, rdL, if_pos h2, hg1]
      rw [eL]
      clear hall hlen htx hL hz eL
      focus
        have szE3 := E3.size; have szE2 := E2.size; have szE1 := E1.size; refine W_held (fun _ => True) mixed rfl (by kernel_rfl) ?_; intro w4 E4 K1 hz1; have hs4 := E4.size
        refine Wh_take 0 rfl (by kernel_rfl) (by kernel_rfl) rfl (fun _ _ => opv_move (v := .slice _ _ _) rfl) trivial ?_; refine Wh_take 1 rfl (by kernel_rfl) (by kernel_rfl) rfl (fun _ _ => opv_move (v := .slice _ _ _) rfl) trivial ?_
        refine Wh_take 2 rfl (by kernel_rfl) (by kernel_rfl) rfl (fun _ _ => opv_indexAddr (k := 1) Tryd.underlying65 Tryd.sizeOf9 rfl rfl (by omega)) trivial ?_
        refine Wh_take 5 rfl (by kernel_rfl) (by kernel_rfl) rfl (fun _ _ => opv_move (v := .slice _ _ _) rfl) trivial ?_
        refine Wh_take 6 rfl (by kernel_rfl) (by kernel_rfl) rfl (fun _ _ => opv_indexAddr (k := 1) Tryd.underlying65 Tryd.sizeOf9 rfl rfl (by omega)) trivial ?_
        refine Wh_take 9 rfl (by kernel_rfl) (by kernel_rfl) rfl (fun _ _ => opv_move (v := .slice _ _ _) rfl) trivial ?_
        refine Wh_take 10 rfl (by kernel_rfl) (by kernel_rfl) rfl (fun _ _ => opv_indexAddr (k := 1) Tryd.underlying65 Tryd.sizeOf9 rfl rfl (by omega)) trivial ?_; refine Wh_all (rs := [3, 7, 11]) (by kernel_rfl) rfl ?_
        refine WhAll_cons rfl ?_ ?_; refine Wo rfl (opv_load Tryd.isAgg9 rfl (E4.cell hcell)) ?_; refine Wo_nil ?_; refine ⟨trivial, ?_⟩
        refine Wh_take 4 rfl (by kernel_rfl) (by kernel_rfl) rfl (fun _ _ => opv_build (ps := [(0, .int _ _), (1, .string _)]) (cs := [_, _, _]) flat26 rfl rfl) trivial ?_; refine Wh_all (rs := [7, 11]) (by kernel_rfl) rfl ?_
        refine WhAll_cons rfl ?_ ?_; refine Wo rfl (opv_load Tryd.isAgg9 rfl (E4.cell hcell)) ?_; refine Wo_nil ?_; refine ⟨trivial, ?_⟩
        refine Wh_take 8 rfl (by kernel_rfl) (by kernel_rfl) rfl (fun _ _ => opv_build (ps := [(0, .int _ _), (1, .string _)]) (cs := [_, _, _]) flat26 rfl rfl) trivial ?_; refine Wh_all (rs := [11]) (by kernel_rfl) rfl ?_
        refine WhAll_cons rfl ?_ ?_; refine Wo rfl (opv_load Tryd.isAgg9 rfl (E4.cell hcell)) ?_; refine Wo_nil ?_; refine ⟨trivial, ?_⟩; refine Wh_all (rs := [12]) (by kernel_rfl) rfl ?_; refine WhAll_cons rfl ?_ ?_
        refine Wo_call rfl (opc1 (a := .string _) Tryd.call46 rfl) (l1Digits_ok _ _ (by assumption)) ?_; rintro _ w5 ⟨rfl, E5⟩; have hs5 := E5.size; refine Wo_nil ?_; refine ⟨trivial, ?_⟩
        refine Wh_take 13 rfl (by kernel_rfl) (by kernel_rfl) rfl (fun _ _ => opv_build (ps := [(0, .int _ _), (2, .int _ _)]) (cs := [_, _, _]) flat26 rfl rfl) trivial ?_; refine Wh_all (rs := [14]) (by kernel_rfl) rfl ?_
        refine WhAll_cons rfl ?_ ?_
        refine Wo_buildD3 (a1 := ⟨_, _, _⟩) (a2 := ⟨_, _, _⟩) (a3 := ⟨_, _, _⟩) rfl elD36 rfl rfl rfl (by first | assumption | omega | (simp <;> omega)) (by first | assumption | omega | (simp <;> omega)) (by first | assumption | omega | (simp <;> omega)) ?_
        rintro b3 w6 hb3 E6 hO3; have hs6 := E6.size; refine Wo_nil ?_; refine ⟨trivial, ?_⟩; refine Wh_all (rs := [15]) (by kernel_rfl) rfl ?_; refine WhAll_cons rfl ?_ ?_
        refine Wo_appD rfl elD36 rfl rfl (hO2.ext ((E4.trans E5).trans E6)) hO3 (by first | omega | (simp <;> omega)) (by omega) (((E3.trans E4).trans E5).trans E6) (by omega) ?_; rintro v1 w7 hO4 E7 G1; refine Wo_nil ?_
        refine ⟨trivial, ?_⟩; refine Wh_take 16 rfl (by kernel_rfl) (by kernel_rfl) rfl (fun _ _ => opv_assign (v := v1) rfl) trivial ?_; refine Wh_done (by kernel_rfl) ?_; rotate_left; exact WhAll_nil; exact WhAll_nil; exact WhAll_nil
        exact WhAll_nil; refine WhAll_cons rfl ?_ ?_; refine Wo rfl (opv_load Tryd.isAgg9 rfl (E4.cell hcell)) ?_; refine Wo_nil ?_; refine ⟨trivial, ?_⟩; refine Wh_all (rs := [7, 12]) (by kernel_rfl) rfl ?_; refine WhAll_cons rfl ?_ ?_
        refine Wo rfl (opv_load Tryd.isAgg9 rfl (E4.cell hcell)) ?_; refine Wo_nil ?_; refine ⟨trivial, ?_⟩
        refine Wh_take 8 rfl (by kernel_rfl) (by kernel_rfl) rfl (fun _ _ => opv_build (ps := [(0, .int _ _), (1, .string _)]) (cs := [_, _, _]) flat26 rfl rfl) trivial ?_; refine Wh_all (rs := [12]) (by kernel_rfl) rfl ?_
        refine WhAll_cons rfl ?_ ?_; refine Wo_call rfl (opc1 (a := .string _) Tryd.call46 rfl) (l1Digits_ok _ _ (by assumption)) ?_; rintro _ w5 ⟨rfl, E5⟩; have hs5 := E5.size; refine Wo_nil ?_; refine ⟨trivial, ?_⟩
        refine Wh_take 13 rfl (by kernel_rfl) (by kernel_rfl) rfl (fun _ _ => opv_build (ps := [(0, .int _ _), (2, .int _ _)]) (cs := [_, _, _]) flat26 rfl rfl) trivial ?_; refine Wh_all (rs := [14]) (by kernel_rfl) rfl ?_
        refine WhAll_cons rfl ?_ ?_
        refine Wo_buildD3 (a1 := ⟨_, _, _⟩) (a2 := ⟨_, _, _⟩) (a3 := ⟨_, _, _⟩) rfl elD36 rfl rfl rfl (by first | assumption | omega | (simp <;> omega)) (by first | assumption | omega | (simp <;> omega)) (by first | assumption | omega | (simp <;> omega)) ?_
        rintro b3 w6 hb3 E6 hO3; have hs6 := E6.size; refine Wo_nil ?_; refine ⟨trivial, ?_⟩; refine Wh_all (rs := [15]) (by kernel_rfl) rfl ?_; refine WhAll_cons rfl ?_ ?_
        refine Wo_appD rfl elD36 rfl rfl (hO2.ext ((E4.trans E5).trans E6)) hO3 (by first | omega | (simp <;> omega)) (by omega) (((E3.trans E4).trans E5).trans E6) (by omega) ?_; rintro v1 w7 hO4 E7 G1; refine Wo_nil ?_
        refine ⟨trivial, ?_⟩; refine Wh_take 16 rfl (by kernel_rfl) (by kernel_rfl) rfl (fun _ _ => opv_assign (v := v1) rfl) trivial ?_; refine Wh_done (by kernel_rfl) ?_; rotate_left; exact WhAll_nil; exact WhAll_nil; exact WhAll_nil
        refine WhAll_cons rfl ?_ ?_; refine Wo_call rfl (opc1 (a := .string _) Tryd.call46 rfl) (l1Digits_ok _ _ (by assumption)) ?_; rintro _ w5 ⟨rfl, E5⟩; have hs5 := E5.size; refine Wo_nil ?_; refine ⟨trivial, ?_⟩
        refine Wh_take 13 rfl (by kernel_rfl) (by kernel_rfl) rfl (fun _ _ => opv_build (ps := [(0, .int _ _), (2, .int _ _)]) (cs := [_, _, _]) flat26 rfl rfl) trivial ?_; refine Wh_all (rs := [7]) (by kernel_rfl) rfl ?_
        refine WhAll_cons rfl ?_ ?_; refine Wo rfl (opv_load Tryd.isAgg9 rfl ((E4.trans E5).cell hcell)) ?_; refine Wo_nil ?_; refine ⟨trivial, ?_⟩
        refine Wh_take 8 rfl (by kernel_rfl) (by kernel_rfl) rfl (fun _ _ => opv_build (ps := [(0, .int _ _), (1, .string _)]) (cs := [_, _, _]) flat26 rfl rfl) trivial ?_; refine Wh_all (rs := [14]) (by kernel_rfl) rfl ?_
        refine WhAll_cons rfl ?_ ?_
        refine Wo_buildD3 (a1 := ⟨_, _, _⟩) (a2 := ⟨_, _, _⟩) (a3 := ⟨_, _, _⟩) rfl elD36 rfl rfl rfl (by first | assumption | omega | (simp <;> omega)) (by first | assumption | omega | (simp <;> omega)) (by first | assumption | omega | (simp <;> omega)) ?_
        rintro b3 w6 hb3 E6 hO3; have hs6 := E6.size; refine Wo_nil ?_; refine ⟨trivial, ?_⟩; refine Wh_all (rs := [15]) (by kernel_rfl) rfl ?_; refine WhAll_cons rfl ?_ ?_
        refine Wo_appD rfl elD36 rfl rfl (hO2.ext ((E4.trans E5).trans E6)) hO3 (by first | omega | (simp <;> omega)) (by omega) (((E3.trans E4).trans E5).trans E6) (by omega) ?_; rintro v1 w7 hO4 E7 G1; refine Wo_nil ?_
        refine ⟨trivial, ?_⟩; refine Wh_take 16 rfl (by kernel_rfl) (by kernel_rfl) rfl (fun _ _ => opv_assign (v := v1) rfl) trivial ?_; refine Wh_done (by kernel_rfl) ?_; rotate_left; exact WhAll_nil; exact WhAll_nil; exact WhAll_nil
        exact WhAll_nil; exact WhAll_nil; refine WhAll_cons rfl ?_ ?_; refine Wo rfl (opv_load Tryd.isAgg9 rfl (E4.cell hcell)) ?_; refine Wo_nil ?_; refine ⟨trivial, ?_⟩
        refine Wh_take 8 rfl (by kernel_rfl) (by kernel_rfl) rfl (fun _ _ => opv_build (ps := [(0, .int _ _), (1, .string _)]) (cs := [_, _, _]) flat26 rfl rfl) trivial ?_; refine Wh_all (rs := [3, 11]) (by kernel_rfl) rfl ?_
        refine WhAll_cons rfl ?_ ?_; refine Wo rfl (opv_load Tryd.isAgg9 rfl (E4.cell hcell)) ?_; refine Wo_nil ?_; refine ⟨trivial, ?_⟩
        refine Wh_take 4 rfl (by kernel_rfl) (by kernel_rfl) rfl (fun _ _ => opv_build (ps := [(0, .int _ _), (1, .string _)]) (cs := [_, _, _]) flat26 rfl rfl) trivial ?_; refine Wh_all (rs := [11]) (by kernel_rfl) rfl ?_
        refine WhAll_cons rfl ?_ ?_; refine Wo rfl (opv_load Tryd.isAgg9 rfl (E4.cell hcell)) ?_; refine Wo_nil ?_; refine ⟨trivial, ?_⟩; refine Wh_all (rs := [12]) (by kernel_rfl) rfl ?_; refine WhAll_cons rfl ?_ ?_
        refine Wo_call rfl (opc1 (a := .string _) Tryd.call46 rfl) (l1Digits_ok _ _ (by assumption)) ?_; rintro _ w5 ⟨rfl, E5⟩; have hs5 := E5.size; refine Wo_nil ?_; refine ⟨trivial, ?_⟩
        refine Wh_take 13 rfl (by kernel_rfl) (by kernel_rfl) rfl (fun _ _ => opv_build (ps := [(0, .int _ _), (2, .int _ _)]) (cs := [_, _, _]) flat26 rfl rfl) trivial ?_; refine Wh_all (rs := [14]) (by kernel_rfl) rfl ?_
        refine WhAll_cons rfl ?_ ?_
        refine Wo_buildD3 (a1 := ⟨_, _, _⟩) (a2 := ⟨_, _, _⟩) (a3 := ⟨_, _, _⟩) rfl elD36 rfl rfl rfl (by first | assumption | omega | (simp <;> omega)) (by first | assumption | omega | (simp <;> omega)) (by first | assumption | omega | (simp <;> omega)) ?_
        rintro b3 w6 hb3 E6 hO3; have hs6 := E6.size; refine Wo_nil ?_; refine ⟨trivial, ?_⟩; refine Wh_all (rs := [15]) (by kernel_rfl) rfl ?_; refine WhAll_cons rfl ?_ ?_
        refine Wo_appD rfl elD36 rfl rfl (hO2.ext ((E4.trans E5).trans E6)) hO3 (by first | omega | (simp <;> omega)) (by omega) (((E3.trans E4).trans E5).trans E6) (by omega) ?_; rintro v1 w7 hO4 E7 G1; refine Wo_nil ?_
        refine ⟨trivial, ?_⟩; refine Wh_take 16 rfl (by kernel_rfl) (by kernel_rfl) rfl (fun _ _ => opv_assign (v := v1) rfl) trivial ?_; refine Wh_done (by kernel_rfl) ?_; rotate_left; exact WhAll_nil; exact WhAll_nil; exact WhAll_nil
        exact WhAll_nil; refine WhAll_cons rfl ?_ ?_; refine Wo rfl (opv_load Tryd.isAgg9 rfl (E4.cell hcell)) ?_; refine Wo_nil ?_; refine ⟨trivial, ?_⟩; refine Wh_all (rs := [3, 12]) (by kernel_rfl) rfl ?_; refine WhAll_cons rfl ?_ ?_
        refine Wo rfl (opv_load Tryd.isAgg9 rfl (E4.cell hcell)) ?_; refine Wo_nil ?_; refine ⟨trivial, ?_⟩
        refine Wh_take 4 rfl (by kernel_rfl) (by kernel_rfl) rfl (fun _ _ => opv_build (ps := [(0, .int _ _), (1, .string _)]) (cs := [_, _, _]) flat26 rfl rfl) trivial ?_; refine Wh_all (rs := [12]) (by kernel_rfl) rfl ?_
        refine WhAll_cons rfl ?_ ?_; refine Wo_call rfl (opc1 (a := .string _) Tryd.call46 rfl) (l1Digits_ok _ _ (by assumption)) ?_; rintro _ w5 ⟨rfl, E5⟩; have hs5 := E5.size; refine Wo_nil ?_; refine ⟨trivial, ?_⟩
        refine Wh_take 13 rfl (by kernel_rfl) (by kernel_rfl) rfl (fun _ _ => opv_build (ps := [(0, .int _ _), (2, .int _ _)]) (cs := [_, _, _]) flat26 rfl rfl) trivial ?_; refine Wh_all (rs := [14]) (by kernel_rfl) rfl ?_
        refine WhAll_cons rfl ?_ ?_
        refine Wo_buildD3 (a1 := ⟨_, _, _⟩) (a2 := ⟨_, _, _⟩) (a3 := ⟨_, _, _⟩) rfl elD36 rfl rfl rfl (by first | assumption | omega | (simp <;> omega)) (by first | assumption | omega | (simp <;> omega)) (by first | assumption | omega | (simp <;> omega)) ?_
        rintro b3 w6 hb3 E6 hO3; have hs6 := E6.size; refine Wo_nil ?_; refine ⟨trivial, ?_⟩; refine Wh_all (rs := [15]) (by kernel_rfl) rfl ?_; refine WhAll_cons rfl ?_ ?_
        refine Wo_appD rfl elD36 rfl rfl (hO2.ext ((E4.trans E5).trans E6)) hO3 (by first | omega | (simp <;> omega)) (by omega) (((E3.trans E4).trans E5).trans E6) (by omega) ?_; rintro v1 w7 hO4 E7 G1; refine Wo_nil ?_
        refine ⟨trivial, ?_⟩; refine Wh_take 16 rfl (by kernel_rfl) (by kernel_rfl) rfl (fun _ _ => opv_assign (v := v1) rfl) trivial ?_; refine Wh_done (by kernel_rfl) ?_; rotate_left; exact WhAll_nil; exact WhAll_nil; exact WhAll_nil
        refine WhAll_cons rfl ?_ ?_; refine Wo_call rfl (opc1 (a := .string _) Tryd.call46 rfl) (l1Digits_ok _ _ (by assumption)) ?_; rintro _ w5 ⟨rfl, E5⟩; have hs5 := E5.size; refine Wo_nil ?_; refine ⟨trivial, ?_⟩
        refine Wh_take 13 rfl (by kernel_rfl) (by kernel_rfl) rfl (fun _ _ => opv_build (ps := [(0, .int _ _), (2, .int _ _)]) (cs := [_, _, _]) flat26 rfl rfl) trivial ?_; refine Wh_all (rs := [3]) (by kernel_rfl) rfl ?_
        refine WhAll_cons rfl ?_ ?_; refine Wo rfl (opv_load Tryd.isAgg9 rfl ((E4.trans E5).cell hcell)) ?_; refine Wo_nil ?_; refine ⟨trivial, ?_⟩
        refine Wh_take 4 rfl (by kernel_rfl) (by kernel_rfl) rfl (fun _ _ => opv_build (ps := [(0, .int _ _), (1, .string _)]) (cs := [_, _, _]) flat26 rfl rfl) trivial ?_; refine Wh_all (rs := [14]) (by kernel_rfl) rfl ?_
        refine WhAll_cons rfl ?_ ?_
        refine Wo_buildD3 (a1 := ⟨_, _, _⟩) (a2 := ⟨_, _, _⟩) (a3 := ⟨_, _, _⟩) rfl elD36 rfl rfl rfl (by first | assumption | omega | (simp <;> omega)) (by first | assumption | omega | (simp <;> omega)) (by first | assumption | omega | (simp <;> omega)) ?_
        rintro b3 w6 hb3 E6 hO3; have hs6 := E6.size; refine Wo_nil ?_; refine ⟨trivial, ?_⟩; refine Wh_all (rs := [15]) (by kernel_rfl) rfl ?_; refine WhAll_cons rfl ?_ ?_
        refine Wo_appD rfl elD36 rfl rfl (hO2.ext ((E4.trans E5).trans E6)) hO3 (by first | omega | (simp <;> omega)) (by omega) (((E3.trans E4).trans E5).trans E6) (by omega) ?_; rintro v1 w7 hO4 E7 G1; refine Wo_nil ?_
        refine ⟨trivial, ?_⟩; refine Wh_take 16 rfl (by kernel_rfl) (by kernel_rfl) rfl (fun _ _ => opv_assign (v := v1) rfl) trivial ?_; refine Wh_done (by kernel_rfl) ?_; rotate_left; exact WhAll_nil; exact WhAll_nil; exact WhAll_nil
        exact WhAll_nil; exact WhAll_nil; refine WhAll_cons rfl ?_ ?_; refine Wo rfl (opv_load Tryd.isAgg9 rfl (E4.cell hcell)) ?_; refine Wo_nil ?_; refine ⟨trivial, ?_⟩; refine Wh_all (rs := [3, 7, 12]) (by kernel_rfl) rfl ?_
        refine WhAll_cons rfl ?_ ?_; refine Wo rfl (opv_load Tryd.isAgg9 rfl (E4.cell hcell)) ?_; refine Wo_nil ?_; refine ⟨trivial, ?_⟩
        refine Wh_take 4 rfl (by kernel_rfl) (by kernel_rfl) rfl (fun _ _ => opv_build (ps := [(0, .int _ _), (1, .string _)]) (cs := [_, _, _]) flat26 rfl rfl) trivial ?_; refine Wh_all (rs := [7, 12]) (by kernel_rfl) rfl ?_
        refine WhAll_cons rfl ?_ ?_; refine Wo rfl (opv_load Tryd.isAgg9 rfl (E4.cell hcell)) ?_; refine Wo_nil ?_; refine ⟨trivial, ?_⟩
        refine Wh_take 8 rfl (by kernel_rfl) (by kernel_rfl) rfl (fun _ _ => opv_build (ps := [(0, .int _ _), (1, .string _)]) (cs := [_, _, _]) flat26 rfl rfl) trivial ?_; refine Wh_all (rs := [12]) (by kernel_rfl) rfl ?_
        refine WhAll_cons rfl ?_ ?_; refine Wo_call rfl (opc1 (a := .string _) Tryd.call46 rfl) (l1Digits_ok _ _ (by assumption)) ?_; rintro _ w5 ⟨rfl, E5⟩; have hs5 := E5.size; refine Wo_nil ?_; refine ⟨trivial, ?_⟩
        refine Wh_take 13 rfl (by kernel_rfl) (by kernel_rfl) rfl (fun _ _ => opv_build (ps := [(0, .int _ _), (2, .int _ _)]) (cs := [_, _, _]) flat26 rfl rfl) trivial ?_; refine Wh_all (rs := [14]) (by kernel_rfl) rfl ?_
        refine WhAll_cons rfl ?_ ?_
        refine Wo_buildD3 (a1 := ⟨_, _, _⟩) (a2 := ⟨_, _, _⟩) (a3 := ⟨_, _, _⟩) rfl elD36 rfl rfl rfl (by first | assumption | omega | (simp <;> omega)) (by first | assumption | omega | (simp <;> omega)) (by first | assumption | omega | (simp <;> omega)) ?_
        rintro b3 w6 hb3 E6 hO3; have hs6 := E6.size; refine Wo_nil ?_; refine ⟨trivial, ?_⟩; refine Wh_all (rs := [15]) (by kernel_rfl) rfl ?_; refine WhAll_cons rfl ?_ ?_
        refine Wo_appD rfl elD36 rfl rfl (hO2.ext ((E4.trans E5).trans E6)) hO3 (by first | omega | (simp <;> omega)) (by omega) (((E3.trans E4).trans E5).trans E6) (by omega) ?_; rintro v1 w7 hO4 E7 G1; refine Wo_nil ?_
        refine ⟨trivial, ?_⟩; refine Wh_take 16 rfl (by kernel_rfl) (by kernel_rfl) rfl (fun _ _ => opv_assign (v := v1) rfl) trivial ?_; refine Wh_done (by kernel_rfl) ?_; rotate_left; exact WhAll_nil; exact WhAll_nil; exact WhAll_nil
        refine WhAll_cons rfl ?_ ?_; refine Wo_call rfl (opc1 (a := .string _) Tryd.call46 rfl) (l1Digits_ok _ _ (by assumption)) ?_; rintro _ w5 ⟨rfl, E5⟩; have hs5 := E5.size; refine Wo_nil ?_; refine ⟨trivial, ?_⟩
        refine Wh_take 13 rfl (by kernel_rfl) (by kernel_rfl) rfl (fun _ _ => opv_build (ps := [(0, .int _ _), (2, .int _ _)]) (cs := [_, _, _]) flat26 rfl rfl) trivial ?_; refine Wh_all (rs := [7]) (by kernel_rfl) rfl ?_
        refine WhAll_cons rfl ?_ ?_; refine Wo rfl (opv_load Tryd.isAgg9 rfl ((E4.trans E5).cell hcell)) ?_; refine Wo_nil ?_; refine ⟨trivial, ?_⟩
        refine Wh_take 8 rfl (by kernel_rfl) (by kernel_rfl) rfl (fun _ _ => opv_build (ps := [(0, .int _ _), (1, .string _)]) (cs := [_, _, _]) flat26 rfl rfl) trivial ?_; refine Wh_all (rs := [14]) (by kernel_rfl) rfl ?_
        refine WhAll_cons rfl ?_ ?_
        refine Wo_buildD3 (a1 := ⟨_, _, _⟩) (a2 := ⟨_, _, _⟩) (a3 := ⟨_, _, _⟩) rfl elD36 rfl rfl rfl (by first | assumption | omega | (simp <;> omega)) (by first | assumption | omega | (simp <;> omega)) (by first | assumption | omega | (simp <;> omega)) ?_
        rintro b3 w6 hb3 E6 hO3; have hs6 := E6.size; refine Wo_nil ?_; refine ⟨trivial, ?_⟩; refine Wh_all (rs := [15]) (by kernel_rfl) rfl ?_; refine WhAll_cons rfl ?_ ?_
        refine Wo_appD rfl elD36 rfl rfl (hO2.ext ((E4.trans E5).trans E6)) hO3 (by first | omega | (simp <;> omega)) (by omega) (((E3.trans E4).trans E5).trans E6) (by omega) ?_; rintro v1 w7 hO4 E7 G1; refine Wo_nil ?_
        refine ⟨trivial, ?_⟩; refine Wh_take 16 rfl (by kernel_rfl) (by kernel_rfl) rfl (fun _ _ => opv_assign (v := v1) rfl) trivial ?_; refine Wh_done (by kernel_rfl) ?_; rotate_left; exact WhAll_nil; exact WhAll_nil; exact WhAll_nil
        exact WhAll_nil; refine WhAll_cons rfl ?_ ?_; refine Wo rfl (opv_load Tryd.isAgg9 rfl (E4.cell hcell)) ?_; refine Wo_nil ?_; refine ⟨trivial, ?_⟩
        refine Wh_take 8 rfl (by kernel_rfl) (by kernel_rfl) rfl (fun _ _ => opv_build (ps := [(0, .int _ _), (1, .string _)]) (cs := [_, _, _]) flat26 rfl rfl) trivial ?_; refine Wh_all (rs := [3, 12]) (by kernel_rfl) rfl ?_
        refine WhAll_cons rfl ?_ ?_; refine Wo rfl (opv_load Tryd.isAgg9 rfl (E4.cell hcell)) ?_; refine Wo_nil ?_; refine ⟨trivial, ?_⟩
        refine Wh_take 4 rfl (by kernel_rfl) (by kernel_rfl) rfl (fun _ _ => opv_build (ps := [(0, .int _ _), (1, .string _)]) (cs := [_, _, _]) flat26 rfl rfl) trivial ?_; refine Wh_all (rs := [12]) (by kernel_rfl) rfl ?_
        refine WhAll_cons rfl ?_ ?_; refine Wo_call rfl (opc1 (a := .string _) Tryd.call46 rfl) (l1Digits_ok _ _ (by assumption)) ?_; rintro _ w5 ⟨rfl, E5⟩; have hs5 := E5.size; refine Wo_nil ?_; refine ⟨trivial, ?_⟩
        refine Wh_take 13 rfl (by kernel_rfl) (by kernel_rfl) rfl (fun _ _ => opv_build (ps := [(0, .int _ _), (2, .int _ _)]) (cs := [_, _, _]) flat26 rfl rfl) trivial ?_; refine Wh_all (rs := [14]) (by kernel_rfl) rfl ?_
        refine WhAll_cons rfl ?_ ?_
        refine Wo_buildD3 (a1 := ⟨_, _, _⟩) (a2 := ⟨_, _, _⟩) (a3 := ⟨_, _, _⟩) rfl elD36 rfl rfl rfl (by first | assumption | omega | (simp <;> omega)) (by first | assumption | omega | (simp <;> omega)) (by first | assumption | omega | (simp <;> omega)) ?_
        rintro b3 w6 hb3 E6 hO3; have hs6 := E6.size; refine Wo_nil ?_; refine ⟨trivial, ?_⟩; refine Wh_all (rs := [15]) (by kernel_rfl) rfl ?_; refine WhAll_cons rfl ?_ ?_
        refine Wo_appD rfl elD36 rfl rfl (hO2.ext ((E4.trans E5).trans E6)) hO3 (by first | omega | (simp <;> omega)) (by omega) (((E3.trans E4).trans E5).trans E6) (by omega) ?_; rintro v1 w7 hO4 E7 G1; refine Wo_nil ?_
        refine ⟨trivial, ?_⟩; refine Wh_take 16 rfl (by kernel_rfl) (by kernel_rfl) rfl (fun _ _ => opv_assign (v := v1) rfl) trivial ?_; refine Wh_done (by kernel_rfl) ?_; rotate_left; exact WhAll_nil; exact WhAll_nil; exact WhAll_nil
        refine WhAll_cons rfl ?_ ?_; refine Wo_call rfl (opc1 (a := .string _) Tryd.call46 rfl) (l1Digits_ok _ _ (by assumption)) ?_; rintro _ w5 ⟨rfl, E5⟩; have hs5 := E5.size; refine Wo_nil ?_; refine ⟨trivial, ?_⟩
        refine Wh_take 13 rfl (by kernel_rfl) (by kernel_rfl) rfl (fun _ _ => opv_build (ps := [(0, .int _ _), (2, .int _ _)]) (cs := [_, _, _]) flat26 rfl rfl) trivial ?_; refine Wh_all (rs := [3]) (by kernel_rfl) rfl ?_
        refine WhAll_cons rfl ?_ ?_; refine Wo rfl (opv_load Tryd.isAgg9 rfl ((E4.trans E5).cell hcell)) ?_; refine Wo_nil ?_; refine ⟨trivial, ?_⟩
        refine Wh_take 4 rfl (by kernel_rfl) (by kernel_rfl) rfl (fun _ _ => opv_build (ps := [(0, .int _ _), (1, .string _)]) (cs := [_, _, _]) flat26 rfl rfl) trivial ?_; refine Wh_all (rs := [14]) (by kernel_rfl) rfl ?_
        refine WhAll_cons rfl ?_ ?_
        refine Wo_buildD3 (a1 := ⟨_, _, _⟩) (a2 := ⟨_, _, _⟩) (a3 := ⟨_, _, _⟩) rfl elD36 rfl rfl rfl (by first | assumption | omega | (simp <;> omega)) (by first | assumption | omega | (simp <;> omega)) (by first | assumption | omega | (simp <;> omega)) ?_
        rintro b3 w6 hb3 E6 hO3; have hs6 := E6.size; refine Wo_nil ?_; refine ⟨trivial, ?_⟩; refine Wh_all (rs := [15]) (by kernel_rfl) rfl ?_; refine WhAll_cons rfl ?_ ?_
        refine Wo_appD rfl elD36 rfl rfl (hO2.ext ((E4.trans E5).trans E6)) hO3 (by first | omega | (simp <;> omega)) (by omega) (((E3.trans E4).trans E5).trans E6) (by omega) ?_; rintro v1 w7 hO4 E7 G1; refine Wo_nil ?_
        refine ⟨trivial, ?_⟩; refine Wh_take 16 rfl (by kernel_rfl) (by kernel_rfl) rfl (fun _ _ => opv_assign (v := v1) rfl) trivial ?_; refine Wh_done (by kernel_rfl) ?_; rotate_left; exact WhAll_nil; exact WhAll_nil; exact WhAll_nil
        exact WhAll_nil; refine WhAll_cons rfl ?_ ?_; refine Wo_call rfl (opc1 (a := .string _) Tryd.call46 rfl) (l1Digits_ok _ _ (by assumption)) ?_; rintro _ w5 ⟨rfl, E5⟩; have hs5 := E5.size; refine Wo_nil ?_; refine ⟨trivial, ?_⟩
        refine Wh_take 13 rfl (by kernel_rfl) (by kernel_rfl) rfl (fun _ _ => opv_build (ps := [(0, .int _ _), (2, .int _ _)]) (cs := [_, _, _]) flat26 rfl rfl) trivial ?_; refine Wh_all (rs := [3, 7]) (by kernel_rfl) rfl ?_
        refine WhAll_cons rfl ?_ ?_; refine Wo rfl (opv_load Tryd.isAgg9 rfl ((E4.trans E5).cell hcell)) ?_; refine Wo_nil ?_; refine ⟨trivial, ?_⟩
        refine Wh_take 4 rfl (by kernel_rfl) (by kernel_rfl) rfl (fun _ _ => opv_build (ps := [(0, .int _ _), (1, .string _)]) (cs := [_, _, _]) flat26 rfl rfl) trivial ?_; refine Wh_all (rs := [7]) (by kernel_rfl) rfl ?_
        refine WhAll_cons rfl ?_ ?_; refine Wo rfl (opv_load Tryd.isAgg9 rfl ((E4.trans E5).cell hcell)) ?_; refine Wo_nil ?_; refine ⟨trivial, ?_⟩
        refine Wh_take 8 rfl (by kernel_rfl) (by kernel_rfl) rfl (fun _ _ => opv_build (ps := [(0, .int _ _), (1, .string _)]) (cs := [_, _, _]) flat26 rfl rfl) trivial ?_; refine Wh_all (rs := [14]) (by kernel_rfl) rfl ?_
        refine WhAll_cons rfl ?_ ?_
        refine Wo_buildD3 (a1 := ⟨_, _, _⟩) (a2 := ⟨_, _, _⟩) (a3 := ⟨_, _, _⟩) rfl elD36 rfl rfl rfl (by first | assumption | omega | (simp <;> omega)) (by first | assumption | omega | (simp <;> omega)) (by first | assumption | omega | (simp <;> omega)) ?_
        rintro b3 w6 hb3 E6 hO3; have hs6 := E6.size; refine Wo_nil ?_; refine ⟨trivial, ?_⟩; refine Wh_all (rs := [15]) (by kernel_rfl) rfl ?_; refine WhAll_cons rfl ?_ ?_
        refine Wo_appD rfl elD36 rfl rfl (hO2.ext ((E4.trans E5).trans E6)) hO3 (by first | omega | (simp <;> omega)) (by omega) (((E3.trans E4).trans E5).trans E6) (by omega) ?_; rintro v1 w7 hO4 E7 G1; refine Wo_nil ?_
        refine ⟨trivial, ?_⟩; refine Wh_take 16 rfl (by kernel_rfl) (by kernel_rfl) rfl (fun _ _ => opv_assign (v := v1) rfl) trivial ?_; refine Wh_done (by kernel_rfl) ?_; rotate_left; exact WhAll_nil; exact WhAll_nil; exact WhAll_nil
        refine WhAll_cons rfl ?_ ?_; refine Wo rfl (opv_load Tryd.isAgg9 rfl ((E4.trans E5).cell hcell)) ?_; refine Wo_nil ?_; refine ⟨trivial, ?_⟩
        refine Wh_take 8 rfl (by kernel_rfl) (by kernel_rfl) rfl (fun _ _ => opv_build (ps := [(0, .int _ _), (1, .string _)]) (cs := [_, _, _]) flat26 rfl rfl) trivial ?_; refine Wh_all (rs := [3]) (by kernel_rfl) rfl ?_
        refine WhAll_cons rfl ?_ ?_; refine Wo rfl (opv_load Tryd.isAgg9 rfl ((E4.trans E5).cell hcell)) ?_; refine Wo_nil ?_; refine ⟨trivial, ?_⟩
        refine Wh_take 4 rfl (by kernel_rfl) (by kernel_rfl) rfl (fun _ _ => opv_build (ps := [(0, .int _ _), (1, .string _)]) (cs := [_, _, _]) flat26 rfl rfl) trivial ?_; refine Wh_all (rs := [14]) (by kernel_rfl) rfl ?_
        refine WhAll_cons rfl ?_ ?_
        refine Wo_buildD3 (a1 := ⟨_, _, _⟩) (a2 := ⟨_, _, _⟩) (a3 := ⟨_, _, _⟩) rfl elD36 rfl rfl rfl (by first | assumption | omega | (simp <;> omega)) (by first | assumption | omega | (simp <;> omega)) (by first | assumption | omega | (simp <;> omega)) ?_
        rintro b3 w6 hb3 E6 hO3; have hs6 := E6.size; refine Wo_nil ?_; refine ⟨trivial, ?_⟩; refine Wh_all (rs := [15]) (by kernel_rfl) rfl ?_; refine WhAll_cons rfl ?_ ?_
        refine Wo_appD rfl elD36 rfl rfl (hO2.ext ((E4.trans E5).trans E6)) hO3 (by first | omega | (simp <;> omega)) (by omega) (((E3.trans E4).trans E5).trans E6) (by omega) ?_; rintro v1 w7 hO4 E7 G1; refine Wo_nil ?_
        refine ⟨trivial, ?_⟩; refine Wh_take 16 rfl (by kernel_rfl) (by kernel_rfl) rfl (fun _ _ => opv_assign (v := v1) rfl) trivial ?_; refine Wh_done (by kernel_rfl) ?_; rotate_left; exact WhAll_nil; exact WhAll_nil; exact WhAll_nil
        exact WhAll_nil; exact WhAll_nil; exact WhAll_nil
      all_goals exact ⟨_, ⟨rfl, trivial⟩, by repeat (first | with_reducible exact Same.refl | refine Same.upd rfl ?_ | refine Same.upds rfl ?_ | refine Same.mix rfl ?_), by assumption, by assumption⟩
    · have eL : L = [⟨0, [], 0⟩, ⟨4, [], 0⟩] := by rw [hL, rdL, if_neg h2]; rfl
      focus
        have szE3 := E3.size; have szE2 := E2.size; have szE1 := E1.size; refine W_cond_dec rfl (fun h1 => ?_) (fun h1 => ?_); (exfalso; omega); refine W_skip ?_
      subst eL
      exact ⟨_, ⟨rfl, trivial⟩, by repeat (first | with_reducible exact Same.refl | refine Same.upd rfl ?_ | refine Same.upds rfl ?_ | refine Same.mix rfl ?_), by assumption, by assumption⟩
  rintro v ρm w4 ⟨E4, hOL⟩
  have hRL := hOL.read
  clear hOL hO1 hL hz
  focus
    have szE4 := E4.size; have szE3 := E3.size; have szE2 := E2.size; have szE1 := E1.size; refine W_seq ?_; refine W_seq ?_; refine W_region rfl ?_; refine Wo rfl (opv_assign (v := .int _ _) rfl) ?_; refine Wo_nil ?_; refine W_block ?_
  refine W_loop [3, 6, 31, 32, 33, 34, 35, 36, 37, 38, 39, 40, 41, 42, 43, 44, 45, 46, 47, 48, 49, 50, 51] (fun (k : Nat) => [(6, .int .i64 (k : Nat))]) (fun k w' => Ext w4 w' ∧ k ≤ L.length ∧ ∀ (j : Nat) (h : j < L.length), j < k → s ≠ [] → dtV L[j] ≠ s) (fun k => L.length - k) 0 (by repeat (first | exact trivial | refine And.intro rfl ?_)) ?_ ?_
  · exact ⟨Ext.refl _, Nat.zero_le _, fun j h h2 => by omega⟩
  rintro k ρj w5 ⟨E5, hk, hno⟩
  by_cases hkl : k < L.length
  · have htk := htx k hkl
    have kd : ∀ (w : World), Does Tryd.prog 12 [dv L[k]] w (Ret w (str (dtV L[k]))) := fun w => spec_DeedText_ok w _ _ _ htk
    focus
      have szE5 := E5.size; have szE4 := E4.size; have szE3 := E3.size; have szE2 := E2.size; have szE1 := E1.size; refine W_seq ?_; refine W_seq ?_; refine W_region rfl ?_; refine Wo rfl (opv_move (v := .int _ _) rfl) ?_
      refine Wo rfl (opv_move (v := v) rfl) ?_; refine Wo rfl (opv_lenD Tryd.underlying36 rfl hRL) ?_; refine Wo rfl (opv_lss rfl rfl) ?_; refine Wo_nil ?_; refine W_cond_dec rfl (fun h1 => ?_) (fun h1 => ?_); refine W_skip ?_
      refine W_seq ?_; refine W_block ?_; refine W_seq ?_; refine W_region rfl ?_; refine Wo rfl (opv_move (v := .string _) rfl) ?_; refine Wo rfl (opv_neq_str rfl rfl) ?_
      refine Wo_split_ndec rfl (opv_move (v := .bool _) rfl) (fun h2 => ?_) (fun h2 => ?_); refine Wo rfl (opv_move (v := v) rfl) ?_; refine Wo rfl (opv_move (v := .int _ _) rfl) ?_
      refine Wo_getD Tryd.underlying36 Tryd.sizeOf26 Tryd.isAgg26 Tryd.sizeOf26 rfl (fun _ => rfl) rfl hRL E5 rfl (by first | omega | (simp <;> omega)) ?_; rintro _; refine Wo_call rfl (opc1 (a := .agg _) Tryd.call12 rfl) (kd _) ?_
      rintro _ w6 ⟨rfl, E6⟩; have hs4 := E6.size; refine Wo rfl (opv_move (v := .string _) rfl) ?_; refine Wo rfl (opv_eql_str rfl rfl) ?_; refine Wo rfl (opv_pick_t (v := .bool _) rfl rfl) ?_; refine Wo_nil ?_
      refine W_cond_dec rfl (fun h3 => ?_) (fun h3 => ?_); refine W_seq ?_; refine W_region rfl ?_; refine Wo rfl (opv_move (v := v) rfl) ?_; refine Wo rfl (opv_move (v := .int _ _) rfl) ?_
      refine Wo_getD Tryd.underlying36 Tryd.sizeOf26 Tryd.isAgg26 Tryd.sizeOf26 rfl (fun _ => rfl) rfl hRL (E5.trans E6) rfl (by first | omega | (simp <;> omega)) ?_; rintro _
      refine Wo_st3 rfl Tryd.sizeOf26 rfl rfl (by first | rfl | assumption) (by first | rfl | assumption) (by first | rfl | assumption) (hB1.ext (((E2.trans E4).trans E5).trans E6)) (by omega) ((((E1.trans E2).trans E4).trans E5).trans E6) ?_
      rintro w7 E7 hB1 K1 hz1; refine Wo rfl (opv_assign (v := .bool _) rfl) ?_; refine Wo_nil ?_; refine W_ret ?_; rotate_left; refine W_skip ?_; refine W_region rfl ?_; refine Wo rfl (opv_move (v := .int _ _) rfl) ?_
      refine Wo rfl (opv_add rfl rfl (by omega)) ?_; refine Wo rfl (opv_assign (v := .int _ _) rfl) ?_; refine Wo_nil ?_; rotate_left; refine Wo_skip rfl ?_; refine Wo_skip rfl ?_; refine Wo_skip rfl ?_; refine Wo_skip rfl ?_
      refine Wo_skip rfl ?_; refine Wo_skip rfl ?_; refine Wo_skip rfl ?_; refine Wo rfl (opv_pick_f (v := .bool _) rfl rfl) ?_; refine Wo_nil ?_; refine W_cond_false rfl ?_; refine W_skip ?_; refine W_region rfl ?_
      refine Wo rfl (opv_move (v := .int _ _) rfl) ?_; refine Wo rfl (opv_add rfl rfl (by omega)) ?_; refine Wo rfl (opv_assign (v := .int _ _) rfl) ?_; refine Wo_nil ?_; rotate_left; (exfalso; omega)
    · refine ⟨_, _, _, _, rfl, by assumption, ?_, by assumption⟩
      exact leaf_some (rdD_eq (by assumption) (by assumption)) rfl
    · refine ⟨(k + 1), by repeat (first | exact trivial | refine And.intro rfl ?_), by repeat (first | with_reducible exact Same.refl | refine Same.upd rfl ?_ | refine Same.upds rfl ?_ | refine Same.mix rfl ?_), ?_, ?_⟩
      · refine ⟨by first | assumption | exact E5.trans (by assumption), by omega, fun j h h2 hs0 => ?_⟩
        rcases Nat.lt_or_ge j k with h3 | h3
        · exact hno j h h3 hs0
        · obtain rfl : j = k := by omega
          assumption
      · omega
    · refine ⟨(k + 1), by repeat (first | exact trivial | refine And.intro rfl ?_), by repeat (first | with_reducible exact Same.refl | refine Same.upd rfl ?_ | refine Same.upds rfl ?_ | refine Same.mix rfl ?_), ?_, ?_⟩
      · exact ⟨by first | assumption | exact E5.trans (by assumption), by omega, fun j h h2 hs0 => absurd (by assumption) hs0⟩
      · omega
  · focus
      have szE5 := E5.size; have szE4 := E4.size; have szE3 := E3.size; have szE2 := E2.size; have szE1 := E1.size; refine W_seq ?_; refine W_seq ?_; refine W_region rfl ?_; refine Wo rfl (opv_move (v := .int _ _) rfl) ?_
      refine Wo rfl (opv_move (v := v) rfl) ?_; refine Wo rfl (opv_lenD Tryd.underlying36 rfl hRL) ?_; refine Wo rfl (opv_lss rfl rfl) ?_; refine Wo_nil ?_; refine W_cond_dec rfl (fun h1 => ?_) (fun h1 => ?_); (exfalso; omega)
      refine W_exit ?_; refine exitX_same ?_; refine W_seq ?_; refine W_region rfl ?_; refine Wo rfl (opv_build (ps := []) (cs := [_, _, _]) flat26 rfl rfl) ?_
      refine Wo_st3 rfl Tryd.sizeOf26 rfl rfl (by first | rfl | assumption) (by first | rfl | assumption) (by first | rfl | assumption) (hB1.ext ((E2.trans E4).trans E5)) (by omega) (((E1.trans E2).trans E4).trans E5) ?_
      rintro w6 E6 hB1 K1 hz1; refine Wo rfl (opv_assign (v := .bool _) rfl) ?_; refine Wo_nil ?_; refine W_ret ?_
    refine ⟨_, _, _, _, rfl, by assumption, ?_, by assumption⟩
    refine leaf_none ?_ rfl
    cases hr : rdD s with
    | none => rfl
    | some a =>
      obtain ⟨j, hj, e⟩ := List.mem_iff_getElem.1 (hall a hr)
      have h9 := rdD_some hr
      exact absurd (e ▸ h9.1) (hno j hj (by omega) h9.2)

end Go.Proofs.YtgphoihilheoeaaDoor
