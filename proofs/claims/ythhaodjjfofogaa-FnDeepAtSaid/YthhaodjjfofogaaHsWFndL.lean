/- Walks of the exact law on FoundedIn. -/
import Derived.Test.YthhaodjjfofogaaHsWFnd
namespace Go.Proofs.Ythhaodjjfofogaa
open Go.Hs
set_option maxRecDepth 10000
set_option maxHeartbeats 4000000
set_option linter.unusedVariables false
set_option linter.unusedSimpArgs false

theorem foundedV_len (p : List (List Int)) (z : Int) : (ints (foundedV p z)).length ≤ p.length := by
  rw [ints_len]; unfold foundedV
  split
  · exact Nat.le_trans (List.length_filter_le _ _) (by simp)
  · simp
theorem FnExactFoundedIn_walk (w : World) (v : Value) (p : List (List Int)) (h : ESl Ints w v p) (z : Int) (hz : -9223372036854775808 ≤ z ∧ z ≤ 9223372036854775807) :
    Does Try.prog 3 [v, .int .i64 z] w (Ret w (.bool true)) := by
  have hlen := foundedV_len p z
  refine fn_of_W1 Try.func3 rfl Try.results3 Try.ntmps3 rfl ?_
  focus
    refine W_seq ?_; refine W_region rfl ?_; refine Wo rfl (opv_assign (v := .bool _) rfl) ?_; refine Wo_nil ?_; refine W_seq ?_; refine W_region rfl ?_; refine Wo rfl (opv_assign (v := .int _ _) rfl) ?_; refine Wo_nil ?_
    refine W_seq ?_; refine W_region rfl ?_; refine Wo rfl (opv_move (v := v) rfl) ?_; refine Wo rfl (opv_move (v := .int _ _) rfl) ?_
    refine Wo_call rfl (opc2 (a := v) (b := .int _ _) Try.call13 rfl rfl) (szIntSS_ok _ _ _ (h) _ (by omega)) ?_; rintro _ w1 ⟨E1, y1, rfl, hy1⟩; have hs1 := E1.size; refine Wo rfl (opv_assign (v := .int _ _) rfl) ?_; refine Wo_nil ?_
    refine W_seq ?_; refine W_seq ?_; refine W_region rfl ?_; refine Wo rfl (opv_move (v := .int _ _) rfl) ?_; refine Wo rfl (opv_lss rfl rfl) ?_; refine Wo_nil ?_; refine W_cond_dec rfl (fun h1 => ?_) (fun h1 => ?_); refine W_seq ?_
    refine W_region rfl ?_; refine Wo rfl (opv_assign (v := .bool _) rfl) ?_; refine Wo_nil ?_; refine W_ret ?_; exact ⟨rfl, E1⟩; refine W_skip ?_; refine W_seq ?_; refine W_region rfl ?_; refine Wo rfl (opv_move (v := v) rfl) ?_
  rcases hy1 with h9 | ⟨h5, h6, h7, h7', h8⟩
  · omega
  focus
    have szE1 := E1.size; refine Wo_call rfl (opc1 (a := v) Try.call15 rfl) (toIntSS_ok _ _ _ ((Mono.mono E1 h)) (by assumption) (by assumption)) ?_; rintro u1 w2 ⟨E2, hO1⟩; have hs2 := E2.size
    refine Wo rfl (opv_move (v := .int _ _) rfl) ?_; refine Wo_call rfl (opc2 (a := u1) (b := .int _ _) Try.call14 rfl rfl) (spec_FoundedIn_ok _ _ _ _ ((Owned.read hO1))) ?_; rintro u2 w3 ⟨E3, hO2⟩; have hs3 := E3.size
    refine Wo rfl (opv_assign (v := u2) rfl) ?_; refine Wo_nil ?_; refine W_seq ?_; refine W_region rfl ?_; refine Wo rfl (opv_move (v := v) rfl) ?_
    refine Wo_call rfl (opc1 (a := v) Try.call15 rfl) (toIntSS_ok _ _ _ ((Mono.mono ((E1.trans E2).trans E3) h)) (by assumption) (by assumption)) ?_; rintro u3 w4 ⟨E4, hO3⟩; have hs4 := E4.size
    refine Wo rfl (opv_assign (v := u3) rfl) ?_; refine Wo_nil ?_; refine W_seq ?_; refine W_region rfl ?_; refine Wo rfl (opv_move (v := u3) rfl) ?_; refine Wo rfl (opv_move (v := .int _ _) rfl) ?_
    refine Wo_call rfl (opc2 (a := u3) (b := .int _ _) Try.call16 rfl rfl) (impl_FoundedIn_ok _ _ _ _ ((Owned.read hO3))) ?_; rintro u4 w5 ⟨E5, hO4⟩; have hs5 := E5.size; refine Wo rfl (opv_assign (v := u4) rfl) ?_; refine Wo_nil ?_
    refine W_seq ?_; refine W_seq ?_; refine W_region rfl ?_; refine Wo rfl (opv_move (v := u4) rfl) ?_; refine Wo rfl (opv_move (v := u2) rfl) ?_
    refine Wo_call rfl (opc2 (a := u4) (b := u2) Try.call17 rfl rfl) (eqIntS_ok _ _ _ _ _ ((Owned.read hO4)) ((Mono.mono (E4.trans E5) (Owned.read hO2)))) ?_; rintro _ w6 ⟨rfl, E6⟩; have hs6 := E6.size; refine Wo rfl (opv_not rfl) ?_
    refine Wo_nil ?_; refine W_cond_ndec rfl (fun h2 => ?_) (fun h2 => ?_); contradiction; refine W_skip ?_; refine W_seq ?_; refine W_seq ?_; refine W_region rfl ?_; refine Wo rfl (opv_move (v := u3) rfl) ?_
    refine Wo rfl (opv_move (v := v) rfl) ?_; refine Wo_call rfl (opc1 (a := v) Try.call15 rfl) (toIntSS_ok _ _ _ ((Mono.mono (((((E1.trans E2).trans E3).trans E4).trans E5).trans E6) h)) (by assumption) (by assumption)) ?_
    rintro u5 w7 ⟨E7, hO5⟩; have hs7 := E7.size; refine Wo_call rfl (opc2 (a := u3) (b := u5) Try.call18 rfl rfl) (eqIntSS_ok _ _ _ _ _ ((Mono.mono ((E5.trans E6).trans E7) (Owned.read hO3))) ((Owned.read hO5))) ?_
    rintro _ w8 ⟨rfl, E8⟩; have hs8 := E8.size; refine Wo rfl (opv_not rfl) ?_; refine Wo_nil ?_; refine W_cond_ndec rfl (fun h3 => ?_) (fun h3 => ?_); contradiction; refine W_skip ?_; refine W_seq ?_; refine W_region rfl ?_
    refine Wo rfl (opv_assign (v := .int _ _) rfl) ?_; refine Wo_nil ?_; refine W_seq ?_; refine W_region rfl ?_; refine Wo rfl (opv_move (v := u3) rfl) ?_; refine Wo rfl (opv_move (v := .int _ _) rfl) ?_
    refine Wo_call rfl (opc2 (a := u3) (b := .int _ _) Try.call19 rfl rfl) (markIntSS_ok _ _ _ ((hO3.toB.ext (((E5.trans E6).trans E7).trans E8))) _ (by omega) (by assumption) (by omega)) ?_; rintro _ w9 ⟨rfl, E9, hO6⟩
    have hO1 := (hO1.toB.ext (((((E3.trans E4).trans E5).trans E6).trans E7).trans E8)).span E9 (by omega); have hO2 := (hO2.toB.ext ((((E4.trans E5).trans E6).trans E7).trans E8)).span E9 (by omega)
    have hO4 := (hO4.toB.ext ((E6.trans E7).trans E8)).span E9 (by omega); have hO5 := (hO5.toB.ext E8).span E9 (by omega); have E10 := (((((((E1.trans E2).trans E3).trans E4).trans E5).trans E6).trans E7).trans E8).span E9 (by omega)
    have E11 := (((((((E2.trans E3).trans E4).trans E5).trans E6).trans E7).trans E8)).span E9 (by omega); have szE11 := E11.size; have E12 := ((((((E3.trans E4).trans E5).trans E6).trans E7).trans E8)).span E9 (by omega)
    have szE12 := E12.size; have E13 := (((((E4.trans E5).trans E6).trans E7).trans E8)).span E9 (by omega); have szE13 := E13.size; have hs9 := E9.size; refine Wo rfl (opv_assign (v := .int _ _) rfl) ?_; refine Wo_nil ?_
    refine W_seq ?_; refine W_seq ?_; refine W_region rfl ?_; refine Wo rfl (opv_move (v := .int _ _) rfl) ?_; refine Wo rfl (opv_lss rfl rfl) ?_; refine Wo_split_dec rfl (opv_move (v := .bool _) rfl) (fun h4 => ?_) (fun h4 => ?_)
    contradiction; refine Wo rfl (opv_move (v := u4) rfl) ?_; refine Wo rfl (opv_move (v := u2) rfl) ?_; refine Wo_call rfl (opc2 (a := u4) (b := u2) Try.call17 rfl rfl) (eqIntS_ok _ _ _ _ _ ((OwnedB.read hO4)) ((OwnedB.read hO2))) ?_
    rintro _ w10 ⟨rfl, E14⟩; have hs10 := E14.size; refine Wo rfl (opv_not rfl) ?_; refine Wo rfl (opv_pick_f (v := .bool _) rfl rfl) ?_; refine Wo_nil ?_; refine W_cond_ndec rfl (fun h9 => ?_) (fun h9 => ?_); contradiction
    refine W_skip ?_; refine W_seq ?_; refine W_region rfl ?_; refine Wo rfl (opv_assign (v := .int _ _) rfl) ?_; refine Wo_nil ?_; refine W_seq ?_; refine W_region rfl ?_; refine Wo rfl (opv_move (v := u4) rfl) ?_
    refine Wo rfl (opv_move (v := .int _ _) rfl) ?_; refine Wo_call rfl (opc2 (a := u4) (b := .int _ _) Try.call20 rfl rfl) (markIntS_ok _ _ _ ((hO4.ext E14)) _ (by omega) (by omega)) ?_; rintro _ w11 ⟨rfl, E15, hO7⟩
    have hO6 := (hO6.ext E14).span E15 (by omega); have hO1 := (hO1.ext E14).span E15 (by omega); have hO2 := (hO2.ext E14).span E15 (by omega); have hO5 := (hO5.ext E14).span E15 (by omega)
    have E16 := (E10.trans E14).span E15 (by omega); have E17 := ((E11.trans E14)).span E15 (by omega); have szE17 := E17.size; have E18 := ((E12.trans E14)).span E15 (by omega); have szE18 := E18.size
    have E19 := ((E13.trans E14)).span E15 (by omega); have szE19 := E19.size; have hs11 := E15.size; refine Wo rfl (opv_assign (v := .int _ _) rfl) ?_; refine Wo_nil ?_; refine W_seq ?_; refine W_region rfl ?_
    refine Wo rfl (opv_assign (v := .int _ _) rfl) ?_; refine Wo_nil ?_; refine W_seq ?_; refine W_region rfl ?_; refine Wo rfl (opv_move (v := u4) rfl) ?_; refine Wo rfl (opv_move (v := .int _ _) rfl) ?_
    refine Wo_call rfl (opc2 (a := u4) (b := .int _ _) Try.call21 rfl rfl) (heldIntS_ok _ _ _ _ ((OwnedB.read hO7)) (by omega) (by omega)) ?_; rintro _ w12 ⟨rfl, E20⟩; have hs12 := E20.size
    refine Wo rfl (opv_assign (v := .int _ _) rfl) ?_; refine Wo_nil ?_; refine W_seq ?_; refine W_seq ?_; refine W_region rfl ?_; refine Wo rfl (opv_move (v := .int _ _) rfl) ?_; refine Wo rfl (opv_lss rfl rfl) ?_; refine Wo_nil ?_
    refine W_cond_dec rfl (fun h10 => ?_) (fun h10 => ?_); contradiction; refine W_skip ?_; refine W_seq ?_; refine W_seq ?_; refine W_region rfl ?_; refine Wo rfl (opv_move (v := .int _ _) rfl) ?_
    refine Wo rfl (opv_move (v := .int _ _) rfl) ?_; refine Wo rfl (opv_neq rfl rfl) ?_; refine Wo_nil ?_; refine W_cond_ndec rfl (fun h11 => ?_) (fun h11 => ?_); contradiction; refine W_skip ?_; refine W_seq ?_; refine W_region rfl ?_
    refine Wo rfl (opv_move (v := v) rfl) ?_; refine Wo_call rfl (opc1 (a := v) Try.call15 rfl) (toIntSS_ok _ _ _ ((Mono.mono (E16.trans E20) h)) (by assumption) (by assumption)) ?_; rintro u6 w13 ⟨E21, hO8⟩; have hs13 := E21.size
    refine Wo rfl (opv_move (v := .int _ _) rfl) ?_; refine Wo_call rfl (opc2 (a := u6) (b := .int _ _) Try.call16 rfl rfl) (impl_FoundedIn_ok _ _ _ _ ((Owned.read hO8))) ?_; rintro u7 w14 ⟨E22, hO9⟩; have hs14 := E22.size
    refine Wo rfl (opv_assign (v := u7) rfl) ?_; refine Wo_nil ?_; refine W_seq ?_; refine W_seq ?_; refine W_region rfl ?_; refine Wo rfl (opv_move (v := u7) rfl) ?_; refine Wo rfl (opv_move (v := u2) rfl) ?_
    refine Wo_call rfl (opc2 (a := u7) (b := u2) Try.call17 rfl rfl) (eqIntS_ok _ _ _ _ _ ((Owned.read hO9)) ((Mono.mono ((E20.trans E21).trans E22) (OwnedB.read hO2)))) ?_; rintro _ w15 ⟨rfl, E23⟩; have hs15 := E23.size
    refine Wo rfl (opv_not rfl) ?_; refine Wo_nil ?_; refine W_cond_ndec rfl (fun h12 => ?_) (fun h12 => ?_); contradiction; refine W_skip ?_; refine W_seq ?_; refine W_region rfl ?_; refine Wo rfl (opv_assign (v := .int _ _) rfl) ?_
    refine Wo_nil ?_; refine W_seq ?_; refine W_region rfl ?_; refine Wo rfl (opv_move (v := u4) rfl) ?_; refine Wo rfl (opv_move (v := .int _ _) rfl) ?_
    refine Wo_call rfl (opc2 (a := u4) (b := .int _ _) Try.call21 rfl rfl) (heldIntS_ok _ _ _ _ ((Mono.mono (((E20.trans E21).trans E22).trans E23) (OwnedB.read hO7))) (by omega) (by omega)) ?_; rintro _ w16 ⟨rfl, E24⟩
    have hs16 := E24.size; refine Wo rfl (opv_assign (v := .int _ _) rfl) ?_; refine Wo_nil ?_; refine W_seq ?_; refine W_seq ?_; refine W_region rfl ?_; refine Wo rfl (opv_move (v := .int _ _) rfl) ?_
    refine Wo rfl (opv_lss rfl rfl) ?_; refine Wo_nil ?_; refine W_cond_dec rfl (fun h13 => ?_) (fun h13 => ?_); contradiction; refine W_skip ?_; refine W_seq ?_; refine W_seq ?_; refine W_region rfl ?_
    refine Wo rfl (opv_move (v := .int _ _) rfl) ?_; refine Wo rfl (opv_move (v := .int _ _) rfl) ?_; refine Wo rfl (opv_neq rfl rfl) ?_; refine Wo_nil ?_; refine W_cond_ndec rfl (fun h14 => ?_) (fun h14 => ?_); contradiction
    refine W_skip ?_; refine W_seq ?_; refine W_region rfl ?_; refine Wo rfl (opv_assign (v := .bool _) rfl) ?_; refine Wo_nil ?_; refine W_ret ?_; exact ⟨rfl, (((((E16.trans E20).trans E21).trans E22).trans E23).trans E24)⟩

end Go.Proofs.Ythhaodjjfofogaa
