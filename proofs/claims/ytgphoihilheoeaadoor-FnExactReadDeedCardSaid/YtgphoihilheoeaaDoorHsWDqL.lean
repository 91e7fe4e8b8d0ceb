/- Walks: the law FnExactReadDeed. -/
import Derived.Test.YtgphoihilheoeaaDoorHsWDq
namespace Go.Proofs.YtgphoihilheoeaaDoor
open Go.Hs
set_option maxRecDepth 10000
set_option maxHeartbeats 4000000
set_option linter.unusedVariables false
set_option linter.unusedSimpArgs false

theorem impl_ReadDeed_ok (w : World) (s : List UInt8) (hM : EMx gMx w (.bool true) ()) (hs : s.length ≤ 1048576) :
    Does Tryd.prog 16 [str s] w (Ret w (.tuple #[dv ((rdD s).getD ⟨0, [], 0⟩), .bool (rdD s).isSome])) := by
  refine fn_of_Wc3t Tryd.func16 rfl Tryd.results16 Tryd.ntmps16 rfl Tryd.isAgg26 Tryd.sizeOf26 ?_
  focus
    refine W_seq ?_; refine W_region rfl ?_; refine Wo_allocN rfl flat26 ?_; rintro b1 w1 hb1 E1 hB1; have hlb1 := hB1.lt; have hs1 := E1.size; refine Wo rfl (opv_assign (v := .bool _) rfl) ?_; refine Wo_nil ?_; refine W_seq ?_
    refine W_region rfl ?_; refine Wo rfl (opv_move (v := .string _) rfl) ?_; refine Wo_call rfl (opc1 (a := .string _) Tryd.call47 rfl) (impl_readDeed_ok _ _ ((Mono.mono E1 hM)) (by assumption)) ?_; rintro _ w2 ⟨rfl, E2⟩
    have hs2 := E2.size; refine Wo rfl (opv_extract (v := .agg _) rfl rfl) ?_; refine Wo rfl (opv_extract (v := .bool _) rfl rfl) ?_
    refine Wo_st3 rfl Tryd.sizeOf26 rfl rfl (by first | rfl | assumption) (by first | rfl | assumption) (by first | rfl | assumption) (hB1.ext E2) (by omega) (E1.trans E2) ?_; rintro w3 E3 hB1 K1 hz1
    refine Wo rfl (opv_assign (v := .bool _) rfl) ?_; refine Wo_nil ?_; refine W_ret ?_
  exact ⟨_, _, _, _, rfl, by assumption, ⟨rfl, by assumption⟩⟩

theorem FnExactReadDeed_walk (w : World) (hM : EMx gMx w (.bool true) ()) (s : List UInt8) (hs : s.length ≤ 9223372036854775807) :
    Does Tryd.prog 4 [str s] w (Ret w (.bool true)) := by
  refine fn_of_W1 Tryd.func4 rfl Tryd.results4 Tryd.ntmps4 rfl ?_
  focus
    refine W_seq ?_; refine W_region rfl ?_; refine Wo rfl (opv_assign (v := .bool _) rfl) ?_; refine Wo_nil ?_; refine W_seq ?_; refine W_seq ?_; refine W_region rfl ?_; refine Wo rfl (opv_move (v := .string _) rfl) ?_
    refine Wo rfl (opv_len_str Tryd.underlying9 rfl) ?_; refine Wo rfl (opv_gtr rfl rfl) ?_; refine Wo_nil ?_; refine W_cond_dec rfl (fun h1 => ?_) (fun h1 => ?_); refine W_seq ?_; refine W_region rfl ?_
    refine Wo rfl (opv_assign (v := .bool _) rfl) ?_; refine Wo_nil ?_; refine W_ret ?_; exact ⟨rfl, (Ext.refl _)⟩; refine W_skip ?_; refine W_seq ?_; refine W_region rfl ?_; refine Wo rfl (opv_move (v := .string _) rfl) ?_
    refine Wo_call rfl (opc1 (a := .string _) Tryd.call15 rfl) (spec_ReadDeed_ok _ _ (by omega)) ?_; rintro _ w1 ⟨rfl, E1⟩; have hs1 := E1.size; refine Wo rfl (opv_move (v := .tuple _) rfl) ?_
    refine Wo rfl (opv_extract (v := .agg _) rfl rfl) ?_; refine Wo rfl (opv_extract (v := .bool _) rfl rfl) ?_; refine Wo_allocN rfl flat26 ?_; rintro b1 w2 hb1 E2 hB1; have hlb1 := hB1.lt; have hs2 := E2.size
    refine Wo_st3 rfl Tryd.sizeOf26 rfl rfl (by first | rfl | assumption) (by first | rfl | assumption) (by first | rfl | assumption) hB1 (by omega) (E1.trans E2) ?_; rintro w3 E3 hB1 K1 hz1
    have E4 := E2.wroteAt (E1.trans E2) E3 K1 hz1 (by omega); have szE4 := E4.size; refine Wo rfl (opv_assign (v := .bool _) rfl) ?_; refine Wo_nil ?_; refine W_seq ?_; refine W_region rfl ?_
    refine Wo rfl (opv_move (v := .string _) rfl) ?_; refine Wo_call rfl (opc1 (a := .string _) Tryd.call16 rfl) (impl_ReadDeed_ok _ _ ((Mono.mono E3 hM)) (by omega)) ?_; rintro _ w4 ⟨rfl, E5⟩; have hs3 := E5.size
    refine Wo rfl (opv_move (v := .tuple _) rfl) ?_; refine Wo rfl (opv_extract (v := .agg _) rfl rfl) ?_; refine Wo rfl (opv_extract (v := .bool _) rfl rfl) ?_; refine Wo_allocN rfl flat26 ?_; rintro b2 w5 hb2 E6 hB2
    have hlb2 := hB2.lt; have hs4 := E6.size; refine Wo_st3 rfl Tryd.sizeOf26 rfl rfl (by first | rfl | assumption) (by first | rfl | assumption) (by first | rfl | assumption) hB2 (by omega) ((E3.trans E5).trans E6) ?_
    rintro w6 E7 hB2 K2 hz2; have E8 := ((E4.trans E5).trans E6).wroteAt ((E3.trans E5).trans E6) E7 K2 hz2 (by omega); have szE8 := E8.size; have E9 := (E5.trans E6).wroteAt ((E3.trans E5).trans E6) E7 K2 hz2 (by omega)
    have szE9 := E9.size; have E10 := E6.wroteAt ((E3.trans E5).trans E6) E7 K2 hz2 (by omega); have szE10 := E10.size; have hB1 := (hB1.ext (E5.trans E6)).of_heap (K2 _ (by omega)); refine Wo rfl (opv_assign (v := .bool _) rfl) ?_
    refine Wo_nil ?_; refine W_seq ?_; refine W_seq ?_; refine W_region rfl ?_; refine Wo (v := .agg _) rfl (opv_load3 Tryd.isAgg26 Tryd.sizeOf26 rfl hB2) ?_; refine Wo (v := .agg _) rfl (opv_load3 Tryd.isAgg26 Tryd.sizeOf26 rfl hB1) ?_
    refine Wo_call rfl (opc2 (a := .agg _) (b := .agg _) Tryd.call17 rfl rfl) (eqDeed_ok _ _ _ _ _ _ _) ?_; rintro _ w7 ⟨rfl, E11⟩; have hs5 := E11.size; refine Wo rfl (opv_not rfl) ?_
    refine Wo_split_ndec rfl (opv_move (v := .bool _) rfl) (fun h2 => ?_) (fun h2 => ?_); contradiction; refine Wo rfl (opv_move (v := .bool _) rfl) ?_; refine Wo rfl (opv_move (v := .bool _) rfl) ?_
    refine Wo rfl (opv_neq_bool Tryd.underlying4 rfl rfl) ?_; refine Wo rfl (opv_pick_f (v := .bool _) rfl rfl) ?_; refine Wo_nil ?_; refine W_cond_ndec rfl (fun h3 => ?_) (fun h3 => ?_); contradiction; refine W_skip ?_; refine W_seq ?_
    refine W_region rfl ?_; refine Wo rfl (opv_assign (v := .bool _) rfl) ?_; refine Wo_nil ?_; refine W_ret ?_; exact ⟨rfl, (E7.trans E11)⟩

end Go.Proofs.YtgphoihilheoeaaDoor
