/- Walks: the exact laws' own loops over streams. -/
import Derived.Test.YtlalfmialbolhaaHsWStr
import Derived.Test.YtlalfmialbolhaaHsStr2
import Derived.Test.YtlalfmialbolhaaHsWGen
import Derived.Test.YtlalfmialbolhaaHsWMark
namespace Go.Proofs.Ytlalfmialbolhaa
open Go.Hs
set_option maxRecDepth 10000
set_option maxHeartbeats 4000000
set_option linter.unusedVariables false
set_option linter.unusedSimpArgs false
theorem own_wide {α : Type} {X : World → List Nat → Value → α → Prop} {w : World} {v : Value} {x : α} {lo hi lo' hi' : Nat} (h : OwnedB lo hi X w v x) (h1 : lo' ≤ lo) (h2 : hi ≤ hi') : OwnedB lo' hi' X w v x := by
  obtain ⟨fp, k1, k2, k3⟩ := h
  exact ⟨fp, k1, fun k hk => by have := k2 k hk; omega, k3⟩
theorem ext_span {w w' : World} {lo hi : Nat} (E : Ext w w') : Span lo hi w w' := ⟨E.os, E.tape, E.output, E.size, fun k _ hl => E.block k hl⟩

theorem szStream_ok (w : World) (u1 u2 : Value) (A B : List Int) (h1 : Ints w u1 A) (h2 : Ints w u2 B) (left : Int) (hl : 0 ≤ left ∧ left ≤ 1048576) :
    Does Try.prog 21 [.agg #[u1, u2], .int .i64 left] w (RetX w (Value.int .i64) (fun n _ => n = -1 ∨ (0 ≤ n ∧ n = left - A.length - B.length ∧ A.length ≤ 1048576 ∧ B.length ≤ 1048576))) := by
  refine fn_of_W1 Try.func21 rfl Try.results21 Try.ntmps21 rfl ?_
  focus
    refine W_seq ?_; refine W_region rfl ?_; refine Wo_box rfl rfl rfl ?_; rintro b1 w1 hb1 E1 hB1; have hlb1 := hB1.lt; have hs1 := E1.size; refine Wo rfl (opv_assign (v := .int _ _) rfl) ?_; refine Wo_nil ?_; refine W_seq ?_
    refine W_region rfl ?_; refine Wo rfl (opv_fieldAddr Try.underlying34 rfl rfl Try.sizeOf23 rfl) ?_; refine Wo (v := u1) rfl (opv_load Try.isAgg23 rfl (hB1.cell rfl)) ?_; refine Wo rfl (opv_move (v := .int _ _) rfl) ?_
    refine Wo_call rfl (opc2 (a := u1) (b := .int _ _) Try.call64 rfl rfl) (szIntS_ok _ _ _ ((Mono.mono E1 h1)) _ (by assumption)) ?_; rintro _ w2 ⟨E2, y1, rfl, hy1⟩; have hs2 := E2.size
    refine Wo rfl (opv_assign (v := .int _ _) rfl) ?_; refine Wo_nil ?_; refine W_seq ?_; refine W_seq ?_; refine W_region rfl ?_; refine Wo rfl (opv_move (v := .int _ _) rfl) ?_; refine Wo rfl (opv_lss rfl rfl) ?_; refine Wo_nil ?_
    refine W_cond_dec rfl (fun h3 => ?_) (fun h3 => ?_); refine W_seq ?_; refine W_region rfl ?_; refine Wo rfl (opv_assign (v := .int _ _) rfl) ?_; refine Wo_nil ?_; refine W_ret ?_; refine at_ret (v := .int _ _) rfl ?_
    refine ⟨(E1.trans E2), _, rfl, ?_⟩; (try dsimp only); rotate_left; refine W_skip ?_; refine W_seq ?_; refine W_region rfl ?_; refine Wo rfl (opv_fieldAddr Try.underlying34 rfl rfl Try.sizeOf23 rfl) ?_
    refine Wo (v := u2) rfl (opv_load Try.isAgg23 rfl ((hB1.ext E2).cell rfl)) ?_; refine Wo rfl (opv_move (v := .int _ _) rfl) ?_
    refine Wo_call rfl (opc2 (a := u2) (b := .int _ _) Try.call64 rfl rfl) (szIntS_ok _ _ _ ((Mono.mono (E1.trans E2) h2)) _ (by omega)) ?_; rintro _ w3 ⟨E3, y2, rfl, hy2⟩; have hs3 := E3.size
    refine Wo rfl (opv_assign (v := .int _ _) rfl) ?_; refine Wo_nil ?_; refine W_seq ?_; refine W_seq ?_; refine W_region rfl ?_; refine Wo rfl (opv_move (v := .int _ _) rfl) ?_; refine Wo rfl (opv_lss rfl rfl) ?_; refine Wo_nil ?_
    refine W_cond_dec rfl (fun h4 => ?_) (fun h4 => ?_); refine W_seq ?_; refine W_region rfl ?_; refine Wo rfl (opv_assign (v := .int _ _) rfl) ?_; refine Wo_nil ?_; refine W_ret ?_; refine at_ret (v := .int _ _) rfl ?_
    refine ⟨((E1.trans E2).trans E3), _, rfl, ?_⟩; (try dsimp only); rotate_left; refine W_skip ?_; refine W_seq ?_; refine W_region rfl ?_; refine Wo rfl (opv_move (v := .int _ _) rfl) ?_
    refine Wo rfl (opv_assign (v := .int _ _) rfl) ?_; refine Wo_nil ?_; refine W_ret ?_; refine at_ret (v := .int _ _) rfl ?_; refine ⟨((E1.trans E2).trans E3), _, rfl, ?_⟩; (try dsimp only); rotate_left
  all_goals first | exact .inl rfl | (right; omega)

theorem toStream_ok (w : World) (u1 u2 : Value) (A B : List Int) (h1 : Ints w u1 A) (h2 : Ints w u2 B) (hA : A.length ≤ 1048576) (hB : B.length ≤ 1048576) : Does Try.prog 23 [.agg #[u1, u2]] w (RetS2 w 3 A B) := by
  refine fn_of_Wc Try.func23 rfl Try.results23 Try.ntmps23 rfl Try.isAgg25 Try.sizeOf25 ?_
  focus
    refine W_seq ?_; refine W_region rfl ?_; refine Wo_box rfl rfl rfl ?_; rintro b1 w1 hb1 E1 hB1; have hlb1 := hB1.lt; have hs1 := E1.size; refine Wo_alloc2 rfl flat25 ?_; rintro b2 w2 hb2 E2 hB2; have hlb2 := hB2.lt
    have hs2 := E2.size; refine Wo_nil ?_; refine W_seq ?_; refine W_region rfl ?_; refine Wo_alloc2 rfl flat25 ?_; rintro b3 w3 hb3 E3 hB3; have hlb3 := hB3.lt; have hs3 := E3.size; refine Wo_nil ?_; refine W_seq ?_
    refine W_region rfl ?_; refine Wo rfl (opv_fieldAddr Try.underlying34 rfl rfl Try.sizeOf23 rfl) ?_; refine Wo (v := u1) rfl (opv_load Try.isAgg23 rfl ((hB1.ext (E2.trans E3)).cell rfl)) ?_
    refine Wo_call rfl (opc1 (a := u1) Try.call65 rfl) (toIntS_ok _ _ _ ((Mono.mono ((E1.trans E2).trans E3) h1)) (by assumption)) ?_; rintro u3 w4 ⟨E4, hO1⟩; have hs4 := E4.size
    refine Wo rfl (opv_fieldAddr Try.underlying25 rfl rfl Try.sizeOf23 rfl) ?_; refine Wo_st (v := u3) rfl Try.sizeOf23 rfl rfl (OwnedB.isC hO1.toB) (hB3.ext E4) (by decide) (by omega) (((E1.trans E2).trans E3).trans E4) ?_
    rintro w5 E5 hB3 K1 hz1; have E6 := ((E2.trans E3).trans E4).wroteAt (((E1.trans E2).trans E3).trans E4) E5 K1 hz1 (by omega); have szE6 := E6.size
    have E7 := (E3.trans E4).wroteAt (((E1.trans E2).trans E3).trans E4) E5 K1 hz1 (by omega); have szE7 := E7.size; simp only [List.set] at hB3; have hB1 := (hB1.ext ((E2.trans E3).trans E4)).of_heap (K1 _ (by omega))
    have hB2 := (hB2.ext (E3.trans E4)).of_heap (K1 _ (by omega)); have hO1 := hO1.toB.wrote K1 (by omega); refine Wo_nil ?_; refine W_seq ?_; refine W_region rfl ?_
    refine Wo rfl (opv_fieldAddr Try.underlying34 rfl rfl Try.sizeOf23 rfl) ?_; refine Wo (v := u2) rfl (opv_load Try.isAgg23 rfl (hB1.cell rfl)) ?_
    refine Wo_call rfl (opc1 (a := u2) Try.call65 rfl) (toIntS_ok _ _ _ ((Mono.mono E5 h2)) (by assumption)) ?_; rintro u4 w6 ⟨E8, hO2⟩; have hs5 := E8.size; refine Wo rfl (opv_fieldAddr Try.underlying25 rfl rfl Try.sizeOf23 rfl) ?_
    refine Wo_st (v := u4) rfl Try.sizeOf23 rfl rfl (OwnedB.isC hO2.toB) (hB3.ext E8) (by simp) (by omega) (E5.trans E8) ?_; rintro w7 E9 hB3 K2 hz2; have E10 := (E6.trans E8).wroteAt (E5.trans E8) E9 K2 hz2 (by omega)
    have szE10 := E10.size; have E11 := (E7.trans E8).wroteAt (E5.trans E8) E9 K2 hz2 (by omega); have szE11 := E11.size; simp only [List.set] at hB3; have hB1 := (hB1.ext E8).of_heap (K2 _ (by omega))
    have hB2 := (hB2.ext E8).of_heap (K2 _ (by omega)); have hO1 := (hO1.ext E8).wrote K2 (by omega); have hO2 := hO2.toB.wrote K2 (by omega); refine Wo_nil ?_; refine W_seq ?_; refine W_region rfl ?_
    refine Wo (v := .agg _) rfl (opv_load2 Try.isAgg25 Try.sizeOf25 rfl hB3) ?_
  have ic1 := OwnedB.isC hO1
  have ic2 := OwnedB.isC hO2
  focus
    have szE11 := E11.size; have szE10 := E10.size; have szE9 := E9.size; have szE8 := E8.size; have szE7 := E7.size; have szE6 := E6.size; have szE5 := E5.size; have szE4 := E4.size; have szE3 := E3.size; have szE2 := E2.size
    have szE1 := E1.size; refine Wo_st2 rfl Try.sizeOf25 rfl rfl (by first | rfl | assumption) (by first | rfl | assumption) hB2 (by omega) E9 ?_; rintro w8 E12 hB2 K3 hz3; have E13 := E10.wroteAt E9 E12 K3 hz3 (by omega)
    have szE13 := E13.size; have hB3 := hB3.of_heap (K3 _ (by omega)); have hB1 := hB1.of_heap (K3 _ (by omega)); have hO1 := hO1.wrote K3 (by omega); have hO2 := hO2.wrote K3 (by omega); refine Wo_nil ?_; refine W_ret ?_
  exact ⟨_, _, _, rfl, hB2, _, _, rfl, by assumption, hO1.o.mono (by omega), hO2.o.mono (by omega), own_disj hO1 hO2 (by omega)⟩

theorem eqStream_ok (w : World) (u1 u2 v1 v2 : Value) (A B A' B' : List Int) (h1 : Ints w u1 A) (h2 : Ints w u2 B) (h3 : Ints w v1 A') (h4 : Ints w v2 B') : Does Try.prog 24 [.agg #[u1, u2], .agg #[v1, v2]] w (Ret w (.bool (decide (A = A') && decide (B = B')))) := by
  refine fn_of_W1 Try.func24 rfl Try.results24 Try.ntmps24 rfl ?_
  focus
    refine W_seq ?_; refine W_region rfl ?_; refine Wo_box rfl rfl rfl ?_; rintro b1 w1 hb1 E1 hB1; have hlb1 := hB1.lt; have hs1 := E1.size; refine Wo_box rfl rfl rfl ?_; rintro b2 w2 hb2 E2 hB2; have hlb2 := hB2.lt
    have hs2 := E2.size; refine Wo rfl (opv_assign (v := .bool _) rfl) ?_; refine Wo_nil ?_; refine W_seq ?_; refine W_seq ?_; refine W_region rfl ?_; refine Wo rfl (opv_fieldAddr Try.underlying25 rfl rfl Try.sizeOf23 rfl) ?_
    refine Wo (v := u1) rfl (opv_load Try.isAgg23 rfl ((hB1.ext E2).cell rfl)) ?_; refine Wo rfl (opv_fieldAddr Try.underlying25 rfl rfl Try.sizeOf23 rfl) ?_; refine Wo (v := v1) rfl (opv_load Try.isAgg23 rfl (hB2.cell rfl)) ?_
    refine Wo_call rfl (opc2 (a := u1) (b := v1) Try.call66 rfl rfl) (eqIntS_ok _ _ _ _ _ ((Mono.mono (E1.trans E2) h1)) ((Mono.mono (E1.trans E2) h3))) ?_; rintro _ w3 ⟨rfl, E3⟩; have hs3 := E3.size; refine Wo rfl (opv_not rfl) ?_
    refine Wo_nil ?_; refine W_cond_ndec rfl (fun h5 => ?_) (fun h5 => ?_); refine W_seq ?_; refine W_region rfl ?_; refine Wo rfl (opv_assign (v := .bool _) rfl) ?_; refine Wo_nil ?_; refine W_ret ?_
    refine at_ret (v := .bool _) rfl ?_; refine ⟨congrArg Value.bool ?_, ((E1.trans E2).trans E3)⟩; rotate_left; refine W_skip ?_; refine W_seq ?_; refine W_seq ?_; refine W_region rfl ?_
    refine Wo rfl (opv_fieldAddr Try.underlying25 rfl rfl Try.sizeOf23 rfl) ?_; refine Wo (v := u2) rfl (opv_load Try.isAgg23 rfl ((hB1.ext (E2.trans E3)).cell rfl)) ?_
    refine Wo rfl (opv_fieldAddr Try.underlying25 rfl rfl Try.sizeOf23 rfl) ?_; refine Wo (v := v2) rfl (opv_load Try.isAgg23 rfl ((hB2.ext E3).cell rfl)) ?_
    refine Wo_call rfl (opc2 (a := u2) (b := v2) Try.call66 rfl rfl) (eqIntS_ok _ _ _ _ _ ((Mono.mono ((E1.trans E2).trans E3) h2)) ((Mono.mono ((E1.trans E2).trans E3) h4))) ?_; rintro _ w4 ⟨rfl, E4⟩; have hs4 := E4.size
    refine Wo rfl (opv_not rfl) ?_; refine Wo_nil ?_; refine W_cond_ndec rfl (fun h6 => ?_) (fun h6 => ?_); refine W_seq ?_; refine W_region rfl ?_; refine Wo rfl (opv_assign (v := .bool _) rfl) ?_; refine Wo_nil ?_; refine W_ret ?_
    refine at_ret (v := .bool _) rfl ?_; refine ⟨congrArg Value.bool ?_, (((E1.trans E2).trans E3).trans E4)⟩; rotate_left; refine W_skip ?_; refine W_seq ?_; refine W_region rfl ?_; refine Wo rfl (opv_assign (v := .bool _) rfl) ?_
    refine Wo_nil ?_; refine W_ret ?_; refine at_ret (v := .bool _) rfl ?_; refine ⟨congrArg Value.bool ?_, (((E1.trans E2).trans E3).trans E4)⟩; rotate_left
  all_goals simp_all

theorem markStream_ok (w : World) {lo hi : Nat} (u1 u2 : Value) (A B : List Int) (h1 : OwnedB lo hi XI w u1 A) (h2 : OwnedB lo hi XI w u2 B) (hd : u1.ownBlock ≠ u2.ownBlock ∨ u1.ownBlock = none) (hlh : lo ≤ hi) (hhi : hi ≤ w.heap.size) (k0 : Int) (hk0 : 0 ≤ k0 ∧ k0 ≤ 1048576) (hA : A.length ≤ 1048576) (hB : B.length ≤ 1048576) :
    Does Try.prog 25 [.agg #[u1, u2], .int .i64 k0] w (RetSS lo hi w (.int .i64 (k0 + A.length + B.length)) 3 u1 (marks k0 A.length) u2 (marks (k0 + A.length) B.length)) := by
  obtain ⟨l1, g1, l2, g2, k1, k2, hap, e1, e2, e3, e4⟩ := own_apart h1 h2 hd hlh
  clear h1 h2
  refine fn_of_W1 Try.func25 rfl Try.results25 Try.ntmps25 rfl ?_
  focus
    refine W_seq ?_; refine W_region rfl ?_; refine Wo_box rfl rfl rfl ?_; rintro b1 w1 hb1 E1 hB1; have hlb1 := hB1.lt; have hs1 := E1.size; refine Wo rfl (opv_assign (v := .int _ _) rfl) ?_; refine Wo_nil ?_; refine W_seq ?_
    refine W_region rfl ?_; refine Wo rfl (opv_fieldAddr Try.underlying25 rfl rfl Try.sizeOf23 rfl) ?_; refine Wo (v := u1) rfl (opv_load Try.isAgg23 rfl (hB1.cell rfl)) ?_; refine Wo rfl (opv_move (v := .int _ _) rfl) ?_
    refine Wo_call rfl (opc2 (a := u1) (b := .int _ _) Try.call67 rfl rfl) (markIntS_ok _ _ _ ((k1.ext E1)) _ (by omega) (by omega)) ?_; rintro _ w2 ⟨rfl, E2, hO1⟩; have k2 := (k2.ext E1).span E2 (by omega)
    have hB1 := hB1.span E2 (by omega); have hs2 := E2.size; refine Wo rfl (opv_assign (v := .int _ _) rfl) ?_; refine Wo_nil ?_; refine W_seq ?_; refine W_region rfl ?_
    refine Wo rfl (opv_fieldAddr Try.underlying25 rfl rfl Try.sizeOf23 rfl) ?_; refine Wo (v := u2) rfl (opv_load Try.isAgg23 rfl (hB1.cell rfl)) ?_; refine Wo rfl (opv_move (v := .int _ _) rfl) ?_
    refine Wo_call rfl (opc2 (a := u2) (b := .int _ _) Try.call67 rfl rfl) (markIntS_ok _ _ _ (k2) _ (by omega) (by omega)) ?_; rintro _ w3 ⟨rfl, E3, hO2⟩; have hO1 := hO1.span E3 (by omega); have hB1 := hB1.span E3 (by omega)
    have hs3 := E3.size; refine Wo rfl (opv_assign (v := .int _ _) rfl) ?_; refine Wo_nil ?_; refine W_seq ?_; refine W_region rfl ?_; refine Wo rfl (opv_move (v := .int _ _) rfl) ?_; refine Wo rfl (opv_assign (v := .int _ _) rfl) ?_
    refine Wo_nil ?_; refine W_ret ?_; refine at_ret (v := .int _ _) rfl ?_
  exact ⟨rfl, (ext_span E1).trans ((E2.mono e1 e2).trans (E3.mono e3 e4)), own_wide hO1 e1 e2, own_wide hO2 e3 e4⟩

theorem heldStream_ok (w : World) (u1 u2 : Value) (n m : Nat) (k0 : Int) (h1 : Ints w u1 (marks k0 n)) (h2 : Ints w u2 (marks (k0 + n) m)) (hk0 : 0 ≤ k0 ∧ k0 ≤ 1048576) (hn : n ≤ 1048576) (hm : m ≤ 1048576) :
    Does Try.prog 26 [.agg #[u1, u2], .int .i64 k0] w (Ret w (.int .i64 (k0 + n + m))) := by
  refine fn_of_W1 Try.func26 rfl Try.results26 Try.ntmps26 rfl ?_
  focus
    refine W_seq ?_; refine W_region rfl ?_; refine Wo_box rfl rfl rfl ?_; rintro b1 w1 hb1 E1 hB1; have hlb1 := hB1.lt; have hs1 := E1.size; refine Wo rfl (opv_assign (v := .int _ _) rfl) ?_; refine Wo_nil ?_; refine W_seq ?_
    refine W_region rfl ?_; refine Wo rfl (opv_fieldAddr Try.underlying25 rfl rfl Try.sizeOf23 rfl) ?_; refine Wo (v := u1) rfl (opv_load Try.isAgg23 rfl (hB1.cell rfl)) ?_; refine Wo rfl (opv_move (v := .int _ _) rfl) ?_
    refine Wo_call rfl (opc2 (a := u1) (b := .int _ _) Try.call68 rfl rfl) (heldIntS_ok _ _ _ _ ((Mono.mono E1 h1)) (by omega) (by omega)) ?_; rintro _ w2 ⟨rfl, E2⟩; have hs2 := E2.size; refine Wo rfl (opv_assign (v := .int _ _) rfl) ?_
    refine Wo_nil ?_; refine W_seq ?_; refine W_seq ?_; refine W_region rfl ?_; refine Wo rfl (opv_move (v := .int _ _) rfl) ?_; refine Wo rfl (opv_lss rfl rfl) ?_; refine Wo_nil ?_; refine W_cond_dec rfl (fun h3 => ?_) (fun h3 => ?_)
    (exfalso; omega); refine W_skip ?_; refine W_seq ?_; refine W_region rfl ?_; refine Wo rfl (opv_fieldAddr Try.underlying25 rfl rfl Try.sizeOf23 rfl) ?_; refine Wo (v := u2) rfl (opv_load Try.isAgg23 rfl ((hB1.ext E2).cell rfl)) ?_
    refine Wo rfl (opv_move (v := .int _ _) rfl) ?_; refine Wo_call rfl (opc2 (a := u2) (b := .int _ _) Try.call68 rfl rfl) (heldIntS_ok _ _ _ _ ((Mono.mono (E1.trans E2) h2)) (by omega) (by omega)) ?_; rintro _ w3 ⟨rfl, E3⟩
    have hs3 := E3.size; refine Wo rfl (opv_assign (v := .int _ _) rfl) ?_; refine Wo_nil ?_; refine W_seq ?_; refine W_seq ?_; refine W_region rfl ?_; refine Wo rfl (opv_move (v := .int _ _) rfl) ?_; refine Wo rfl (opv_lss rfl rfl) ?_
    refine Wo_nil ?_; refine W_cond_dec rfl (fun h4 => ?_) (fun h4 => ?_); (exfalso; omega); refine W_skip ?_; refine W_seq ?_; refine W_region rfl ?_; refine Wo rfl (opv_move (v := .int _ _) rfl) ?_
    refine Wo rfl (opv_assign (v := .int _ _) rfl) ?_; refine Wo_nil ?_; refine W_ret ?_; exact ⟨rfl, ((E1.trans E2).trans E3)⟩
theorem eq_same (w : World) (u1 u2 v1 v2 : Value) (A B : List Int) (h1 : Ints w u1 A) (h2 : Ints w u2 B) (h3 : Ints w v1 A) (h4 : Ints w v2 B) : Does Try.prog 24 [.agg #[u1, u2], .agg #[v1, v2]] w (Ret w (.bool true)) := by
  have := eqStream_ok w u1 u2 v1 v2 A B A B h1 h2 h3 h4
  simpa using this

end Go.Proofs.Ytlalfmialbolhaa
