/- Walks: the exact laws' own loops over streams. -/
import Derived.Test.YtlalfmialbolhaaHsWStrT
import Derived.Test.YtlalfmialbolhaaHsWMark
namespace Go.Proofs.Ytlalfmialbolhaa
open Go.Hs
set_option maxRecDepth 10000
set_option maxHeartbeats 4000000
set_option linter.unusedVariables false
set_option linter.unusedSimpArgs false
theorem own_wide {α : Type} {X : World → List Nat → Value → α → Prop} {w : World} {v : Value} {x : α} {lo hi lo' hi' : Nat} (h : OwnedB lo hi X w v x) (h1 : lo' ≤ lo) (h2 : hi ≤ hi') : OwnedB lo' hi' X w v x := by
  obtain ⟨fp, k1, k2, k3⟩ := h
  exact ⟨fp, k1, fun k hk => by have := k2 k hk; omega, k3⟩
theorem ext_span {w w' : World} {lo hi : Nat} (E : Ext w w') : Span lo hi w w' := ⟨E.os, E.tape, E.output, E.size, fun k _ hl => E.block k hl⟩

theorem szStream_ok (w : World) (u1 u2 : Value) (A B : List Int) (h1 : Ints w u1 A) (h2 : Ints w u2 B) (left : Int) (hl : 0 ≤ left ∧ left ≤ 1048576) :
    Does Try.prog 21 [.agg #[u1, u2], .int .i64 left] w (RetX w (Value.int .i64) (fun n _ => n = -1 ∨ (0 ≤ n ∧ n = left - A.length - B.length ∧ A.length ≤ 1048576 ∧ B.length ≤ 1048576))) := by
  refine fn_of_W1 Try.func21 rfl Try.results21 Try.ntmps21 rfl ?_
  focus
    refine W_seq ?_; refine W_region rfl ?_; refine Wo_box rfl rfl rfl ?_; rintro b1 w1 hb1 E1 hB1; have hlb1 := hB1.lt; have hs1 := E1.size; refine Wo rfl (opv_assign (v := .int _ _) rfl) ?_; refine Wo_nil ?_; refine W_seq ?_
    refine W_region rfl ?_; refine Wo rfl (opv_fieldAddr Try.underlying34 rfl rfl Try.sizeOf23 rfl) ?_; refine Wo (v := u1) rfl (opv_load Try.isAgg23 rfl (hB1.cell rfl)) ?_; refine Wo rfl (opv_move (v := .int _ _) rfl) ?_
    refine Wo_call rfl (opc2 (a := u1) (b := .int _ _) Try.call64 rfl rfl) (szIntS_ok _ _ _ ((Mono.mono E1 h1)) _ (by assumption)) ?_; rintro _ w2 ⟨E2, y1, rfl, hy1⟩; have hs2 := E2.size
    refine Wo rfl (opv_assign (v := .int _ _) rfl) ?_; refine Wo_nil ?_; refine W_seq ?_; refine W_seq ?_; refine W_region rfl ?_; refine Wo rfl (opv_move (v := .int _ _) rfl) ?_; refine Wo rfl (opv_lss rfl rfl) ?_; refine Wo_nil ?_
    refine W_cond_dec rfl (fun h3 => ?_) (fun h3 => ?_); refine W_seq ?_; refine W_region rfl ?_; refine Wo rfl (opv_assign (v := .int _ _) rfl) ?_; refine Wo_nil ?_; refine W_ret ?_; refine at_ret (v := .int _ _) rfl ?_
    refine ⟨(E1.trans E2), _, rfl, ?_⟩; (try dsimp only); rotate_left; refine W_skip ?_; refine W_seq ?_; refine W_region rfl ?_; refine Wo rfl (opv_fieldAddr Try.underlying34 rfl rfl Try.sizeOf23 rfl) ?_
    refine Wo (v := u2) rfl (opv_load Try.isAgg23 rfl ((hB1.ext E2).cell rfl)) ?_; refine Wo rfl (opv_move (v := .int _ _) rfl) ?_
    refine Wo_call rfl (opc2 (a := u2) (b := .int _ _) Try.call64 rfl rfl) (szIntS_ok _ _ _ ((Mono.mono (E1.trans E2) h2)) _ (by omega)) ?_; rintro _ w3 ⟨E3, y2, rfl, hy2⟩; have hs3 := E3.size
    refine Wo rfl (opv_assign (v := .int _ _) rfl) ?_; refine Wo_nil ?_; refine W_seq ?_; refine W_seq ?_; refine W_region rfl ?_; refine Wo rfl (opv_move (v := .int _ _) rfl) ?_; refine Wo rfl (opv_lss rfl rfl) ?_; refine Wo_nil ?_
    refine W_cond_dec rfl (fun h4 => ?_) (fun h4 => ?_); refine W_seq ?_; refine W_region rfl ?_; refine Wo rfl (opv_assign (v := .int _ _) rfl) ?_; refine Wo_nil ?_; refine W_ret ?_; refine at_ret (v := .int _ _) rfl ?_
    refine ⟨((E1.trans E2).trans E3), _, rfl, ?_⟩; (try dsimp only); rotate_left; refine W_skip ?_; refine W_seq ?_; refine W_region rfl ?_; refine Wo rfl (opv_move (v := .int _ _) rfl) ?_
    refine Wo rfl (opv_assign (v := .int _ _) rfl) ?_; refine Wo_nil ?_; refine W_ret ?_; refine at_ret (v := .int _ _) rfl ?_; refine ⟨((E1.trans E2).trans E3), _, rfl, ?_⟩; (try dsimp only); rotate_left
  all_goals first | exact .inl rfl | (right; omega)

theorem toStream_ok (w : World) (u1 u2 : Value) (A B : List Int) (h1 : Ints w u1 A) (h2 : Ints w u2 B) (hA : A.length ≤ 1048576) (hB : B.length ≤ 1048576) : Does Try.prog 23 [.agg #[u1, u2]] w (RetS2 w 3 A B) := by
  refine fn_of_Wc Try.func23 rfl Try.results23 Try.ntmps23 rfl Try.isAgg25 Try.sizeOf25 ?_
  focus
    refine W_seq ?_; refine W_region rfl ?_; refine Wo_box rfl rfl rfl ?_; rintro b1 w1 hb1 E1 hB1; have hlb1 := hB1.lt; have hs1 := E1.size; refine Wo_alloc2 rfl flat25 ?_; rintro b2 w2 hb2 E2 hB2; have hlb2 := hB2.lt
    have hs2 := E2.size; refine Wo_nil ?_; refine W_seq ?_; refine W_region rfl ?_; refine Wo_alloc2 rfl flat25 ?_; rintro b3 w3 hb3 E3 hB3; have hlb3 := hB3.lt; have hs3 := E3.size; refine Wo_nil ?_; refine W_seq ?_
    refine W_region rfl ?_; refine Wo rfl (opv_fieldAddr Try.underlying34 rfl rfl Try.sizeOf23 rfl) ?_; refine Wo (v := u1) rfl (opv_load Try.isAgg23 rfl ((hB1.ext (E2.trans E3)).cell rfl)) ?_
    refine Wo_call rfl (opc1 (a := u1) Try.call65 rfl) (toIntS_ok _ _ _ ((Mono.mono ((E1.trans E2).trans E3) h1)) (by assumption)) ?_; rintro u3 w4 ⟨E4, hO1⟩; have hs4 := E4.size
    refine Wo rfl (opv_fieldAddr Try.underlying25 rfl rfl Try.sizeOf23 rfl) ?_; refine Wo_st (v := u3) rfl Try.sizeOf23 rfl rfl (OwnedB.isC hO1.toB) (hB3.ext E4) (by decide) (by omega) (((E1.trans E2).trans E3).trans E4) ?_
    rintro w5 E5 hB3 K1 hz1; have E6 := ((E2.trans E3).trans E4).wroteAt (((E1.trans E2).trans E3).trans E4) E5 K1 hz1 (by omega); have szE6 := E6.size
    have E7 := (E3.trans E4).wroteAt (((E1.trans E2).trans E3).trans E4) E5 K1 hz1 (by omega); have szE7 := E7.size; simp only [List.set] at hB3; have hB1 := (hB1.ext ((E2.trans E3).trans E4)).of_heap (K1 _ (by omega))
    have hB2 := (hB2.ext (E3.trans E4)).of_heap (K1 _ (by omega)); have hO1 := hO1.toB.wrote K1 (by omega); refine Wo_nil ?_; refine W_seq ?_; refine W_region rfl ?_
    refine Wo rfl (opv_fieldAddr Try.underlying34 rfl rfl Try.sizeOf23 rfl) ?_; refine Wo (v := u2) rfl (opv_load Try.isAgg23 rfl (hB1.cell rfl)) ?_
    refine Wo_call rfl (opc1 (a := u2) Try.call65 rfl) (toIntS_ok _ _ _ ((Mono.mono E5 h2)) (by assumption)) ?_; rintro u4 w6 ⟨E8, hO2⟩; have hs5 := E8.size; refine Wo rfl (opv_fieldAddr Try.underlying25 rfl rfl Try.sizeOf23 rfl) ?_
    refine Wo_st (v := u4) rfl Try.sizeOf23 rfl rfl (OwnedB.isC hO2.toB) (hB3.ext E8) (by simp) (by omega) (E5.trans E8) ?_; rintro w7 E9 hB3 K2 hz2; have E10 := (E6.trans E8).wroteAt (E5.trans E8) E9 K2 hz2 (by omega)
    have szE10 := E10.size; have E11 := (E7.trans E8).wroteAt (E5.trans E8) E9 K2 hz2 (by omega); have szE11 := E11.size; simp only [List.set] at hB3; have hB1 := (hB1.ext E8).of_heap (K2 _ (by omega))
    have hB2 := (hB2.ext E8).of_heap (K2 _ (by omega)); have hO1 := (hO1.ext E8).wrote K2 (by omega); have hO2 := hO2.toB.wrote K2 (by omega); refine Wo_nil ?_; refine W_seq ?_; refine W_region rfl ?_
    refine Wo (v := .agg _) rfl (opv_load2 Try.isAgg25 Try.sizeOf25 rfl hB3) ?_
  have ic1 := OwnedB.isC hO1
  have ic2 := OwnedB.isC hO2
  focus
    have szE11 := E11.size; have szE10 := E10.size; have szE9 := E9.size; have szE8 := E8.size; have szE7 := E7.size; have szE6 := E6.size; have szE5 := E5.size; have szE4 := E4.size; have szE3 := E3.size; have szE2 := E2.size
    have szE1 := E1.size; refine Wo_st2 rfl Try.sizeOf25 rfl rfl (by first | rfl | assumption) (by first | rfl | assumption) hB2 (by omega) E9 ?_; rintro w8 E12 hB2 K3 hz3; have E13 := E10.wroteAt E9 E12 K3 hz3 (by omega)
    have szE13 := E13.size; have hB3 := hB3.of_heap (K3 _ (by omega)); have hB1 := hB1.of_heap (K3 _ (by omega)); have hO1 := hO1.wrote K3 (by omega); have hO2 := hO2.wrote K3 (by omega); refine Wo_nil ?_; refine W_ret ?_
  exact ⟨_, _, _, rfl, hB2, _, _, rfl, by assumption, hO1.o.mono (by omega), hO2.o.mono (by omega), own_disj hO1 hO2 (by omega)⟩

theorem eqStream_ok (w : World) (u1 u2 v1 v2 : Value) (A B A' B' : List Int) (h1 : Ints w u1 A) (h2 : Ints w u2 B) (h3 : Ints w v1 A') (h4 : Ints w v2 B') : Does Try.prog 24 [.agg #[u1, u2], .agg #[v1, v2]] w (Ret w (.bool (decide (A = A') && decide (B = B')))) := by
  refine fn_of_W1 Try.func24 rfl Try.results24 Try.ntmps24 rfl ?_
  focus
    refine W_seq ?_; refine W_region rfl ?_; refine Wo_box rfl rfl rfl ?_; rintro b1 w1 hb1 E1 hB1; have hlb1 := hB1.lt; have hs1 := E1.size; refine Wo_box rfl rfl rfl ?_; rintro b2 w2 hb2 E2 hB2; have hlb2 := hB2.lt
    have hs2 := E2.size; refine Wo rfl (opv_assign (v := .bool _) rfl) ?_; refine Wo_nil ?_; refine W_seq ?_; refine W_seq ?_; refine W_region rfl ?_; refine Wo rfl (opv_fieldAddr Try.underlying25 rfl rfl Try.sizeOf23 rfl) ?_
    refine Wo (v := u1) rfl (opv_load Try.isAgg23 rfl ((hB1.ext E2).cell rfl)) ?_; refine Wo rfl (opv_fieldAddr Try.underlying25 rfl rfl Try.sizeOf23 rfl) ?_; refine Wo (v := v1) rfl (opv_load Try.isAgg23 rfl (hB2.cell rfl)) ?_
    refine Wo_call rfl (opc2 (a := u1) (b := v1) Try.call66 rfl rfl) (eqIntS_ok _ _ _ _ _ ((Mono.mono (E1.trans E2) h1)) ((Mono.mono (E1.trans E2) h3))) ?_; rintro _ w3 ⟨rfl, E3⟩; have hs3 := E3.size; refine Wo rfl (opv_not rfl) ?_
    refine Wo_nil ?_; refine W_cond_ndec rfl (fun h5 => ?_) (fun h5 => ?_); refine W_seq ?_; refine W_region rfl ?_; refine Wo rfl (opv_assign (v := .bool _) rfl) ?_; refine Wo_nil ?_; refine W_ret ?_
    refine at_ret (v := .bool _) rfl ?_; refine ⟨congrArg Value.bool ?_, ((E1.trans E2).trans E3)⟩; rotate_left; refine W_skip ?_; refine W_seq ?_; refine W_seq ?_; refine W_region rfl ?_
    refine Wo rfl (opv_fieldAddr Try.underlying25 rfl rfl Try.sizeOf23 rfl) ?_; refine Wo (v := u2) rfl (opv_load Try.isAgg23 rfl ((hB1.ext (E2.trans E3)).cell rfl)) ?_
    refine Wo rfl (opv_fieldAddr Try.underlying25 rfl rfl Try.sizeOf23 rfl) ?_; refine Wo (v := v2) rfl (opv_load Try.isAgg23 rfl ((hB2.ext E3).cell rfl)) ?_
    refine Wo_call rfl (opc2 (a := u2) (b := v2) Try.call66 rfl rfl) (eqIntS_ok _ _ _ _ _ ((Mono.mono ((E1.trans E2).trans E3) h2)) ((Mono.mono ((E1.trans E2).trans E3) h4))) ?_; rintro _ w4 ⟨rfl, E4⟩; have hs4 := E4.size
    refine Wo rfl (opv_not rfl) ?_; refine Wo_nil ?_; refine W_cond_ndec rfl (fun h6 => ?_) (fun h6 => ?_); refine W_seq ?_; refine W_region rfl ?_; refine Wo rfl (opv_assign (v := .bool _) rfl) ?_; refine Wo_nil ?_; refine W_ret ?_
    refine at_ret (v := .bool _) rfl ?_; refine ⟨congrArg Value.bool ?_, (((E1.trans E2).trans E3).trans E4)⟩; rotate_left; refine W_skip ?_; refine W_seq ?_; refine W_region rfl ?_; refine Wo rfl (opv_assign (v := .bool _) rfl) ?_
    refine Wo_nil ?_; refine W_ret ?_; refine at_ret (v := .bool _) rfl ?_; refine ⟨congrArg Value.bool ?_, (((E1.trans E2).trans E3).trans E4)⟩; rotate_left
  all_goals simp_all

theorem markStream_ok (w : World) {lo hi : Nat} (u1 u2 : Value) (A B : List Int) (h1 : OwnedB lo hi XI w u1 A) (h2 : OwnedB lo hi XI w u2 B) (hd : u1.ownBlock ≠ u2.ownBlock ∨ u1.ownBlock = none) (hlh : lo ≤ hi) (hhi : hi ≤ w.heap.size) (k0 : Int) (hk0 : 0 ≤ k0 ∧ k0 ≤ 1048576) (hA : A.length ≤ 1048576) (hB : B.length ≤ 1048576) :
    Does Try.prog 25 [.agg #[u1, u2], .int .i64 k0] w (RetSS lo hi w (.int .i64 (k0 + A.length + B.length)) 3 u1 (marks k0 A.length) u2 (marks (k0 + A.length) B.length)) := by
  obtain ⟨l1, g1, l2, g2, k1, k2, hap, e1, e2, e3, e4⟩ := own_apart h1 h2 hd hlh
  clear h1 h2
  refine fn_of_W1 Try.func25 rfl Try.results25 Try.ntmps25 rfl ?_
  focus
    refine W_seq ?_; refine W_region rfl ?_; refine Wo_box rfl rfl rfl ?_; rintro b1 w1 hb1 E1 hB1; have hlb1 := hB1.lt; have hs1 := E1.size; refine Wo rfl (opv_assign (v := .int _ _) rfl) ?_; refine Wo_nil ?_; refine W_seq ?_
    refine W_region rfl ?_; refine Wo rfl (opv_fieldAddr Try.underlying25 rfl rfl Try.sizeOf23 rfl) ?_; refine Wo (v := u1) rfl (opv_load Try.isAgg23 rfl (hB1.cell rfl)) ?_; refine Wo rfl (opv_move (v := .int _ _) rfl) ?_
    refine Wo_call rfl (opc2 (a := u1) (b := .int _ _) Try.call67 rfl rfl) (markIntS_ok _ _ _ ((k1.ext E1)) _ (by omega) (by omega)) ?_; rintro _ w2 ⟨rfl, E2, hO1⟩; have k2 := (k2.ext E1).span E2 (by omega)
    have hB1 := hB1.span E2 (by omega); have hs2 := E2.size; refine Wo rfl (opv_assign (v := .int _ _) rfl) ?_; refine Wo_nil ?_; refine W_seq ?_; refine W_region rfl ?_
    refine Wo rfl (opv_fieldAddr Try.underlying25 rfl rfl Try.sizeOf23 rfl) ?_; refine Wo (v := u2) rfl (opv_load Try.isAgg23 rfl (hB1.cell rfl)) ?_; refine Wo rfl (opv_move (v := .int _ _) rfl) ?_
    refine Wo_call rfl (opc2 (a := u2) (b := .int _ _) Try.call67 rfl rfl) (markIntS_ok _ _ _ (k2) _ (by omega) (by omega)) ?_; rintro _ w3 ⟨rfl, E3, hO2⟩; have hO1 := hO1.span E3 (by omega); have hB1 := hB1.span E3 (by omega)
    have hs3 := E3.size; refine Wo rfl (opv_assign (v := .int _ _) rfl) ?_; refine Wo_nil ?_; refine W_seq ?_; refine W_region rfl ?_; refine Wo rfl (opv_move (v := .int _ _) rfl) ?_; refine Wo rfl (opv_assign (v := .int _ _) rfl) ?_
    refine Wo_nil ?_; refine W_ret ?_; refine at_ret (v := .int _ _) rfl ?_
  exact ⟨rfl, (ext_span E1).trans ((E2.mono e1 e2).trans (E3.mono e3 e4)), own_wide hO1 e1 e2, own_wide hO2 e3 e4⟩

theorem heldStream_ok (w : World) (u1 u2 : Value) (n m : Nat) (k0 : Int) (h1 : Ints w u1 (marks k0 n)) (h2 : Ints w u2 (marks (k0 + n) m)) (hk0 : 0 ≤ k0 ∧ k0 ≤ 1048576) (hn : n ≤ 1048576) (hm : m ≤ 1048576) :
    Does Try.prog 26 [.agg #[u1, u2], .int .i64 k0] w (Ret w (.int .i64 (k0 + n + m))) := by
  refine fn_of_W1 Try.func26 rfl Try.results26 Try.ntmps26 rfl ?_
  focus
    refine W_seq ?_; refine W_region rfl ?_; refine Wo_box rfl rfl rfl ?_; rintro b1 w1 hb1 E1 hB1; have hlb1 := hB1.lt; have hs1 := E1.size; refine Wo rfl (opv_assign (v := .int _ _) rfl) ?_; refine Wo_nil ?_; refine W_seq ?_
    refine W_region rfl ?_; refine Wo rfl (opv_fieldAddr Try.underlying25 rfl rfl Try.sizeOf23 rfl) ?_; refine Wo (v := u1) rfl (opv_load Try.isAgg23 rfl (hB1.cell rfl)) ?_; refine Wo rfl (opv_move (v := .int _ _) rfl) ?_
    refine Wo_call rfl (opc2 (a := u1) (b := .int _ _) Try.call68 rfl rfl) (heldIntS_ok _ _ _ _ ((Mono.mono E1 h1)) (by omega) (by omega)) ?_; rintro _ w2 ⟨rfl, E2⟩; have hs2 := E2.size; refine Wo rfl (opv_assign (v := .int _ _) rfl) ?_
    refine Wo_nil ?_; refine W_seq ?_; refine W_seq ?_; refine W_region rfl ?_; refine Wo rfl (opv_move (v := .int _ _) rfl) ?_; refine Wo rfl (opv_lss rfl rfl) ?_; refine Wo_nil ?_; refine W_cond_dec rfl (fun h3 => ?_) (fun h3 => ?_)
    (exfalso; omega); refine W_skip ?_; refine W_seq ?_; refine W_region rfl ?_; refine Wo rfl (opv_fieldAddr Try.underlying25 rfl rfl Try.sizeOf23 rfl) ?_; refine Wo (v := u2) rfl (opv_load Try.isAgg23 rfl ((hB1.ext E2).cell rfl)) ?_
    refine Wo rfl (opv_move (v := .int _ _) rfl) ?_; refine Wo_call rfl (opc2 (a := u2) (b := .int _ _) Try.call68 rfl rfl) (heldIntS_ok _ _ _ _ ((Mono.mono (E1.trans E2) h2)) (by omega) (by omega)) ?_; rintro _ w3 ⟨rfl, E3⟩
    have hs3 := E3.size; refine Wo rfl (opv_assign (v := .int _ _) rfl) ?_; refine Wo_nil ?_; refine W_seq ?_; refine W_seq ?_; refine W_region rfl ?_; refine Wo rfl (opv_move (v := .int _ _) rfl) ?_; refine Wo rfl (opv_lss rfl rfl) ?_
    refine Wo_nil ?_; refine W_cond_dec rfl (fun h4 => ?_) (fun h4 => ?_); (exfalso; omega); refine W_skip ?_; refine W_seq ?_; refine W_region rfl ?_; refine Wo rfl (opv_move (v := .int _ _) rfl) ?_
    refine Wo rfl (opv_assign (v := .int _ _) rfl) ?_; refine Wo_nil ?_; refine W_ret ?_; exact ⟨rfl, ((E1.trans E2).trans E3)⟩
theorem eq_same (w : World) (u1 u2 v1 v2 : Value) (A B : List Int) (h1 : Ints w u1 A) (h2 : Ints w u2 B) (h3 : Ints w v1 A) (h4 : Ints w v2 B) : Does Try.prog 24 [.agg #[u1, u2], .agg #[v1, v2]] w (Ret w (.bool true)) := by
  have := eqStream_ok w u1 u2 v1 v2 A B A B h1 h2 h3 h4
  simpa using this
theorem sh_len {g : Nat → Int} {a p : Nat} (h : Per g a p) : (shL g).length ≤ a ∧ (shR g).length ≤ p ∧ 1 ≤ (shR g).length := by
  obtain ⟨b, q, hs⟩ := IsSh.ex h
  obtain ⟨e1, e2⟩ := hs.eq
  have h3 := hs.2 _ _ h
  unfold shL shR
  rw [win_len, win_len, e1, e2]
  exact ⟨h3.1, h3.2, hs.1.1⟩

theorem rstV_len (A B : List Int) (z : Int) : (rstV A B z).1.length ≤ 12 ∧ (rstV A B z).2.length ≤ 12 := by
  unfold rstV
  split
  · rename_i h
    have h1 := sh_len (per_shf h.1.per z.toNat)
    have := h.1.2.2
    simp only; omega
  · simp
theorem FnExactRestOf_walk (w : World) (u1 u2 : Value) (A B : List Int) (h1 : Ints w u1 A) (h2 : Ints w u2 B) (z : Int) (hz : -9223372036854775808 ≤ z ∧ z ≤ 9223372036854775807) :
    Does Try.prog 4 [.agg #[u1, u2], .int .i64 z] w (Ret w (.bool true)) := by
  refine fn_of_W1 Try.func4 rfl Try.results4 Try.ntmps4 rfl ?_
  have stop10 : True := trivial
  focus
    refine W_seq ?_; refine W_region rfl ?_; refine Wo_box rfl rfl rfl ?_; rintro b1 w1 hb1 E1 hB1; have hlb1 := hB1.lt; have hs1 := E1.size; refine Wo rfl (opv_assign (v := .bool _) rfl) ?_; refine Wo_nil ?_; refine W_seq ?_
    refine W_region rfl ?_; refine Wo rfl (opv_assign (v := .int _ _) rfl) ?_; refine Wo_nil ?_; refine W_seq ?_; refine W_region rfl ?_; refine Wo (v := .agg _) rfl (opv_load2 Try.isAgg34 Try.sizeOf34 rfl hB1) ?_
    refine Wo rfl (opv_move (v := .int _ _) rfl) ?_; refine Wo_call rfl (opc2 (a := .agg _) (b := .int _ _) Try.call21 rfl rfl) (szStream_ok _ _ _ _ _ ((Mono.mono E1 h1)) ((Mono.mono E1 h2)) _ (by omega)) ?_
    rintro _ w2 ⟨E2, y1, rfl, hy1⟩; have hs2 := E2.size; refine Wo rfl (opv_assign (v := .int _ _) rfl) ?_; refine Wo_nil ?_; refine W_seq ?_; refine W_seq ?_; refine W_region rfl ?_; refine Wo rfl (opv_move (v := .int _ _) rfl) ?_
    refine Wo rfl (opv_lss rfl rfl) ?_; refine Wo_nil ?_; refine W_cond_dec rfl (fun h3 => ?_) (fun h3 => ?_); refine W_seq ?_; refine W_region rfl ?_; refine Wo rfl (opv_assign (v := .bool _) rfl) ?_; refine Wo_nil ?_; refine W_ret ?_
    exact ⟨rfl, (E1.trans E2)⟩; refine W_skip ?_; refine W_seq ?_; refine W_region rfl ?_; refine Wo (v := .agg _) rfl (opv_load2 Try.isAgg34 Try.sizeOf34 rfl (hB1.ext E2)) ?_
  rcases hy1 with h9 | ⟨h5, h6, h7, h8⟩
  · omega
  obtain ⟨hX, hY⟩ := rstV_len A B z
  have k1 : ∀ (w : World) (u1 u2 : Value), Ints w u1 A → Ints w u2 B → CapOk u1 → Does Try.prog 22 [.agg #[u1, u2], .int .i64 z] w (RetS2 w 3 (rstV A B z).1 (rstV A B z).2) := fun w u1 u2 h1 h2 hc => spec_RestOf_ok w u1 u2 A B h1 h2 hc (by omega) (by omega) z
  have k2 : ∀ (w : World) (u1 u2 : Value), Ints w u1 A → Ints w u2 B → Does Try.prog 20 [.agg #[u1, u2], .int .i64 z] w (RetS2 w 3 (rstV A B z).1 (rstV A B z).2) := fun w u1 u2 h1 h2 => impl_RestOf_ok w u1 u2 A B h1 h2 (by omega) (by omega) z
  generalize (rstV A B z).1 = X at *
  generalize (rstV A B z).2 = Y at *
  focus
    have szE2 := E2.size; have szE1 := E1.size; refine Wo_call rfl (opc1 (a := .agg _) Try.call23 rfl) (toStream_ok _ _ _ _ _ ((Mono.mono (E1.trans E2) h1)) ((Mono.mono (E1.trans E2) h2)) (by assumption) (by assumption)) ?_
    rintro _ w3 ⟨u3, q1, rfl, E3, hO1, hQ1, hd1⟩; have icu3 := OwnedB.isC (Owned.toB hO1); have cpu3 := OwnedB.capOk (Owned.toB hO1); have icq1 := OwnedB.isC (Owned.toB hQ1); have cpq1 := OwnedB.capOk (Owned.toB hQ1)
    have hs3 := E3.size; refine Wo rfl (opv_move (v := .int _ _) rfl) ?_; refine Wo_call rfl (opc2 (a := .agg _) (b := .int _ _) Try.call22 rfl rfl) (k1 _ _ _ ((Owned.read hO1)) ((Owned.read hQ1)) (by assumption)) ?_
    rintro _ w4 ⟨u4, q2, rfl, E4, hO2, hQ2, hd2⟩; have icu4 := OwnedB.isC (Owned.toB hO2); have cpu4 := OwnedB.capOk (Owned.toB hO2); have icq2 := OwnedB.isC (Owned.toB hQ2); have cpq2 := OwnedB.capOk (Owned.toB hQ2)
    have hs4 := E4.size; refine Wo_alloc2 rfl flat25 ?_; rintro b2 w5 hb2 E5 hB2; have hlb2 := hB2.lt; have hs5 := E5.size
    refine Wo_st2 rfl Try.sizeOf25 rfl rfl (by first | rfl | assumption) (by first | rfl | assumption) hB2 (by omega) ((((E1.trans E2).trans E3).trans E4).trans E5) ?_; rintro w6 E6 hB2 K1 hz1
    have E7 := (((E2.trans E3).trans E4).trans E5).wroteAt ((((E1.trans E2).trans E3).trans E4).trans E5) E6 K1 hz1 (by omega); have szE7 := E7.size
    have E8 := ((E3.trans E4).trans E5).wroteAt ((((E1.trans E2).trans E3).trans E4).trans E5) E6 K1 hz1 (by omega); have szE8 := E8.size
    have E9 := (E4.trans E5).wroteAt ((((E1.trans E2).trans E3).trans E4).trans E5) E6 K1 hz1 (by omega); have szE9 := E9.size; have E10 := E5.wroteAt ((((E1.trans E2).trans E3).trans E4).trans E5) E6 K1 hz1 (by omega)
    have szE10 := E10.size; have hB1 := (hB1.ext (((E2.trans E3).trans E4).trans E5)).of_heap (K1 _ (by omega)); have hO1 := (hO1.toB.ext (E4.trans E5)).wrote K1 (by omega); have hQ1 := (hQ1.toB.ext (E4.trans E5)).wrote K1 (by omega)
    have hO2 := (hO2.toB.ext E5).wrote K1 (by omega); have hQ2 := (hQ2.toB.ext E5).wrote K1 (by omega); refine Wo_nil ?_; refine W_seq ?_; refine W_region rfl ?_
    refine Wo (v := .agg _) rfl (opv_load2 Try.isAgg34 Try.sizeOf34 rfl hB1) ?_; refine Wo_call rfl (opc1 (a := .agg _) Try.call23 rfl) (toStream_ok _ _ _ _ _ ((Mono.mono E6 h1)) ((Mono.mono E6 h2)) (by assumption) (by assumption)) ?_
    rintro _ w7 ⟨u5, q3, rfl, E11, hO3, hQ3, hd3⟩; have icu5 := OwnedB.isC (Owned.toB hO3); have cpu5 := OwnedB.capOk (Owned.toB hO3); have icq3 := OwnedB.isC (Owned.toB hQ3); have cpq3 := OwnedB.capOk (Owned.toB hQ3)
    have hs6 := E11.size; refine Wo_alloc2 rfl flat25 ?_; rintro b3 w8 hb3 E12 hB3; have hlb3 := hB3.lt; have hs7 := E12.size
    refine Wo_st2 rfl Try.sizeOf25 rfl rfl (by first | rfl | assumption) (by first | rfl | assumption) hB3 (by omega) ((E6.trans E11).trans E12) ?_; rintro w9 E13 hB3 K2 hz2
    have E14 := ((E7.trans E11).trans E12).wroteAt ((E6.trans E11).trans E12) E13 K2 hz2 (by omega); have szE14 := E14.size; have E15 := ((E8.trans E11).trans E12).wroteAt ((E6.trans E11).trans E12) E13 K2 hz2 (by omega)
    have szE15 := E15.size; have E16 := ((E9.trans E11).trans E12).wroteAt ((E6.trans E11).trans E12) E13 K2 hz2 (by omega); have szE16 := E16.size
    have E17 := ((E10.trans E11).trans E12).wroteAt ((E6.trans E11).trans E12) E13 K2 hz2 (by omega); have szE17 := E17.size; have E18 := (E11.trans E12).wroteAt ((E6.trans E11).trans E12) E13 K2 hz2 (by omega); have szE18 := E18.size
    have E19 := E12.wroteAt ((E6.trans E11).trans E12) E13 K2 hz2 (by omega); have szE19 := E19.size; have hB2 := (hB2.ext (E11.trans E12)).of_heap (K2 _ (by omega)); have hB1 := (hB1.ext (E11.trans E12)).of_heap (K2 _ (by omega))
    have hO1 := (hO1.ext (E11.trans E12)).wrote K2 (by omega); have hQ1 := (hQ1.ext (E11.trans E12)).wrote K2 (by omega); have hO2 := (hO2.ext (E11.trans E12)).wrote K2 (by omega)
    have hQ2 := (hQ2.ext (E11.trans E12)).wrote K2 (by omega); have hO3 := (hO3.toB.ext E12).wrote K2 (by omega); have hQ3 := (hQ3.toB.ext E12).wrote K2 (by omega); refine Wo_nil ?_; refine W_seq ?_; refine W_region rfl ?_
    refine Wo (v := .agg _) rfl (opv_load2 Try.isAgg25 Try.sizeOf25 rfl hB3) ?_; refine Wo rfl (opv_move (v := .int _ _) rfl) ?_
    refine Wo_call rfl (opc2 (a := .agg _) (b := .int _ _) Try.call20 rfl rfl) (k2 _ _ _ ((OwnedB.read hO3)) ((OwnedB.read hQ3))) ?_; rintro _ w10 ⟨u6, q4, rfl, E20, hO4, hQ4, hd4⟩; have icu6 := OwnedB.isC (Owned.toB hO4)
    have cpu6 := OwnedB.capOk (Owned.toB hO4); have icq4 := OwnedB.isC (Owned.toB hQ4); have cpq4 := OwnedB.capOk (Owned.toB hQ4); have hs8 := E20.size; refine Wo_alloc2 rfl flat25 ?_; rintro b4 w11 hb4 E21 hB4; have hlb4 := hB4.lt
    have hs9 := E21.size; refine Wo_st2 rfl Try.sizeOf25 rfl rfl (by first | rfl | assumption) (by first | rfl | assumption) hB4 (by omega) ((E13.trans E20).trans E21) ?_; rintro w12 E22 hB4 K3 hz3
    have E23 := ((E14.trans E20).trans E21).wroteAt ((E13.trans E20).trans E21) E22 K3 hz3 (by omega); have szE23 := E23.size; have E24 := ((E15.trans E20).trans E21).wroteAt ((E13.trans E20).trans E21) E22 K3 hz3 (by omega)
    have szE24 := E24.size; have E25 := ((E16.trans E20).trans E21).wroteAt ((E13.trans E20).trans E21) E22 K3 hz3 (by omega); have szE25 := E25.size
    have E26 := ((E17.trans E20).trans E21).wroteAt ((E13.trans E20).trans E21) E22 K3 hz3 (by omega); have szE26 := E26.size; have E27 := ((E18.trans E20).trans E21).wroteAt ((E13.trans E20).trans E21) E22 K3 hz3 (by omega)
    have szE27 := E27.size; have E28 := ((E19.trans E20).trans E21).wroteAt ((E13.trans E20).trans E21) E22 K3 hz3 (by omega); have szE28 := E28.size; have E29 := (E20.trans E21).wroteAt ((E13.trans E20).trans E21) E22 K3 hz3 (by omega)
    have szE29 := E29.size; have E30 := E21.wroteAt ((E13.trans E20).trans E21) E22 K3 hz3 (by omega); have szE30 := E30.size; have hB3 := (hB3.ext (E20.trans E21)).of_heap (K3 _ (by omega))
    have hB2 := (hB2.ext (E20.trans E21)).of_heap (K3 _ (by omega)); have hB1 := (hB1.ext (E20.trans E21)).of_heap (K3 _ (by omega)); have hO1 := (hO1.ext (E20.trans E21)).wrote K3 (by omega)
    have hQ1 := (hQ1.ext (E20.trans E21)).wrote K3 (by omega); have hO2 := (hO2.ext (E20.trans E21)).wrote K3 (by omega); have hQ2 := (hQ2.ext (E20.trans E21)).wrote K3 (by omega)
    have hO3 := (hO3.ext (E20.trans E21)).wrote K3 (by omega); have hQ3 := (hQ3.ext (E20.trans E21)).wrote K3 (by omega); have hO4 := (hO4.toB.ext E21).wrote K3 (by omega); have hQ4 := (hQ4.toB.ext E21).wrote K3 (by omega)
    refine Wo_nil ?_; refine W_seq ?_; refine W_seq ?_; refine W_region rfl ?_; refine Wo (v := .agg _) rfl (opv_load2 Try.isAgg25 Try.sizeOf25 rfl hB4) ?_; refine Wo (v := .agg _) rfl (opv_load2 Try.isAgg25 Try.sizeOf25 rfl hB2) ?_
    refine Wo_call rfl (opc2 (a := .agg _) (b := .agg _) Try.call24 rfl rfl) (eq_same _ _ _ _ _ _ _ ((OwnedB.read hO4)) ((OwnedB.read hQ4)) ((OwnedB.read hO2)) ((OwnedB.read hQ2))) ?_; rintro _ w13 ⟨rfl, E31⟩; have hs10 := E31.size
    refine Wo rfl (opv_not rfl) ?_; refine Wo_nil ?_; refine W_cond rfl (fun h4 => ?_) (fun h4 => ?_); contradiction; refine W_skip ?_; refine W_seq ?_; refine W_seq ?_
  clear stop10
  refine W_mid [31, 32, 33, 34, 35] (fun (_ : Unit) => [(35, .bool false)]) (fun _ w' => Ext w13 w') ?_ ?_
  · focus
      have szE31 := E31.size; have szE30 := E30.size; have szE29 := E29.size; have szE28 := E28.size; have szE27 := E27.size; have szE26 := E26.size; have szE25 := E25.size; have szE24 := E24.size; have szE23 := E23.size
      have szE22 := E22.size; have szE21 := E21.size; have szE20 := E20.size; have szE19 := E19.size; have szE18 := E18.size; have szE17 := E17.size; have szE16 := E16.size; have szE15 := E15.size; have szE14 := E14.size
      have szE13 := E13.size; have szE12 := E12.size; have szE11 := E11.size; have szE10 := E10.size; have szE9 := E9.size; have szE8 := E8.size; have szE7 := E7.size; have szE6 := E6.size; have szE5 := E5.size; have szE4 := E4.size
      have szE3 := E3.size; have szE2 := E2.size; have szE1 := E1.size; refine W_held (fun _ => True) mixed rfl (by kernel_rfl) ?_; intro w14 E32 K4 hz4; have hs11 := E32.size; refine Wh_all (rs := [0, 1]) (by kernel_rfl) rfl ?_
      refine WhAll_cons rfl ?_ ?_; refine Wo (v := .agg _) rfl (opv_load2 Try.isAgg25 Try.sizeOf25 rfl (hB3.ext (E31.trans E32))) ?_; refine Wo_nil ?_; refine ⟨trivial, ?_⟩; refine Wh_all (rs := [1]) (by kernel_rfl) rfl ?_
      refine WhAll_cons rfl ?_ ?_; refine Wo (v := .agg _) rfl (opv_load2 Try.isAgg34 Try.sizeOf34 rfl (hB1.ext (E31.trans E32))) ?_; refine Wo_nil ?_; refine ⟨trivial, ?_⟩; refine Wh_all (rs := [2]) (by kernel_rfl) rfl ?_
      refine WhAll_cons rfl ?_ ?_; refine Wo_call rfl (opc1 (a := .agg _) Try.call23 rfl) (toStream_ok _ _ _ _ _ ((Mono.mono ((E22.trans E31).trans E32) h1)) ((Mono.mono ((E22.trans E31).trans E32) h2)) (by assumption) (by assumption)) ?_
      rintro _ w15 ⟨u7, q5, rfl, E33, hO5, hQ5, hd5⟩; have icu7 := OwnedB.isC (Owned.toB hO5); have cpu7 := OwnedB.capOk (Owned.toB hO5); have icq5 := OwnedB.isC (Owned.toB hQ5); have cpq5 := OwnedB.capOk (Owned.toB hQ5)
      have hs12 := E33.size; refine Wo_nil ?_; refine ⟨trivial, ?_⟩; refine Wh_all (rs := [3]) (by kernel_rfl) rfl ?_; refine WhAll_cons rfl ?_ ?_
      refine Wo_call rfl (opc2 (a := .agg _) (b := .agg _) Try.call24 rfl rfl) (eq_same _ _ _ _ _ _ _ ((Mono.mono ((E31.trans E32).trans E33) (OwnedB.read hO3))) ((Mono.mono ((E31.trans E32).trans E33) (OwnedB.read hQ3))) ((Owned.read hO5)) ((Owned.read hQ5))) ?_
      rintro _ w16 ⟨rfl, E34⟩; have hs13 := E34.size; refine Wo_nil ?_; refine ⟨trivial, ?_⟩; refine Wh_take 4 rfl (by kernel_rfl) (by kernel_rfl) rfl (fun _ _ => opv_not rfl) trivial ?_; refine Wh_done (by kernel_rfl) ?_; rotate_left
      exact WhAll_nil; exact WhAll_nil; exact WhAll_nil; refine WhAll_cons rfl ?_ ?_; refine Wo (v := .agg _) rfl (opv_load2 Try.isAgg34 Try.sizeOf34 rfl (hB1.ext (E31.trans E32))) ?_; refine Wo_nil ?_; refine ⟨trivial, ?_⟩
      refine Wh_all (rs := [0, 2]) (by kernel_rfl) rfl ?_; refine WhAll_cons rfl ?_ ?_; refine Wo (v := .agg _) rfl (opv_load2 Try.isAgg25 Try.sizeOf25 rfl (hB3.ext (E31.trans E32))) ?_; refine Wo_nil ?_; refine ⟨trivial, ?_⟩
      refine Wh_all (rs := [2]) (by kernel_rfl) rfl ?_; refine WhAll_cons rfl ?_ ?_
      refine Wo_call rfl (opc1 (a := .agg _) Try.call23 rfl) (toStream_ok _ _ _ _ _ ((Mono.mono ((E22.trans E31).trans E32) h1)) ((Mono.mono ((E22.trans E31).trans E32) h2)) (by assumption) (by assumption)) ?_
      rintro _ w15 ⟨u7, q5, rfl, E33, hO5, hQ5, hd5⟩; have icu7 := OwnedB.isC (Owned.toB hO5); have cpu7 := OwnedB.capOk (Owned.toB hO5); have icq5 := OwnedB.isC (Owned.toB hQ5); have cpq5 := OwnedB.capOk (Owned.toB hQ5)
      have hs12 := E33.size; refine Wo_nil ?_; refine ⟨trivial, ?_⟩; refine Wh_all (rs := [3]) (by kernel_rfl) rfl ?_; refine WhAll_cons rfl ?_ ?_
      refine Wo_call rfl (opc2 (a := .agg _) (b := .agg _) Try.call24 rfl rfl) (eq_same _ _ _ _ _ _ _ ((Mono.mono ((E31.trans E32).trans E33) (OwnedB.read hO3))) ((Mono.mono ((E31.trans E32).trans E33) (OwnedB.read hQ3))) ((Owned.read hO5)) ((Owned.read hQ5))) ?_
      rintro _ w16 ⟨rfl, E34⟩; have hs13 := E34.size; refine Wo_nil ?_; refine ⟨trivial, ?_⟩; refine Wh_take 4 rfl (by kernel_rfl) (by kernel_rfl) rfl (fun _ _ => opv_not rfl) trivial ?_; refine Wh_done (by kernel_rfl) ?_; rotate_left
      exact WhAll_nil; exact WhAll_nil; refine WhAll_cons rfl ?_ ?_
      refine Wo_call rfl (opc1 (a := .agg _) Try.call23 rfl) (toStream_ok _ _ _ _ _ ((Mono.mono ((E22.trans E31).trans E32) h1)) ((Mono.mono ((E22.trans E31).trans E32) h2)) (by assumption) (by assumption)) ?_
      rintro _ w15 ⟨u7, q5, rfl, E33, hO5, hQ5, hd5⟩; have icu7 := OwnedB.isC (Owned.toB hO5); have cpu7 := OwnedB.capOk (Owned.toB hO5); have icq5 := OwnedB.isC (Owned.toB hQ5); have cpq5 := OwnedB.capOk (Owned.toB hQ5)
      have hs12 := E33.size; refine Wo_nil ?_; refine ⟨trivial, ?_⟩; refine Wh_all (rs := [0]) (by kernel_rfl) rfl ?_; refine WhAll_cons rfl ?_ ?_
      refine Wo (v := .agg _) rfl (opv_load2 Try.isAgg25 Try.sizeOf25 rfl (hB3.ext ((E31.trans E32).trans E33))) ?_; refine Wo_nil ?_; refine ⟨trivial, ?_⟩; refine Wh_all (rs := [3]) (by kernel_rfl) rfl ?_; refine WhAll_cons rfl ?_ ?_
      refine Wo_call rfl (opc2 (a := .agg _) (b := .agg _) Try.call24 rfl rfl) (eq_same _ _ _ _ _ _ _ ((Mono.mono ((E31.trans E32).trans E33) (OwnedB.read hO3))) ((Mono.mono ((E31.trans E32).trans E33) (OwnedB.read hQ3))) ((Owned.read hO5)) ((Owned.read hQ5))) ?_
      rintro _ w16 ⟨rfl, E34⟩; have hs13 := E34.size; refine Wo_nil ?_; refine ⟨trivial, ?_⟩; refine Wh_take 4 rfl (by kernel_rfl) (by kernel_rfl) rfl (fun _ _ => opv_not rfl) trivial ?_; refine Wh_done (by kernel_rfl) ?_; rotate_left
      exact WhAll_nil; exact WhAll_nil; exact WhAll_nil; exact WhAll_nil
    all_goals
      refine ⟨(), by repeat (first | exact trivial | refine And.intro rfl ?_), by repeat (first | with_reducible exact Same.refl | refine Same.upd rfl ?_ | refine Same.upds rfl ?_ | refine Same.mix rfl ?_), ?_⟩
      first | assumption | exact E32.trans (E33.trans E34) | exact E32.trans E33
  rintro _ ρy w14 E40
  focus
    have szE40 := E40.size; have szE31 := E31.size; have szE30 := E30.size; have szE29 := E29.size; have szE28 := E28.size; have szE27 := E27.size; have szE26 := E26.size; have szE25 := E25.size; have szE24 := E24.size
    have szE23 := E23.size; have szE22 := E22.size; have szE21 := E21.size; have szE20 := E20.size; have szE19 := E19.size; have szE18 := E18.size; have szE17 := E17.size; have szE16 := E16.size; have szE15 := E15.size
    have szE14 := E14.size; have szE13 := E13.size; have szE12 := E12.size; have szE11 := E11.size; have szE10 := E10.size; have szE9 := E9.size; have szE8 := E8.size; have szE7 := E7.size; have szE6 := E6.size; have szE5 := E5.size
    have szE4 := E4.size; have szE3 := E3.size; have szE2 := E2.size; have szE1 := E1.size; refine W_cond_false rfl ?_; refine W_skip ?_; refine W_seq ?_; refine W_region rfl ?_; refine Wo rfl (opv_assign (v := .int _ _) rfl) ?_
    refine Wo_nil ?_; refine W_seq ?_; refine W_region rfl ?_; refine Wo (v := .agg _) rfl (opv_load2 Try.isAgg25 Try.sizeOf25 rfl (hB3.ext (E31.trans E40))) ?_; refine Wo rfl (opv_move (v := .int _ _) rfl) ?_
    refine Wo_call rfl (opc2 (a := .agg _) (b := .int _ _) Try.call25 rfl rfl) (markStream_ok _ _ _ _ _ ((hO3.ext (E31.trans E40))) ((hQ3.ext (E31.trans E40))) (by assumption) (by assumption) (by omega) _ (by omega) (by assumption) (by assumption)) ?_
    rintro _ w15 ⟨rfl, E32, hO5, hQ5⟩; have hB4 := (hB4.ext (E31.trans E40)).span E32 (by omega); have hB3 := (hB3.ext (E31.trans E40)).span E32 (by omega); have hB2 := (hB2.ext (E31.trans E40)).span E32 (by omega)
    have hB1 := (hB1.ext (E31.trans E40)).span E32 (by omega); have hO1 := (hO1.ext (E31.trans E40)).span E32 (by omega); have hQ1 := (hQ1.ext (E31.trans E40)).span E32 (by omega)
    have hO2 := (hO2.ext (E31.trans E40)).span E32 (by omega); have hQ2 := (hQ2.ext (E31.trans E40)).span E32 (by omega); have hO4 := (hO4.ext (E31.trans E40)).span E32 (by omega)
    have hQ4 := (hQ4.ext (E31.trans E40)).span E32 (by omega); have E33 := ((E22.trans E31).trans E40).span E32 (by omega); have E34 := (((E23.trans E31).trans E40)).span E32 (by omega); have szE34 := E34.size
    have E35 := (((E24.trans E31).trans E40)).span E32 (by omega); have szE35 := E35.size; have E36 := (((E25.trans E31).trans E40)).span E32 (by omega); have szE36 := E36.size
    have E37 := (((E26.trans E31).trans E40)).span E32 (by omega); have szE37 := E37.size; have E38 := (((E27.trans E31).trans E40)).span E32 (by omega); have szE38 := E38.size; have hs11 := E32.size
    refine Wo rfl (opv_assign (v := .int _ _) rfl) ?_; refine Wo_nil ?_; refine W_seq ?_; refine W_seq ?_; refine W_region rfl ?_; refine Wo rfl (opv_move (v := .int _ _) rfl) ?_; refine Wo rfl (opv_lss rfl rfl) ?_
    refine Wo_split_dec rfl (opv_move (v := .bool _) rfl) (fun h9 => ?_) (fun h9 => ?_); contradiction; refine Wo (v := .agg _) rfl (opv_load2 Try.isAgg25 Try.sizeOf25 rfl hB4) ?_
    refine Wo (v := .agg _) rfl (opv_load2 Try.isAgg25 Try.sizeOf25 rfl hB2) ?_
    refine Wo_call rfl (opc2 (a := .agg _) (b := .agg _) Try.call24 rfl rfl) (eq_same _ _ _ _ _ _ _ ((OwnedB.read hO4)) ((OwnedB.read hQ4)) ((OwnedB.read hO2)) ((OwnedB.read hQ2))) ?_; rintro _ w16 ⟨rfl, E39⟩; have hs12 := E39.size
    refine Wo rfl (opv_not rfl) ?_; refine Wo rfl (opv_pick_f (v := .bool _) rfl rfl) ?_; refine Wo_nil ?_; refine W_cond rfl (fun h10 => ?_) (fun h10 => ?_); contradiction; refine W_skip ?_; refine W_seq ?_; refine W_region rfl ?_
    refine Wo rfl (opv_assign (v := .int _ _) rfl) ?_; refine Wo_nil ?_; refine W_seq ?_; refine W_region rfl ?_; refine Wo (v := .agg _) rfl (opv_load2 Try.isAgg25 Try.sizeOf25 rfl (hB4.ext E39)) ?_
    refine Wo rfl (opv_move (v := .int _ _) rfl) ?_
    refine Wo_call rfl (opc2 (a := .agg _) (b := .int _ _) Try.call25 rfl rfl) (markStream_ok _ _ _ _ _ ((hO4.ext E39)) ((hQ4.ext E39)) (by assumption) (by assumption) (by omega) _ (by omega) (by omega) (by omega)) ?_
    rintro _ w17 ⟨rfl, E41, hO6, hQ6⟩; have hO5 := (hO5.ext E39).span E41 (by omega); have hQ5 := (hQ5.ext E39).span E41 (by omega); have hB4 := (hB4.ext E39).span E41 (by omega); have hB3 := (hB3.ext E39).span E41 (by omega)
    have hB2 := (hB2.ext E39).span E41 (by omega); have hB1 := (hB1.ext E39).span E41 (by omega); have hO1 := (hO1.ext E39).span E41 (by omega); have hQ1 := (hQ1.ext E39).span E41 (by omega)
    have hO2 := (hO2.ext E39).span E41 (by omega); have hQ2 := (hQ2.ext E39).span E41 (by omega); have E42 := (E33.trans E39).span E41 (by omega); have E43 := ((E34.trans E39)).span E41 (by omega); have szE43 := E43.size
    have E44 := ((E35.trans E39)).span E41 (by omega); have szE44 := E44.size; have E45 := ((E36.trans E39)).span E41 (by omega); have szE45 := E45.size; have E46 := ((E37.trans E39)).span E41 (by omega); have szE46 := E46.size
    have E47 := ((E38.trans E39)).span E41 (by omega); have szE47 := E47.size; have hs13 := E41.size; refine Wo rfl (opv_assign (v := .int _ _) rfl) ?_; refine Wo_nil ?_; refine W_seq ?_; refine W_region rfl ?_
    refine Wo rfl (opv_assign (v := .int _ _) rfl) ?_; refine Wo_nil ?_; refine W_seq ?_; refine W_region rfl ?_; refine Wo (v := .agg _) rfl (opv_load2 Try.isAgg25 Try.sizeOf25 rfl hB4) ?_
    refine Wo rfl (opv_move (v := .int _ _) rfl) ?_; refine Wo_call rfl (opc2 (a := .agg _) (b := .int _ _) Try.call26 rfl rfl) (heldStream_ok _ _ _ _ _ _ ((OwnedB.read hO6)) ((OwnedB.read hQ6)) (by omega) (by omega) (by omega)) ?_
    rintro _ w18 ⟨rfl, E48⟩; have hs14 := E48.size; refine Wo rfl (opv_assign (v := .int _ _) rfl) ?_; refine Wo_nil ?_; refine W_seq ?_; refine W_seq ?_; refine W_region rfl ?_; refine Wo rfl (opv_move (v := .int _ _) rfl) ?_
    refine Wo rfl (opv_lss rfl rfl) ?_; refine Wo_nil ?_; refine W_cond_dec rfl (fun h11 => ?_) (fun h11 => ?_); contradiction; refine W_skip ?_; refine W_seq ?_; refine W_seq ?_; refine W_region rfl ?_
    refine Wo rfl (opv_move (v := .int _ _) rfl) ?_; refine Wo rfl (opv_move (v := .int _ _) rfl) ?_; refine Wo rfl (opv_neq rfl rfl) ?_; refine Wo_nil ?_; refine W_cond_ndec rfl (fun h12 => ?_) (fun h12 => ?_); contradiction
    refine W_skip ?_; refine W_seq ?_; refine W_region rfl ?_; refine Wo (v := .agg _) rfl (opv_load2 Try.isAgg34 Try.sizeOf34 rfl (hB1.ext E48)) ?_
    refine Wo_call rfl (opc1 (a := .agg _) Try.call23 rfl) (toStream_ok _ _ _ _ _ ((Mono.mono (E42.trans E48) h1)) ((Mono.mono (E42.trans E48) h2)) (by assumption) (by assumption)) ?_; rintro _ w19 ⟨u7, q5, rfl, E49, hO7, hQ7, hd5⟩
    have icu7 := OwnedB.isC (Owned.toB hO7); have cpu7 := OwnedB.capOk (Owned.toB hO7); have icq5 := OwnedB.isC (Owned.toB hQ7); have cpq5 := OwnedB.capOk (Owned.toB hQ7); have hs15 := E49.size
    refine Wo rfl (opv_move (v := .int _ _) rfl) ?_; refine Wo_call rfl (opc2 (a := .agg _) (b := .int _ _) Try.call20 rfl rfl) (k2 _ _ _ ((Owned.read hO7)) ((Owned.read hQ7))) ?_; rintro _ w20 ⟨u8, q6, rfl, E50, hO8, hQ8, hd6⟩
    have icu8 := OwnedB.isC (Owned.toB hO8); have cpu8 := OwnedB.capOk (Owned.toB hO8); have icq6 := OwnedB.isC (Owned.toB hQ8); have cpq6 := OwnedB.capOk (Owned.toB hQ8); have hs16 := E50.size; refine Wo_alloc2 rfl flat25 ?_
    rintro b5 w21 hb5 E51 hB5; have hlb5 := hB5.lt; have hs17 := E51.size
    refine Wo_st2 rfl Try.sizeOf25 rfl rfl (by first | rfl | assumption) (by first | rfl | assumption) hB5 (by omega) ((((E42.trans E48).trans E49).trans E50).trans E51) ?_; rintro w22 E52 hB5 K4 hz4
    have E53 := ((((E43.trans E48).trans E49).trans E50).trans E51).wroteAt ((((E42.trans E48).trans E49).trans E50).trans E51) E52 K4 hz4 (by omega); have szE53 := E53.size
    have E54 := ((((E44.trans E48).trans E49).trans E50).trans E51).wroteAt ((((E42.trans E48).trans E49).trans E50).trans E51) E52 K4 hz4 (by omega); have szE54 := E54.size
    have E55 := ((((E45.trans E48).trans E49).trans E50).trans E51).wroteAt ((((E42.trans E48).trans E49).trans E50).trans E51) E52 K4 hz4 (by omega); have szE55 := E55.size
    have E56 := ((((E46.trans E48).trans E49).trans E50).trans E51).wroteAt ((((E42.trans E48).trans E49).trans E50).trans E51) E52 K4 hz4 (by omega); have szE56 := E56.size
    have E57 := ((((E47.trans E48).trans E49).trans E50).trans E51).wroteAt ((((E42.trans E48).trans E49).trans E50).trans E51) E52 K4 hz4 (by omega); have szE57 := E57.size
    have E58 := (((E48.trans E49).trans E50).trans E51).wroteAt ((((E42.trans E48).trans E49).trans E50).trans E51) E52 K4 hz4 (by omega); have szE58 := E58.size
    have E59 := ((E49.trans E50).trans E51).wroteAt ((((E42.trans E48).trans E49).trans E50).trans E51) E52 K4 hz4 (by omega); have szE59 := E59.size
    have E60 := (E50.trans E51).wroteAt ((((E42.trans E48).trans E49).trans E50).trans E51) E52 K4 hz4 (by omega); have szE60 := E60.size; have E61 := E51.wroteAt ((((E42.trans E48).trans E49).trans E50).trans E51) E52 K4 hz4 (by omega)
    have szE61 := E61.size; have hO6 := (hO6.ext (((E48.trans E49).trans E50).trans E51)).wrote K4 (by omega); have hQ6 := (hQ6.ext (((E48.trans E49).trans E50).trans E51)).wrote K4 (by omega)
    have hO5 := (hO5.ext (((E48.trans E49).trans E50).trans E51)).wrote K4 (by omega); have hQ5 := (hQ5.ext (((E48.trans E49).trans E50).trans E51)).wrote K4 (by omega)
    have hB4 := (hB4.ext (((E48.trans E49).trans E50).trans E51)).of_heap (K4 _ (by omega)); have hB3 := (hB3.ext (((E48.trans E49).trans E50).trans E51)).of_heap (K4 _ (by omega))
    have hB2 := (hB2.ext (((E48.trans E49).trans E50).trans E51)).of_heap (K4 _ (by omega)); have hB1 := (hB1.ext (((E48.trans E49).trans E50).trans E51)).of_heap (K4 _ (by omega))
    have hO1 := (hO1.ext (((E48.trans E49).trans E50).trans E51)).wrote K4 (by omega); have hQ1 := (hQ1.ext (((E48.trans E49).trans E50).trans E51)).wrote K4 (by omega)
    have hO2 := (hO2.ext (((E48.trans E49).trans E50).trans E51)).wrote K4 (by omega); have hQ2 := (hQ2.ext (((E48.trans E49).trans E50).trans E51)).wrote K4 (by omega); have hO7 := (hO7.toB.ext (E50.trans E51)).wrote K4 (by omega)
    have hQ7 := (hQ7.toB.ext (E50.trans E51)).wrote K4 (by omega); have hO8 := (hO8.toB.ext E51).wrote K4 (by omega); have hQ8 := (hQ8.toB.ext E51).wrote K4 (by omega); refine Wo_nil ?_; refine W_seq ?_; refine W_seq ?_
    refine W_region rfl ?_; refine Wo (v := .agg _) rfl (opv_load2 Try.isAgg25 Try.sizeOf25 rfl hB5) ?_; refine Wo (v := .agg _) rfl (opv_load2 Try.isAgg25 Try.sizeOf25 rfl hB2) ?_
    refine Wo_call rfl (opc2 (a := .agg _) (b := .agg _) Try.call24 rfl rfl) (eq_same _ _ _ _ _ _ _ ((OwnedB.read hO8)) ((OwnedB.read hQ8)) ((OwnedB.read hO2)) ((OwnedB.read hQ2))) ?_; rintro _ w23 ⟨rfl, E62⟩; have hs18 := E62.size
    refine Wo rfl (opv_not rfl) ?_; refine Wo_nil ?_; refine W_cond rfl (fun h13 => ?_) (fun h13 => ?_); contradiction; refine W_skip ?_; refine W_seq ?_; refine W_region rfl ?_; refine Wo rfl (opv_assign (v := .int _ _) rfl) ?_
    refine Wo_nil ?_; refine W_seq ?_; refine W_region rfl ?_; refine Wo (v := .agg _) rfl (opv_load2 Try.isAgg25 Try.sizeOf25 rfl (hB4.ext E62)) ?_; refine Wo rfl (opv_move (v := .int _ _) rfl) ?_
    refine Wo_call rfl (opc2 (a := .agg _) (b := .int _ _) Try.call26 rfl rfl) (heldStream_ok _ _ _ _ _ _ ((Mono.mono E62 (OwnedB.read hO6))) ((Mono.mono E62 (OwnedB.read hQ6))) (by omega) (by omega) (by omega)) ?_
    rintro _ w24 ⟨rfl, E63⟩; have hs19 := E63.size; refine Wo rfl (opv_assign (v := .int _ _) rfl) ?_; refine Wo_nil ?_; refine W_seq ?_; refine W_seq ?_; refine W_region rfl ?_; refine Wo rfl (opv_move (v := .int _ _) rfl) ?_
    refine Wo rfl (opv_lss rfl rfl) ?_; refine Wo_nil ?_; refine W_cond_dec rfl (fun h14 => ?_) (fun h14 => ?_); contradiction; refine W_skip ?_; refine W_seq ?_; refine W_seq ?_; refine W_region rfl ?_
    refine Wo rfl (opv_move (v := .int _ _) rfl) ?_; refine Wo rfl (opv_move (v := .int _ _) rfl) ?_; refine Wo rfl (opv_neq rfl rfl) ?_; refine Wo_nil ?_; refine W_cond_ndec rfl (fun h15 => ?_) (fun h15 => ?_); contradiction
    refine W_skip ?_; refine W_seq ?_; refine W_region rfl ?_; refine Wo rfl (opv_assign (v := .bool _) rfl) ?_; refine Wo_nil ?_; refine W_ret ?_; exact ⟨rfl, ((E52.trans E62).trans E63)⟩

end Go.Proofs.Ytlalfmialbolhaa
