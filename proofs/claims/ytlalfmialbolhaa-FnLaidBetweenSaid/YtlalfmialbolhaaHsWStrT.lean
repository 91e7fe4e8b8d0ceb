/- Walks: the rest of a stream, on both sides. -/
import Derived.Test.YtlalfmialbolhaaHsWStrR
namespace Go.Proofs.Ytlalfmialbolhaa
open Go.Hs
set_option maxRecDepth 10000
set_option maxHeartbeats 4000000
set_option linter.unusedVariables false
set_option linter.unusedSimpArgs false
def shf (f : Nat → Int) (n : Nat) : Nat → Int := fun k => f (k + n)
theorem per_shf {f : Nat → Int} {a p : Nat} (h : Per f a p) (n : Nat) : Per (shf f n) (a - n) p := ⟨h.1, fun m hm => by
  show f (m + p + n) = f (m + n)
  rw [show m + p + n = m + n + p by omega]; exact h.2 _ (by omega)⟩
theorem win_shf {f : Nat → Int} {n a p : Nat} : win (shf f n) a p = win f (a + n) p := by
  unfold win shf
  apply List.map_congr_left
  intro i _
  congr 1; omega
noncomputable def rstV (A B : List Int) (z : Int) : List Int × List Int := if Stm A B ∧ 0 ≤ z ∧ z ≤ 99 then (shL (shf (bat A B) z.toNat), shR (shf (bat A B) z.toNat)) else ([], [])

theorem impl_RestOf_ok (w : World) (u1 u2 : Value) (A B : List Int) (h1 : Ints w u1 A) (h2 : Ints w u2 B) (hA : A.length ≤ 4000000) (hB : B.length ≤ 4000000) (z : Int) : Does Try.prog 20 [.agg #[u1, u2], .int .i64 z] w (RetS2 w 3 (rstV A B z).1 (rstV A B z).2) := by
  have hle1 := h1.le
  have hle2 := h2.le
  have hok : ∀ (x : Bool), decide (Stm A B) = x → ∀ (w : World) (u1 u2 : Value), Ints w u1 A → Ints w u2 B → Does Try.prog 54 [.agg #[u1, u2]] w (Ret w (.bool x)) := fun x e w u1 u2 h1 h2 => e ▸ isStream_ok w u1 u2 A B h1 h2 hA hB
  by_cases hs : Stm A B
  · have k1 := hok true (decide_eq_true hs)
    have hsl := hs.2.2
    by_cases hz : 0 ≤ z ∧ z ≤ 99
    · obtain ⟨n, rfl⟩ : ∃ n : Nat, z = (n : Int) := ⟨z.toNat, by omega⟩
      have e0 : rstV A B (n : Int) = (shL (shf (bat A B) n), shR (shf (bat A B) n)) := if_pos ⟨hs, hz⟩
      rw [e0]
      have hper := per_shf hs.per n
      have hcl : ∀ (w1 : World) (b1 b2 k : Nat), Ext w w1 → Blk w1 b1 [u1, u2] → Blk w1 b2 [.int .i64 (n : Int)] → k ≤ 100 → Does Try.prog 62 [.int .i64 (k : Int), .pointer (some ⟨b1, 0, none⟩), .pointer (some ⟨b2, 0, none⟩)] w1 (Ret w1 (.int .i64 (shf (bat A B) n k))) := by
        intro w1 b1 b2 k E0 hB1 hB2 hk
        have k2 : ∀ (w : World) (u1 u2 : Value), Ints w u1 A → Ints w u2 B → Does Try.prog 63 [.agg #[u1, u2], .int .i64 ((k : Int) + (n : Int))] w (Ret w (.int .i64 (shf (bat A B) n k))) := fun w u1 u2 h1 h2 => bitAt_ok w u1 u2 A B h1 h2 hs (k + n) (by omega)
        refine fn_of_W1 Try.func62 rfl Try.results62 Try.ntmps62 rfl ?_
        focus
          have szE0 := E0.size; refine W_seq ?_; refine W_region rfl ?_; refine Wo rfl (opv_assign (v := .int _ _) rfl) ?_; refine Wo_nil ?_; refine W_seq ?_; refine W_region rfl ?_
          refine Wo (v := .agg _) rfl (opv_load2 Try.isAgg25 Try.sizeOf25 rfl hB1) ?_; refine Wo rfl (opv_move (v := .int _ _) rfl) ?_; refine Wo (v := .int _ _) rfl (opv_load Try.isAgg3 rfl (hB2.cell rfl)) ?_
          refine Wo rfl (opv_add rfl rfl (by omega)) ?_; refine Wo_call rfl (opc2 (a := .agg _) (b := .int _ _) Try.call63 rfl rfl) (k2 _ _ _ ((Mono.mono E0 h1)) ((Mono.mono E0 h2))) ?_; rintro _ w2 ⟨rfl, E1⟩; have hs1 := E1.size
          refine Wo rfl (opv_assign (v := .int _ _) rfl) ?_; refine Wo_nil ?_; refine W_ret ?_; exact ⟨rfl, E1⟩
      have hsb : ∀ (w1 : World) (b1 b2 : Nat) (z : Int), Ext w w1 → Blk w1 b1 [u1, u2] → Blk w1 b2 [.int .i64 (n : Int)] → z = ((A.length - n : Nat) : Int) → Does Try.prog 61 [.int .i64 z, .int .i64 (B.length : Int), .func (.func 62) [].toArray [.pointer (some ⟨b1, 0, none⟩), .pointer (some ⟨b2, 0, none⟩)].toArray] w1 (RetS2 w1 3 (shL (shf (bat A B) n)) (shR (shf (bat A B) n))) := by
        intro w1 b1 b2 z E0 hB1 hB2 e
        subst e
        exact streamBy_ok w1 62 [.pointer (some ⟨b1, 0, none⟩), .pointer (some ⟨b2, 0, none⟩)] _ (A.length - n) B.length (by omega) (by omega) hper Try.call62 (fun k w' hk e => hcl w' b1 b2 k (E0.trans e) (hB1.ext e) (hB2.ext e) (by omega))
      clear hok hcl
      refine fn_of_Wc Try.func20 rfl Try.results20 Try.ntmps20 rfl Try.isAgg25 Try.sizeOf25 ?_
      focus
        refine W_seq ?_; refine W_region rfl ?_; refine Wo_box rfl rfl rfl ?_; rintro b1 w1 hb1 E1 hB1; have hlb1 := hB1.lt; have hs1 := E1.size; refine Wo_box rfl rfl rfl ?_; rintro b2 w2 hb2 E2 hB2; have hlb2 := hB2.lt
        have hs2 := E2.size; refine Wo_alloc2 rfl flat25 ?_; rintro b3 w3 hb3 E3 hB3; have hlb3 := hB3.lt; have hs3 := E3.size; refine Wo_nil ?_; refine W_seq ?_; refine W_seq ?_; refine W_region rfl ?_
        refine Wo (v := .agg _) rfl (opv_load2 Try.isAgg25 Try.sizeOf25 rfl (hB1.ext (E2.trans E3))) ?_
        refine Wo_call rfl (opc1 (a := .agg _) Try.call54 rfl) (k1 _ _ _ ((Mono.mono ((E1.trans E2).trans E3) h1)) ((Mono.mono ((E1.trans E2).trans E3) h2))) ?_; rintro _ w4 ⟨rfl, E4⟩; have hs4 := E4.size; refine Wo rfl (opv_not rfl) ?_
        refine Wo_split rfl (opv_move (v := .bool _) rfl) (fun h3 => ?_) (fun h3 => ?_); contradiction; refine Wo (v := .int _ _) rfl (opv_load Try.isAgg3 rfl ((hB2.ext (E3.trans E4)).cell rfl)) ?_; refine Wo rfl (opv_lss rfl rfl) ?_
        refine Wo rfl (opv_pick_f (v := .bool _) rfl rfl) ?_; refine Wo_split_dec rfl (opv_move (v := .bool _) rfl) (fun h4 => ?_) (fun h4 => ?_); contradiction
        refine Wo (v := .int _ _) rfl (opv_load Try.isAgg3 rfl ((hB2.ext (E3.trans E4)).cell rfl)) ?_; refine Wo rfl (opv_gtr rfl rfl) ?_; refine Wo rfl (opv_pick_f (v := .bool _) rfl rfl) ?_; refine Wo_nil ?_
        refine W_cond_dec rfl (fun h5 => ?_) (fun h5 => ?_); (exfalso; omega); refine W_skip ?_; refine W_seq ?_; refine W_region rfl ?_; refine Wo rfl (opv_fieldAddr Try.underlying25 rfl rfl Try.sizeOf23 rfl) ?_
        refine Wo (v := u1) rfl (opv_load Try.isAgg23 rfl ((hB1.ext ((E2.trans E3).trans E4)).cell rfl)) ?_; refine Wo rfl (opv_len Try.underlying23 rfl h1) ?_
        refine Wo (v := .int _ _) rfl (opv_load Try.isAgg3 rfl ((hB2.ext (E3.trans E4)).cell rfl)) ?_; refine Wo rfl (opv_sub rfl rfl (by omega)) ?_; refine Wo rfl (opv_max rfl rfl) ?_; refine Wo rfl (opv_assign (v := .int _ _) rfl) ?_
        refine Wo_nil ?_; refine W_seq ?_; refine W_region rfl ?_; refine Wo rfl (opv_move (v := .int _ _) rfl) ?_; refine Wo rfl (opv_fieldAddr Try.underlying25 rfl rfl Try.sizeOf23 rfl) ?_
        refine Wo (v := u2) rfl (opv_load Try.isAgg23 rfl ((hB1.ext ((E2.trans E3).trans E4)).cell rfl)) ?_; refine Wo rfl (opv_len Try.underlying23 rfl h2) ?_; refine Wo rfl (opv_makeFunc rfl rfl) ?_
        refine Wo_call rfl (opc3 (a := .int _ _) (b := .int _ _) (c := .func _ _ _) Try.call61 rfl rfl rfl) (hsb _ _ _ _ ((((E1.trans E2).trans E3).trans E4)) ((hB1.ext ((E2.trans E3).trans E4))) ((hB2.ext (E3.trans E4))) (by omega)) ?_
        rintro _ w5 ⟨u3, q1, rfl, E5, hO1, hQ1, hd1⟩; have icu3 := OwnedB.isC (Owned.toB hO1); have cpu3 := OwnedB.capOk (Owned.toB hO1); have icq1 := OwnedB.isC (Owned.toB hQ1); have cpq1 := OwnedB.capOk (Owned.toB hQ1)
        have hs5 := E5.size; refine Wo_st2 rfl Try.sizeOf25 rfl rfl (by first | rfl | assumption) (by first | rfl | assumption) (hB3.ext (E4.trans E5)) (by omega) ((((E1.trans E2).trans E3).trans E4).trans E5) ?_; rintro w6 E6 hB3 K1 hz1
        have E7 := (((E2.trans E3).trans E4).trans E5).wroteAt ((((E1.trans E2).trans E3).trans E4).trans E5) E6 K1 hz1 (by omega); have szE7 := E7.size
        have E8 := ((E3.trans E4).trans E5).wroteAt ((((E1.trans E2).trans E3).trans E4).trans E5) E6 K1 hz1 (by omega); have szE8 := E8.size; have hB1 := (hB1.ext (((E2.trans E3).trans E4).trans E5)).of_heap (K1 _ (by omega))
        have hB2 := (hB2.ext ((E3.trans E4).trans E5)).of_heap (K1 _ (by omega)); have hO1 := hO1.toB.wrote K1 (by omega); have hQ1 := hQ1.toB.wrote K1 (by omega); refine Wo_nil ?_; refine W_ret ?_
      exact ⟨_, _, _, rfl, hB3, _, _, rfl, by assumption, hO1.o.mono (by omega), hQ1.o.mono (by omega), hd1⟩
    · have e0 : rstV A B z = ([], []) := if_neg (fun h => hz h.2)
      rw [e0]
      clear hok
      refine fn_of_Wc Try.func20 rfl Try.results20 Try.ntmps20 rfl Try.isAgg25 Try.sizeOf25 ?_
      focus
        refine W_seq ?_; refine W_region rfl ?_; refine Wo_box rfl rfl rfl ?_; rintro b1 w1 hb1 E1 hB1; have hlb1 := hB1.lt; have hs1 := E1.size; refine Wo_box rfl rfl rfl ?_; rintro b2 w2 hb2 E2 hB2; have hlb2 := hB2.lt
        have hs2 := E2.size; refine Wo_alloc2 rfl flat25 ?_; rintro b3 w3 hb3 E3 hB3; have hlb3 := hB3.lt; have hs3 := E3.size; refine Wo_nil ?_; refine W_seq ?_; refine W_seq ?_; refine W_region rfl ?_
        refine Wo (v := .agg _) rfl (opv_load2 Try.isAgg25 Try.sizeOf25 rfl (hB1.ext (E2.trans E3))) ?_
        refine Wo_call rfl (opc1 (a := .agg _) Try.call54 rfl) (k1 _ _ _ ((Mono.mono ((E1.trans E2).trans E3) h1)) ((Mono.mono ((E1.trans E2).trans E3) h2))) ?_; rintro _ w4 ⟨rfl, E4⟩; have hs4 := E4.size; refine Wo rfl (opv_not rfl) ?_
        refine Wo_split rfl (opv_move (v := .bool _) rfl) (fun h3 => ?_) (fun h3 => ?_); contradiction; refine Wo (v := .int _ _) rfl (opv_load Try.isAgg3 rfl ((hB2.ext (E3.trans E4)).cell rfl)) ?_; refine Wo rfl (opv_lss rfl rfl) ?_
        refine Wo rfl (opv_pick_f (v := .bool _) rfl rfl) ?_; refine Wo_split_dec rfl (opv_move (v := .bool _) rfl) (fun h4 => ?_) (fun h4 => ?_); refine Wo_skip rfl ?_; refine Wo_skip rfl ?_
        refine Wo rfl (opv_pick_t (v := .bool _) rfl rfl) ?_; refine Wo_nil ?_; refine W_cond_true rfl ?_; refine W_seq ?_; refine W_region rfl ?_; refine Wo rfl (opv_build (ps := []) (cs := [_, _]) flat25 rfl rfl) ?_
        refine Wo_st2 rfl Try.sizeOf25 rfl rfl (by first | rfl | assumption) (by first | rfl | assumption) (hB3.ext E4) (by omega) (((E1.trans E2).trans E3).trans E4) ?_; rintro w5 E5 hB3 K1 hz1
        have E6 := ((E2.trans E3).trans E4).wroteAt (((E1.trans E2).trans E3).trans E4) E5 K1 hz1 (by omega); have szE6 := E6.size; have E7 := (E3.trans E4).wroteAt (((E1.trans E2).trans E3).trans E4) E5 K1 hz1 (by omega)
        have szE7 := E7.size; have hB1 := (hB1.ext ((E2.trans E3).trans E4)).of_heap (K1 _ (by omega)); have hB2 := (hB2.ext (E3.trans E4)).of_heap (K1 _ (by omega)); refine Wo_nil ?_; refine W_ret ?_; rotate_left
        refine Wo (v := .int _ _) rfl (opv_load Try.isAgg3 rfl ((hB2.ext (E3.trans E4)).cell rfl)) ?_; refine Wo rfl (opv_gtr rfl rfl) ?_; refine Wo rfl (opv_pick_f (v := .bool _) rfl rfl) ?_; refine Wo_nil ?_
        refine W_cond_dec rfl (fun h5 => ?_) (fun h5 => ?_); refine W_seq ?_; refine W_region rfl ?_; refine Wo rfl (opv_build (ps := []) (cs := [_, _]) flat25 rfl rfl) ?_
        refine Wo_st2 rfl Try.sizeOf25 rfl rfl (by first | rfl | assumption) (by first | rfl | assumption) (hB3.ext E4) (by omega) (((E1.trans E2).trans E3).trans E4) ?_; rintro w5 E5 hB3 K1 hz1
        have E6 := ((E2.trans E3).trans E4).wroteAt (((E1.trans E2).trans E3).trans E4) E5 K1 hz1 (by omega); have szE6 := E6.size; have E7 := (E3.trans E4).wroteAt (((E1.trans E2).trans E3).trans E4) E5 K1 hz1 (by omega)
        have szE7 := E7.size; have hB1 := (hB1.ext ((E2.trans E3).trans E4)).of_heap (K1 _ (by omega)); have hB2 := (hB2.ext (E3.trans E4)).of_heap (K1 _ (by omega)); refine Wo_nil ?_; refine W_ret ?_; rotate_left; (exfalso; omega)
      all_goals exact ⟨_, _, _, rfl, by assumption, _, _, rfl, by assumption, Owned.nil, Owned.nil, .inr rfl⟩
  · have k1 := hok false (decide_eq_false hs)
    have e0 : rstV A B z = ([], []) := if_neg (fun h => hs h.1)
    rw [e0]
    clear hok
    refine fn_of_Wc Try.func20 rfl Try.results20 Try.ntmps20 rfl Try.isAgg25 Try.sizeOf25 ?_
    focus
      refine W_seq ?_; refine W_region rfl ?_; refine Wo_box rfl rfl rfl ?_; rintro b1 w1 hb1 E1 hB1; have hlb1 := hB1.lt; have hs1 := E1.size; refine Wo_box rfl rfl rfl ?_; rintro b2 w2 hb2 E2 hB2; have hlb2 := hB2.lt
      have hs2 := E2.size; refine Wo_alloc2 rfl flat25 ?_; rintro b3 w3 hb3 E3 hB3; have hlb3 := hB3.lt; have hs3 := E3.size; refine Wo_nil ?_; refine W_seq ?_; refine W_seq ?_; refine W_region rfl ?_
      refine Wo (v := .agg _) rfl (opv_load2 Try.isAgg25 Try.sizeOf25 rfl (hB1.ext (E2.trans E3))) ?_
      refine Wo_call rfl (opc1 (a := .agg _) Try.call54 rfl) (k1 _ _ _ ((Mono.mono ((E1.trans E2).trans E3) h1)) ((Mono.mono ((E1.trans E2).trans E3) h2))) ?_; rintro _ w4 ⟨rfl, E4⟩; have hs4 := E4.size; refine Wo rfl (opv_not rfl) ?_
      refine Wo_split rfl (opv_move (v := .bool _) rfl) (fun h3 => ?_) (fun h3 => ?_); refine Wo_skip rfl ?_; refine Wo_skip rfl ?_; refine Wo rfl (opv_pick_t (v := .bool _) rfl rfl) ?_; refine Wo rfl (opv_move (v := .bool _) rfl) ?_
      refine Wo_skip rfl ?_; refine Wo_skip rfl ?_; refine Wo rfl (opv_pick_t (v := .bool _) rfl rfl) ?_; refine Wo_nil ?_; refine W_cond_true rfl ?_; refine W_seq ?_; refine W_region rfl ?_
      refine Wo rfl (opv_build (ps := []) (cs := [_, _]) flat25 rfl rfl) ?_; refine Wo_st2 rfl Try.sizeOf25 rfl rfl (by first | rfl | assumption) (by first | rfl | assumption) (hB3.ext E4) (by omega) (((E1.trans E2).trans E3).trans E4) ?_
      rintro w5 E5 hB3 K1 hz1; have E6 := ((E2.trans E3).trans E4).wroteAt (((E1.trans E2).trans E3).trans E4) E5 K1 hz1 (by omega); have szE6 := E6.size
      have E7 := (E3.trans E4).wroteAt (((E1.trans E2).trans E3).trans E4) E5 K1 hz1 (by omega); have szE7 := E7.size; have hB1 := (hB1.ext ((E2.trans E3).trans E4)).of_heap (K1 _ (by omega))
      have hB2 := (hB2.ext (E3.trans E4)).of_heap (K1 _ (by omega)); refine Wo_nil ?_; refine W_ret ?_; rotate_left; contradiction
    all_goals exact ⟨_, _, _, rfl, by assumption, _, _, rfl, by assumption, Owned.nil, Owned.nil, .inr rfl⟩

theorem spec_RestOf_ok (w : World) (u1 u2 : Value) (A B : List Int) (h1 : Ints w u1 A) (h2 : Ints w u2 B) (hcap : CapOk u1) (hA : A.length ≤ 4000000) (hB : B.length ≤ 4000000) (z : Int) : Does Try.prog 22 [.agg #[u1, u2], .int .i64 z] w (RetS2 w 3 (rstV A B z).1 (rstV A B z).2) := by
  have hle1 := h1.le
  have hle2 := h2.le
  have hok : ∀ (x : Bool), decide (Stm A B) = x → ∀ (w : World) (u1 u2 : Value), Ints w u1 A → Ints w u2 B → Does Try.prog 16 [.agg #[u1, u2]] w (Ret w (.bool x)) := fun x e w u1 u2 h1 h2 => e ▸ StreamOk_ok w u1 u2 A B h1 h2 hA hB
  by_cases hs : Stm A B
  · have k1 := hok true (decide_eq_true hs)
    have hsl := hs.2.2
    by_cases hz : 0 ≤ z ∧ z ≤ 99
    · obtain ⟨n, rfl⟩ : ∃ n : Nat, z = (n : Int) := ⟨z.toNat, by omega⟩
      have e0 : rstV A B (n : Int) = (shL (shf (bat A B) n), shR (shf (bat A B) n)) := if_pos ⟨hs, hz⟩
      rw [e0]
      obtain ⟨f, hf⟩ : ∃ f, f = bat A B := ⟨_, rfl⟩
      have hper := per_shf hs.per n
      rw [← hf] at hper ⊢
      obtain ⟨g, hg⟩ : ∃ g, g = shf f n := ⟨_, rfl⟩
      rw [← hg] at hper ⊢
      have hbit : ∀ k, g k = 0 ∨ g k = 1 := fun k => by rw [hg, hf]; exact hs.bit _
      have hst : Stm (win g 0 (A.length - n)) (win g (A.length - n) B.length) := stm_win hbit hsl.1 (by omega)
      have hsO : ∀ (w : World) (u1 u2 : Value), Ints w u1 (win g 0 (A.length - n)) → Ints w u2 (win g (A.length - n) B.length) → Does Try.prog 53 [.agg #[u1, u2]] w (RetS2 w 3 (shL g) (shR g)) := fun w u1 u2 h1 h2 => by
        have := spec_ShortOf_ok w u1 u2 _ _ h1 h2 (by rw [win_len]; omega) (by rw [win_len]; omega)
        rw [show shV (win g 0 (A.length - n)) (win g (A.length - n) B.length) = (shL g, shR g) by unfold shV; rw [if_pos hst, bat_win hper]] at this
        exact this
      clear hok
      refine fn_of_Wc Try.func22 rfl Try.results22 Try.ntmps22 rfl Try.isAgg25 Try.sizeOf25 ?_
      by_cases hnA : n < A.length
      · have stop5 : True := trivial
        obtain ⟨pa, pc, rfl, hR⟩ := id h1
        obtain ⟨ca, cl, cc, ec, hcc⟩ := hcap
        injection ec with ec1 ec2 ec3
        subst ec1 ec2 ec3
        obtain ⟨ub, uo, rfl⟩ : ∃ b o, pa = some ⟨b, o, none⟩ := by
          rcases hR.2 with h | ⟨b, o, h, _⟩
          · rw [h] at hnA; simp at hnA
          · exact ⟨b, o, h⟩
        focus
          refine W_seq ?_; refine W_region rfl ?_; refine Wo_box rfl rfl rfl ?_; rintro b1 w1 hb1 E1 hB1; have hlb1 := hB1.lt; have hs1 := E1.size; refine Wo_alloc2 rfl flat25 ?_; rintro b2 w2 hb2 E2 hB2; have hlb2 := hB2.lt
          have hs2 := E2.size; refine Wo_nil ?_; refine W_seq ?_; refine W_seq ?_; refine W_region rfl ?_; refine Wo (v := .agg _) rfl (opv_load2 Try.isAgg25 Try.sizeOf25 rfl (hB1.ext E2)) ?_
          refine Wo_call rfl (opc1 (a := .agg _) Try.call16 rfl) (k1 _ _ _ ((Mono.mono (E1.trans E2) h1)) ((Mono.mono (E1.trans E2) h2))) ?_; rintro _ w3 ⟨rfl, E3⟩; have hs3 := E3.size; refine Wo rfl (opv_not rfl) ?_
          refine Wo_split rfl (opv_move (v := .bool _) rfl) (fun h3 => ?_) (fun h3 => ?_); contradiction; refine Wo rfl (opv_move (v := .int _ _) rfl) ?_
          refine Wo_call rfl (opc3 (a := .int _ _) (b := .int _ _) (c := .int _ _) Try.call58 rfl rfl rfl) (l1In_ok _ _ _ _) ?_; rintro _ w4 ⟨rfl, E4⟩; have hs4 := E4.size; refine Wo rfl (opv_not rfl) ?_
          refine Wo rfl (opv_pick_f (v := .bool _) rfl rfl) ?_; refine Wo_nil ?_; refine W_cond_ndec rfl (fun h4 => ?_) (fun h4 => ?_); contradiction; refine W_skip ?_; refine W_seq ?_; refine W_region rfl ?_
          refine Wo rfl (opv_build (ps := []) (cs := [_, _]) flat25 rfl rfl) ?_; refine Wo_alloc2 rfl flat25 ?_; rintro b3 w5 hb3 E5 hB3; have hlb3 := hB3.lt; have hs5 := E5.size
          refine Wo_st2 rfl Try.sizeOf25 rfl rfl (by first | rfl | assumption) (by first | rfl | assumption) hB3 (by omega) ((((E1.trans E2).trans E3).trans E4).trans E5) ?_; rintro w6 E6 hB3 K1 hz1
          have E7 := (((E2.trans E3).trans E4).trans E5).wroteAt ((((E1.trans E2).trans E3).trans E4).trans E5) E6 K1 hz1 (by omega); have szE7 := E7.size
          have E8 := ((E3.trans E4).trans E5).wroteAt ((((E1.trans E2).trans E3).trans E4).trans E5) E6 K1 hz1 (by omega); have szE8 := E8.size
          have E9 := (E4.trans E5).wroteAt ((((E1.trans E2).trans E3).trans E4).trans E5) E6 K1 hz1 (by omega); have szE9 := E9.size; have E10 := E5.wroteAt ((((E1.trans E2).trans E3).trans E4).trans E5) E6 K1 hz1 (by omega)
          have szE10 := E10.size; have hB1 := (hB1.ext (((E2.trans E3).trans E4).trans E5)).of_heap (K1 _ (by omega)); have hB2 := (hB2.ext ((E3.trans E4).trans E5)).of_heap (K1 _ (by omega)); refine Wo_nil ?_; refine W_seq ?_
          refine W_seq ?_; refine W_region rfl ?_; refine Wo rfl (opv_move (v := .int _ _) rfl) ?_; refine Wo rfl (opv_fieldAddr Try.underlying25 rfl rfl Try.sizeOf23 rfl) ?_
          refine Wo (v := .slice _ _ _) rfl (opv_load Try.isAgg23 rfl (hB1.cell rfl)) ?_; refine Wo rfl (opv_len Try.underlying23 rfl h1) ?_; refine Wo rfl (opv_lss rfl rfl) ?_; refine Wo_nil ?_
          refine W_cond_dec rfl (fun h5 => ?_) (fun h5 => ?_); rotate_left; (exfalso; omega)
        clear stop5
        have hdr : Ints w (.slice (some ⟨ub, uo + n, none⟩) (A.length - n) (pc - n)) (win g 0 (A.length - n)) := by
          have := Ints_drop (c' := pc - n) h1 (k := n) (by omega)
          rw [show A.drop n = win g 0 (A.length - n) by
            rw [hg, win_shf, Nat.zero_add, hf]
            have := win_drop (f := bat A B) (a := 0) (p := A.length) (k := n) (by omega)
            rw [win_bat0, Nat.zero_add] at this; exact this] at this
          exact this
        have hwl := win_len (f := g) (a := 0) (p := A.length - n)
        have hO0 : Owned w6.heap.size XI w6 (.slice none 0 0) [] := Owned.nil
        refine W_mid [23, 24, 25, 26, 27, 28, 29, 30] (fun (_ : Value) => []) (fun o w' => Ext w4 w' ∧ w6.heap.size ≤ w'.heap.size ∧ Blk w' b3 [o, .slice none 0 0] ∧ Owned w6.heap.size XI w' o (win g 0 (A.length - n))) ?_ ?_
        · focus
            have szE10 := E10.size; have szE9 := E9.size; have szE8 := E8.size; have szE7 := E7.size; have szE6 := E6.size; have szE5 := E5.size; have szE4 := E4.size; have szE3 := E3.size; have szE2 := E2.size; have szE1 := E1.size
            refine W_held (fun _ => True) mixed rfl (by kernel_rfl) ?_; intro w7 E11 K2 hz2; have hs6 := E11.size
            refine Wh_take 0 rfl (by kernel_rfl) (by kernel_rfl) rfl (fun _ _ => opv_fieldAddr Try.underlying25 rfl rfl Try.sizeOf23 rfl) trivial ?_
            refine Wh_take 2 rfl (by kernel_rfl) (by kernel_rfl) rfl (fun _ _ => opv_fieldAddr Try.underlying25 rfl rfl Try.sizeOf23 rfl) trivial ?_
            refine Wh_take 4 rfl (by kernel_rfl) (by kernel_rfl) rfl (fun _ _ => opv_move (v := .int _ _) rfl) trivial ?_; refine Wh_all (rs := [1, 3]) (by kernel_rfl) rfl ?_; refine WhAll_cons rfl ?_ ?_
            refine Wo (v := .slice _ _ _) rfl (opv_load Try.isAgg23 rfl ((hB3.ext E11).cell rfl)) ?_; refine Wo_nil ?_; refine ⟨trivial, ?_⟩; refine Wh_all (rs := [3]) (by kernel_rfl) rfl ?_; refine WhAll_cons rfl ?_ ?_
            refine Wo (v := .slice _ _ _) rfl (opv_load Try.isAgg23 rfl ((hB1.ext E11).cell rfl)) ?_; refine Wo_nil ?_; refine ⟨trivial, ?_⟩
            refine Wh_take 5 rfl (by kernel_rfl) (by kernel_rfl) rfl (fun _ _ => opv_slice_sl_lo Try.underlying23 Try.sizeOf3 rfl rfl (by omega)) trivial ?_; refine Wh_all (rs := [6]) (by kernel_rfl) rfl ?_; refine WhAll_cons rfl ?_ ?_
            refine Wo_appS rfl el23 rfl rfl (Mono.mono (E6.trans E11) hdr) (hO0.toB.ext E11) (by first | omega | (simp <;> omega)) (by omega) (by omega) (E6.trans E11) (by omega) ?_; have hT1 := (hO0.toB.ext E11); rintro v1 w8 hO0 E12 M1
            have E13 := M1.ext hT1 (E7.trans E11) (by omega); have szE13 := E13.size; have E14 := M1.ext hT1 (E8.trans E11) (by omega); have szE14 := E14.size; have E15 := M1.ext hT1 (E9.trans E11) (by omega); have szE15 := E15.size
            have E16 := M1.ext hT1 (E10.trans E11) (by omega); have szE16 := E16.size; have E17 := M1.ext hT1 E11 (by omega); have szE17 := E17.size; have hB3 := (hB3.ext E11).moves M1 hT1 (by omega)
            have hB1 := (hB1.ext E11).moves M1 hT1 (by omega); have hB2 := (hB2.ext E11).moves M1 hT1 (by omega); have hs7 := E12.size; refine Wo_nil ?_; refine ⟨trivial, ?_⟩
            refine Wh_take 7 rfl (by kernel_rfl) (by kernel_rfl) rfl (fun _ _ => opv_fieldAddr Try.underlying25 rfl rfl Try.sizeOf23 rfl) trivial ?_; refine Wh_all (rs := [8]) (by kernel_rfl) rfl ?_; refine WhAll_cons rfl ?_ ?_
            refine Wo_st (v := v1) rfl Try.sizeOf23 rfl rfl (OwnedB.isC hO0.toB) hB3 (by decide) (by omega) E12 ?_; rintro w9 E18 hB3 K3 hz3; have E19 := E13.wroteAt E12 E18 K3 hz3 (by omega); have szE19 := E19.size
            have E20 := E14.wroteAt E12 E18 K3 hz3 (by omega); have szE20 := E20.size; have E21 := E15.wroteAt E12 E18 K3 hz3 (by omega); have szE21 := E21.size; have E22 := E16.wroteAt E12 E18 K3 hz3 (by omega); have szE22 := E22.size
            simp only [List.set] at hB3; have hO0 := hO0.toB.wrote K3 (by omega); have hB1 := hB1.of_heap (K3 _ (by omega)); have hB2 := hB2.of_heap (K3 _ (by omega)); refine Wo_nil ?_; refine ⟨trivial, ?_⟩; refine Wh_done (by kernel_rfl) ?_
            rotate_left; exact WhAll_nil; exact WhAll_nil; exact WhAll_nil; refine WhAll_cons rfl ?_ ?_; refine Wo (v := .slice _ _ _) rfl (opv_load Try.isAgg23 rfl ((hB1.ext E11).cell rfl)) ?_; refine Wo_nil ?_; refine ⟨trivial, ?_⟩
            refine Wh_take 5 rfl (by kernel_rfl) (by kernel_rfl) rfl (fun _ _ => opv_slice_sl_lo Try.underlying23 Try.sizeOf3 rfl rfl (by omega)) trivial ?_; refine Wh_all (rs := [1]) (by kernel_rfl) rfl ?_; refine WhAll_cons rfl ?_ ?_
            refine Wo (v := .slice _ _ _) rfl (opv_load Try.isAgg23 rfl ((hB3.ext E11).cell rfl)) ?_; refine Wo_nil ?_; refine ⟨trivial, ?_⟩; refine Wh_all (rs := [6]) (by kernel_rfl) rfl ?_; refine WhAll_cons rfl ?_ ?_
            refine Wo_appS rfl el23 rfl rfl (Mono.mono (E6.trans E11) hdr) (hO0.toB.ext E11) (by first | omega | (simp <;> omega)) (by omega) (by omega) (E6.trans E11) (by omega) ?_; have hT1 := (hO0.toB.ext E11); rintro v1 w8 hO0 E12 M1
            have E13 := M1.ext hT1 (E7.trans E11) (by omega); have szE13 := E13.size; have E14 := M1.ext hT1 (E8.trans E11) (by omega); have szE14 := E14.size; have E15 := M1.ext hT1 (E9.trans E11) (by omega); have szE15 := E15.size
            have E16 := M1.ext hT1 (E10.trans E11) (by omega); have szE16 := E16.size; have E17 := M1.ext hT1 E11 (by omega); have szE17 := E17.size; have hB3 := (hB3.ext E11).moves M1 hT1 (by omega)
            have hB1 := (hB1.ext E11).moves M1 hT1 (by omega); have hB2 := (hB2.ext E11).moves M1 hT1 (by omega); have hs7 := E12.size; refine Wo_nil ?_; refine ⟨trivial, ?_⟩
            refine Wh_take 7 rfl (by kernel_rfl) (by kernel_rfl) rfl (fun _ _ => opv_fieldAddr Try.underlying25 rfl rfl Try.sizeOf23 rfl) trivial ?_; refine Wh_all (rs := [8]) (by kernel_rfl) rfl ?_; refine WhAll_cons rfl ?_ ?_
            refine Wo_st (v := v1) rfl Try.sizeOf23 rfl rfl (OwnedB.isC hO0.toB) hB3 (by decide) (by omega) E12 ?_; rintro w9 E18 hB3 K3 hz3; have E19 := E13.wroteAt E12 E18 K3 hz3 (by omega); have szE19 := E19.size
            have E20 := E14.wroteAt E12 E18 K3 hz3 (by omega); have szE20 := E20.size; have E21 := E15.wroteAt E12 E18 K3 hz3 (by omega); have szE21 := E21.size; have E22 := E16.wroteAt E12 E18 K3 hz3 (by omega); have szE22 := E22.size
            simp only [List.set] at hB3; have hO0 := hO0.toB.wrote K3 (by omega); have hB1 := hB1.of_heap (K3 _ (by omega)); have hB2 := hB2.of_heap (K3 _ (by omega)); refine Wo_nil ?_; refine ⟨trivial, ?_⟩; refine Wh_done (by kernel_rfl) ?_
            rotate_left; exact WhAll_nil; exact WhAll_nil; exact WhAll_nil; exact WhAll_nil
          all_goals
            refine ⟨v1, by repeat (first | exact trivial | refine And.intro rfl ?_), by repeat (first | with_reducible exact Same.refl | refine Same.upd rfl ?_ | refine Same.upds rfl ?_ | refine Same.mix rfl ?_), ?_⟩
            exact ⟨by assumption, by have := M1.1.size; omega, by assumption, OwnedB.o (by assumption)⟩
        · clear hB3 hB2 hB1 hO0
          rintro o ρy w7 ⟨E12, hs12, hB3, hO⟩
          have hwl := win_len (f := g) (a := 0) (p := A.length - n)
          focus
            have szE12 := E12.size; have szE10 := E10.size; have szE9 := E9.size; have szE8 := E8.size; have szE7 := E7.size; have szE6 := E6.size; have szE5 := E5.size; have szE4 := E4.size; have szE3 := E3.size; have szE2 := E2.size
            have szE1 := E1.size; refine W_seq ?_; refine W_region rfl ?_; refine Wo rfl (opv_move (v := .int _ _) rfl) ?_; refine Wo rfl (opv_fieldAddr Try.underlying25 rfl rfl Try.sizeOf23 rfl) ?_
            refine Wo (v := .slice _ _ _) rfl (opv_load Try.isAgg23 rfl ((hB1.ext (((E2.trans E3).trans E4).trans E12)).cell rfl)) ?_; refine Wo rfl (opv_len Try.underlying23 rfl h1) ?_; refine Wo rfl (opv_max rfl rfl) ?_
            refine Wo rfl (opv_assign (v := .int _ _) rfl) ?_; refine Wo_nil ?_; refine W_seq ?_; refine W_seq ?_; refine W_region rfl ?_; refine Wo rfl (opv_assign (v := .int _ _) rfl) ?_; refine Wo_nil ?_; refine W_block ?_
          refine W_loop [7, 36, 37, 38, 39, 40, 41, 42, 43, 44, 45, 46, 47, 48, 49, 50, 51, 52] (fun (k, q) => [(7, .int .i64 (k : Nat))]) (fun (k, (q : Value)) w' => Ext w4 w' ∧ w7.heap.size ≤ w'.heap.size ∧ k ≤ B.length ∧ Blk w' b3 [o, q] ∧ OwnedB w6.heap.size w7.heap.size XI w' o (win g 0 (A.length - n)) ∧ Owned w7.heap.size XI w' q (win g (A.length - n) k)) (fun x => B.length - x.1) (0, .slice none 0 0) (by repeat (first | exact trivial | refine And.intro rfl ?_)) ?_ ?_
          · exact ⟨by assumption, Nat.le_refl _, Nat.zero_le _, hB3, hO.toB, by simpa [win] using (Owned.nil : Owned w7.heap.size XI w7 (.slice none 0 0) [])⟩
          clear hB3 hO
          rintro ⟨k, q⟩ ρm w20 ⟨E20, hs20, hk, hB3, hO, hQ⟩
          have hwl2 := win_len (f := g) (a := A.length - n) (p := k)
          by_cases hkB : k < B.length
          · have hsn : win g (A.length - n) (k + 1) = win g (A.length - n) k ++ [g (A.length - n + k)] := win_succ
            have hbk : ∀ (w : World) (u1 u2 : Value) (z : Int), Ints w u1 A → Ints w u2 B → z = ((A.length - n + k + n : Nat) : Int) → Does Try.prog 57 [.agg #[u1, u2], .int .i64 z] w (Ret w (.int .i64 (g (A.length - n + k)))) := fun w u1 u2 z h1 h2 e => by
              subst e
              have := spec_BitAt_ok w u1 u2 A B h1 h2 hA hB ((A.length - n + k + n : Nat) : Int)
              rw [show batV A B ((A.length - n + k + n : Nat) : Int) = g (A.length - n + k) by rw [hg, hf]; exact if_pos ⟨hs, by omega, by omega⟩] at this; exact this
            focus
              have szE20 := E20.size; have szE12 := E12.size; have szE10 := E10.size; have szE9 := E9.size; have szE8 := E8.size; have szE7 := E7.size; have szE6 := E6.size; have szE5 := E5.size; have szE4 := E4.size; have szE3 := E3.size
              have szE2 := E2.size; have szE1 := E1.size; refine W_seq ?_; refine W_seq ?_; refine W_region rfl ?_; refine Wo rfl (opv_move (v := .int _ _) rfl) ?_; refine Wo rfl (opv_fieldAddr Try.underlying25 rfl rfl Try.sizeOf23 rfl) ?_
              refine Wo (v := u2) rfl (opv_load Try.isAgg23 rfl ((hB1.ext (((E2.trans E3).trans E4).trans E20)).cell rfl)) ?_; refine Wo rfl (opv_len Try.underlying23 rfl h2) ?_; refine Wo rfl (opv_lss rfl rfl) ?_; refine Wo_nil ?_
              refine W_cond_dec rfl (fun h6 => ?_) (fun h6 => ?_); refine W_skip ?_; refine W_seq ?_; refine W_block ?_; refine W_held (fun _ => True) mixed rfl (by kernel_rfl) ?_; intro w8 E11 K2 hz2; have hs6 := E11.size
              refine Wh_take 0 rfl (by kernel_rfl) (by kernel_rfl) rfl (fun _ _ => opv_fieldAddr Try.underlying25 rfl rfl Try.sizeOf23 rfl) trivial ?_
              refine Wh_take 3 rfl (by kernel_rfl) (by kernel_rfl) rfl (fun _ _ => opv_move (v := .int _ _) rfl) trivial ?_; refine Wh_take 4 rfl (by kernel_rfl) (by kernel_rfl) rfl (fun _ _ => opv_move (v := .int _ _) rfl) trivial ?_
              refine Wh_take 5 rfl (by kernel_rfl) (by kernel_rfl) rfl (fun _ _ => opv_add rfl rfl (by omega)) trivial ?_; refine Wh_all (rs := [1, 2]) (by kernel_rfl) rfl ?_; refine WhAll_cons rfl ?_ ?_
              refine Wo (v := q) rfl (opv_load Try.isAgg23 rfl ((hB3.ext E11).cell rfl)) ?_; refine Wo_nil ?_; refine ⟨trivial, ?_⟩; refine Wh_all (rs := [2]) (by kernel_rfl) rfl ?_; refine WhAll_cons rfl ?_ ?_
              refine Wo (v := .agg _) rfl (opv_load2 Try.isAgg25 Try.sizeOf25 rfl (hB1.ext ((((E2.trans E3).trans E4).trans E20).trans E11))) ?_; refine Wo_nil ?_; refine ⟨trivial, ?_⟩; refine Wh_all (rs := [6]) (by kernel_rfl) rfl ?_
              refine WhAll_cons rfl ?_ ?_
              refine Wo_call rfl (opc2 (a := .agg _) (b := .int _ _) Try.call57 rfl rfl) (hbk _ _ _ _ ((Mono.mono (((((E1.trans E2).trans E3).trans E4).trans E20).trans E11) h1)) ((Mono.mono (((((E1.trans E2).trans E3).trans E4).trans E20).trans E11) h2)) (by omega)) ?_
              rintro _ w9 ⟨rfl, E13⟩; have hs7 := E13.size; refine Wo_nil ?_; refine ⟨trivial, ?_⟩; refine Wh_all (rs := [7]) (by kernel_rfl) rfl ?_; refine WhAll_cons rfl ?_ ?_
              refine Wo_buildSliceH (ps := [(0, .int _ _)]) (cs := [_]) rfl Try.underlying23 Try.sizeOf3 Try.zeroValue3 rfl rfl rfl rfl ?_; rintro b4 w10 hb4 E14 hB4 hHb4; have hlb4 := hB4.lt; have hs8 := E14.size; refine Wo_nil ?_
              refine ⟨trivial, ?_⟩; refine Wh_all (rs := [8]) (by kernel_rfl) rfl ?_; refine WhAll_cons rfl ?_ ?_
              refine Wo_app1 rfl el23 rfl rfl hB4 (hQ.toB.ext ((E11.trans E13).trans E14)) Owned.int (Nat.le_refl _) (by first | omega | (simp <;> omega)) (by omega) (by omega) (((((((E1.trans E2).trans E3).trans E4).trans E20).trans E11).trans E13).trans E14) (by omega) ?_
              have hT1 := (hQ.toB.ext ((E11.trans E13).trans E14)); rintro v1 w11 hQ E15 M1; have E16 := M1.ext hT1 ((((((E2.trans E3).trans E4).trans E20).trans E11).trans E13).trans E14) (by omega); have szE16 := E16.size
              have E17 := M1.ext hT1 (((((E3.trans E4).trans E20).trans E11).trans E13).trans E14) (by omega); have szE17 := E17.size; have E18 := M1.ext hT1 ((((E4.trans E20).trans E11).trans E13).trans E14) (by omega); have szE18 := E18.size
              have E19 := M1.ext hT1 (((E20.trans E11).trans E13).trans E14) (by omega); have szE19 := E19.size; have hB1 := (hB1.ext ((((((E2.trans E3).trans E4).trans E20).trans E11).trans E13).trans E14)).moves M1 hT1 (by omega)
              have hB2 := (hB2.ext (((((E3.trans E4).trans E20).trans E11).trans E13).trans E14)).moves M1 hT1 (by omega); have hB3 := (hB3.ext ((E11.trans E13).trans E14)).moves M1 hT1 (by omega)
              have hO := (hO.ext ((E11.trans E13).trans E14)).moves M1 hT1 (by omega); have hB4 := hB4.moves M1 hT1 (by omega); have hs9 := E15.size; refine Wo_nil ?_; refine ⟨trivial, ?_⟩
              refine Wh_take 9 rfl (by kernel_rfl) (by kernel_rfl) rfl (fun _ _ => opv_fieldAddr Try.underlying25 rfl rfl Try.sizeOf23 rfl) trivial ?_; refine Wh_all (rs := [10]) (by kernel_rfl) rfl ?_; refine WhAll_cons rfl ?_ ?_
              refine Wo_st (v := v1) rfl Try.sizeOf23 rfl rfl (OwnedB.isC hQ.toB) hB3 (by simp) (by omega) E15 ?_; rintro w12 E21 hB3 K3 hz3; have E22 := E16.wroteAt E15 E21 K3 hz3 (by omega); have szE22 := E22.size
              have E23 := E17.wroteAt E15 E21 K3 hz3 (by omega); have szE23 := E23.size; have E24 := E18.wroteAt E15 E21 K3 hz3 (by omega); have szE24 := E24.size; have E25 := E19.wroteAt E15 E21 K3 hz3 (by omega); have szE25 := E25.size
              simp only [List.set] at hB3; have hQ := hQ.toB.wrote K3 (by omega); have hB1 := hB1.of_heap (K3 _ (by omega)); have hB2 := hB2.of_heap (K3 _ (by omega)); have hO := hO.wrote K3 (by omega); have hB4 := hB4.of_heap (K3 _ (by omega))
              refine Wo_nil ?_; refine ⟨trivial, ?_⟩; refine Wh_done (by kernel_rfl) ?_; refine W_region rfl ?_; refine Wo rfl (opv_move (v := .int _ _) rfl) ?_; refine Wo rfl (opv_add rfl rfl (by omega)) ?_
              refine Wo rfl (opv_assign (v := .int _ _) rfl) ?_; refine Wo_nil ?_; rotate_left; exact WhAll_nil; exact WhAll_nil; exact WhAll_nil; exact WhAll_nil; exact WhAll_nil; refine WhAll_cons rfl ?_ ?_
              refine Wo (v := .agg _) rfl (opv_load2 Try.isAgg25 Try.sizeOf25 rfl (hB1.ext ((((E2.trans E3).trans E4).trans E20).trans E11))) ?_; refine Wo_nil ?_; refine ⟨trivial, ?_⟩; refine Wh_all (rs := [1, 6]) (by kernel_rfl) rfl ?_
              refine WhAll_cons rfl ?_ ?_; refine Wo (v := q) rfl (opv_load Try.isAgg23 rfl ((hB3.ext E11).cell rfl)) ?_; refine Wo_nil ?_; refine ⟨trivial, ?_⟩; refine Wh_all (rs := [6]) (by kernel_rfl) rfl ?_; refine WhAll_cons rfl ?_ ?_
              refine Wo_call rfl (opc2 (a := .agg _) (b := .int _ _) Try.call57 rfl rfl) (hbk _ _ _ _ ((Mono.mono (((((E1.trans E2).trans E3).trans E4).trans E20).trans E11) h1)) ((Mono.mono (((((E1.trans E2).trans E3).trans E4).trans E20).trans E11) h2)) (by omega)) ?_
              rintro _ w9 ⟨rfl, E13⟩; have hs7 := E13.size; refine Wo_nil ?_; refine ⟨trivial, ?_⟩; refine Wh_all (rs := [7]) (by kernel_rfl) rfl ?_; refine WhAll_cons rfl ?_ ?_
              refine Wo_buildSliceH (ps := [(0, .int _ _)]) (cs := [_]) rfl Try.underlying23 Try.sizeOf3 Try.zeroValue3 rfl rfl rfl rfl ?_; rintro b4 w10 hb4 E14 hB4 hHb4; have hlb4 := hB4.lt; have hs8 := E14.size; refine Wo_nil ?_
              refine ⟨trivial, ?_⟩; refine Wh_all (rs := [8]) (by kernel_rfl) rfl ?_; refine WhAll_cons rfl ?_ ?_
              refine Wo_app1 rfl el23 rfl rfl hB4 (hQ.toB.ext ((E11.trans E13).trans E14)) Owned.int (Nat.le_refl _) (by first | omega | (simp <;> omega)) (by omega) (by omega) (((((((E1.trans E2).trans E3).trans E4).trans E20).trans E11).trans E13).trans E14) (by omega) ?_
              have hT1 := (hQ.toB.ext ((E11.trans E13).trans E14)); rintro v1 w11 hQ E15 M1; have E16 := M1.ext hT1 ((((((E2.trans E3).trans E4).trans E20).trans E11).trans E13).trans E14) (by omega); have szE16 := E16.size
              have E17 := M1.ext hT1 (((((E3.trans E4).trans E20).trans E11).trans E13).trans E14) (by omega); have szE17 := E17.size; have E18 := M1.ext hT1 ((((E4.trans E20).trans E11).trans E13).trans E14) (by omega); have szE18 := E18.size
              have E19 := M1.ext hT1 (((E20.trans E11).trans E13).trans E14) (by omega); have szE19 := E19.size; have hB1 := (hB1.ext ((((((E2.trans E3).trans E4).trans E20).trans E11).trans E13).trans E14)).moves M1 hT1 (by omega)
              have hB2 := (hB2.ext (((((E3.trans E4).trans E20).trans E11).trans E13).trans E14)).moves M1 hT1 (by omega); have hB3 := (hB3.ext ((E11.trans E13).trans E14)).moves M1 hT1 (by omega)
              have hO := (hO.ext ((E11.trans E13).trans E14)).moves M1 hT1 (by omega); have hB4 := hB4.moves M1 hT1 (by omega); have hs9 := E15.size; refine Wo_nil ?_; refine ⟨trivial, ?_⟩
              refine Wh_take 9 rfl (by kernel_rfl) (by kernel_rfl) rfl (fun _ _ => opv_fieldAddr Try.underlying25 rfl rfl Try.sizeOf23 rfl) trivial ?_; refine Wh_all (rs := [10]) (by kernel_rfl) rfl ?_; refine WhAll_cons rfl ?_ ?_
              refine Wo_st (v := v1) rfl Try.sizeOf23 rfl rfl (OwnedB.isC hQ.toB) hB3 (by simp) (by omega) E15 ?_; rintro w12 E21 hB3 K3 hz3; have E22 := E16.wroteAt E15 E21 K3 hz3 (by omega); have szE22 := E22.size
              have E23 := E17.wroteAt E15 E21 K3 hz3 (by omega); have szE23 := E23.size; have E24 := E18.wroteAt E15 E21 K3 hz3 (by omega); have szE24 := E24.size; have E25 := E19.wroteAt E15 E21 K3 hz3 (by omega); have szE25 := E25.size
              simp only [List.set] at hB3; have hQ := hQ.toB.wrote K3 (by omega); have hB1 := hB1.of_heap (K3 _ (by omega)); have hB2 := hB2.of_heap (K3 _ (by omega)); have hO := hO.wrote K3 (by omega); have hB4 := hB4.of_heap (K3 _ (by omega))
              refine Wo_nil ?_; refine ⟨trivial, ?_⟩; refine Wh_done (by kernel_rfl) ?_; refine W_region rfl ?_; refine Wo rfl (opv_move (v := .int _ _) rfl) ?_; refine Wo rfl (opv_add rfl rfl (by omega)) ?_
              refine Wo rfl (opv_assign (v := .int _ _) rfl) ?_; refine Wo_nil ?_; rotate_left; exact WhAll_nil; exact WhAll_nil; exact WhAll_nil; exact WhAll_nil; refine WhAll_cons rfl ?_ ?_
              refine Wo_call rfl (opc2 (a := .agg _) (b := .int _ _) Try.call57 rfl rfl) (hbk _ _ _ _ ((Mono.mono (((((E1.trans E2).trans E3).trans E4).trans E20).trans E11) h1)) ((Mono.mono (((((E1.trans E2).trans E3).trans E4).trans E20).trans E11) h2)) (by omega)) ?_
              rintro _ w9 ⟨rfl, E13⟩; have hs7 := E13.size; refine Wo_nil ?_; refine ⟨trivial, ?_⟩; refine Wh_all (rs := [1, 7]) (by kernel_rfl) rfl ?_; refine WhAll_cons rfl ?_ ?_
              refine Wo (v := q) rfl (opv_load Try.isAgg23 rfl ((hB3.ext (E11.trans E13)).cell rfl)) ?_; refine Wo_nil ?_; refine ⟨trivial, ?_⟩; refine Wh_all (rs := [7]) (by kernel_rfl) rfl ?_; refine WhAll_cons rfl ?_ ?_
              refine Wo_buildSliceH (ps := [(0, .int _ _)]) (cs := [_]) rfl Try.underlying23 Try.sizeOf3 Try.zeroValue3 rfl rfl rfl rfl ?_; rintro b4 w10 hb4 E14 hB4 hHb4; have hlb4 := hB4.lt; have hs8 := E14.size; refine Wo_nil ?_
              refine ⟨trivial, ?_⟩; refine Wh_all (rs := [8]) (by kernel_rfl) rfl ?_; refine WhAll_cons rfl ?_ ?_
              refine Wo_app1 rfl el23 rfl rfl hB4 (hQ.toB.ext ((E11.trans E13).trans E14)) Owned.int (Nat.le_refl _) (by first | omega | (simp <;> omega)) (by omega) (by omega) (((((((E1.trans E2).trans E3).trans E4).trans E20).trans E11).trans E13).trans E14) (by omega) ?_
              have hT1 := (hQ.toB.ext ((E11.trans E13).trans E14)); rintro v1 w11 hQ E15 M1; have E16 := M1.ext hT1 ((((((E2.trans E3).trans E4).trans E20).trans E11).trans E13).trans E14) (by omega); have szE16 := E16.size
              have E17 := M1.ext hT1 (((((E3.trans E4).trans E20).trans E11).trans E13).trans E14) (by omega); have szE17 := E17.size; have E18 := M1.ext hT1 ((((E4.trans E20).trans E11).trans E13).trans E14) (by omega); have szE18 := E18.size
              have E19 := M1.ext hT1 (((E20.trans E11).trans E13).trans E14) (by omega); have szE19 := E19.size; have hB1 := (hB1.ext ((((((E2.trans E3).trans E4).trans E20).trans E11).trans E13).trans E14)).moves M1 hT1 (by omega)
              have hB2 := (hB2.ext (((((E3.trans E4).trans E20).trans E11).trans E13).trans E14)).moves M1 hT1 (by omega); have hB3 := (hB3.ext ((E11.trans E13).trans E14)).moves M1 hT1 (by omega)
              have hO := (hO.ext ((E11.trans E13).trans E14)).moves M1 hT1 (by omega); have hB4 := hB4.moves M1 hT1 (by omega); have hs9 := E15.size; refine Wo_nil ?_; refine ⟨trivial, ?_⟩
              refine Wh_take 9 rfl (by kernel_rfl) (by kernel_rfl) rfl (fun _ _ => opv_fieldAddr Try.underlying25 rfl rfl Try.sizeOf23 rfl) trivial ?_; refine Wh_all (rs := [10]) (by kernel_rfl) rfl ?_; refine WhAll_cons rfl ?_ ?_
              refine Wo_st (v := v1) rfl Try.sizeOf23 rfl rfl (OwnedB.isC hQ.toB) hB3 (by simp) (by omega) E15 ?_; rintro w12 E21 hB3 K3 hz3; have E22 := E16.wroteAt E15 E21 K3 hz3 (by omega); have szE22 := E22.size
              have E23 := E17.wroteAt E15 E21 K3 hz3 (by omega); have szE23 := E23.size; have E24 := E18.wroteAt E15 E21 K3 hz3 (by omega); have szE24 := E24.size; have E25 := E19.wroteAt E15 E21 K3 hz3 (by omega); have szE25 := E25.size
              simp only [List.set] at hB3; have hQ := hQ.toB.wrote K3 (by omega); have hB1 := hB1.of_heap (K3 _ (by omega)); have hB2 := hB2.of_heap (K3 _ (by omega)); have hO := hO.wrote K3 (by omega); have hB4 := hB4.of_heap (K3 _ (by omega))
              refine Wo_nil ?_; refine ⟨trivial, ?_⟩; refine Wh_done (by kernel_rfl) ?_; refine W_region rfl ?_; refine Wo rfl (opv_move (v := .int _ _) rfl) ?_; refine Wo rfl (opv_add rfl rfl (by omega)) ?_
              refine Wo rfl (opv_assign (v := .int _ _) rfl) ?_; refine Wo_nil ?_; rotate_left; exact WhAll_nil; exact WhAll_nil; exact WhAll_nil; refine WhAll_cons rfl ?_ ?_
              refine Wo_buildSliceH (ps := [(0, .int _ _)]) (cs := [_]) rfl Try.underlying23 Try.sizeOf3 Try.zeroValue3 rfl rfl rfl rfl ?_; rintro b4 w10 hb4 E14 hB4 hHb4; have hlb4 := hB4.lt; have hs8 := E14.size; refine Wo_nil ?_
              refine ⟨trivial, ?_⟩; refine Wh_all (rs := [1]) (by kernel_rfl) rfl ?_; refine WhAll_cons rfl ?_ ?_; refine Wo (v := q) rfl (opv_load Try.isAgg23 rfl ((hB3.ext ((E11.trans E13).trans E14)).cell rfl)) ?_; refine Wo_nil ?_
              refine ⟨trivial, ?_⟩; refine Wh_all (rs := [8]) (by kernel_rfl) rfl ?_; refine WhAll_cons rfl ?_ ?_
              refine Wo_app1 rfl el23 rfl rfl hB4 (hQ.toB.ext ((E11.trans E13).trans E14)) Owned.int (Nat.le_refl _) (by first | omega | (simp <;> omega)) (by omega) (by omega) (((((((E1.trans E2).trans E3).trans E4).trans E20).trans E11).trans E13).trans E14) (by omega) ?_
              have hT1 := (hQ.toB.ext ((E11.trans E13).trans E14)); rintro v1 w11 hQ E15 M1; have E16 := M1.ext hT1 ((((((E2.trans E3).trans E4).trans E20).trans E11).trans E13).trans E14) (by omega); have szE16 := E16.size
              have E17 := M1.ext hT1 (((((E3.trans E4).trans E20).trans E11).trans E13).trans E14) (by omega); have szE17 := E17.size; have E18 := M1.ext hT1 ((((E4.trans E20).trans E11).trans E13).trans E14) (by omega); have szE18 := E18.size
              have E19 := M1.ext hT1 (((E20.trans E11).trans E13).trans E14) (by omega); have szE19 := E19.size; have hB1 := (hB1.ext ((((((E2.trans E3).trans E4).trans E20).trans E11).trans E13).trans E14)).moves M1 hT1 (by omega)
              have hB2 := (hB2.ext (((((E3.trans E4).trans E20).trans E11).trans E13).trans E14)).moves M1 hT1 (by omega); have hB3 := (hB3.ext ((E11.trans E13).trans E14)).moves M1 hT1 (by omega)
              have hO := (hO.ext ((E11.trans E13).trans E14)).moves M1 hT1 (by omega); have hB4 := hB4.moves M1 hT1 (by omega); have hs9 := E15.size; refine Wo_nil ?_; refine ⟨trivial, ?_⟩
              refine Wh_take 9 rfl (by kernel_rfl) (by kernel_rfl) rfl (fun _ _ => opv_fieldAddr Try.underlying25 rfl rfl Try.sizeOf23 rfl) trivial ?_; refine Wh_all (rs := [10]) (by kernel_rfl) rfl ?_; refine WhAll_cons rfl ?_ ?_
              refine Wo_st (v := v1) rfl Try.sizeOf23 rfl rfl (OwnedB.isC hQ.toB) hB3 (by simp) (by omega) E15 ?_; rintro w12 E21 hB3 K3 hz3; have E22 := E16.wroteAt E15 E21 K3 hz3 (by omega); have szE22 := E22.size
              have E23 := E17.wroteAt E15 E21 K3 hz3 (by omega); have szE23 := E23.size; have E24 := E18.wroteAt E15 E21 K3 hz3 (by omega); have szE24 := E24.size; have E25 := E19.wroteAt E15 E21 K3 hz3 (by omega); have szE25 := E25.size
              simp only [List.set] at hB3; have hQ := hQ.toB.wrote K3 (by omega); have hB1 := hB1.of_heap (K3 _ (by omega)); have hB2 := hB2.of_heap (K3 _ (by omega)); have hO := hO.wrote K3 (by omega); have hB4 := hB4.of_heap (K3 _ (by omega))
              refine Wo_nil ?_; refine ⟨trivial, ?_⟩; refine Wh_done (by kernel_rfl) ?_; refine W_region rfl ?_; refine Wo rfl (opv_move (v := .int _ _) rfl) ?_; refine Wo rfl (opv_add rfl rfl (by omega)) ?_
              refine Wo rfl (opv_assign (v := .int _ _) rfl) ?_; refine Wo_nil ?_; rotate_left; exact WhAll_nil; exact WhAll_nil; exact WhAll_nil; exact WhAll_nil; exact WhAll_nil; exact WhAll_nil; (exfalso; omega)
            all_goals
              refine ⟨(k + 1, v1), by repeat (first | exact trivial | refine And.intro rfl ?_), by repeat (first | with_reducible exact Same.refl | refine Same.upd rfl ?_ | refine Same.upds rfl ?_ | refine Same.mix rfl ?_), ?_, ?_⟩
              · exact ⟨by assumption, by have := M1.1.size; omega, by omega, by assumption, by assumption, by rw [hsn]; exact OwnedB.o (by assumption)⟩
              · simp only; omega
          · obtain rfl : k = B.length := by omega
            focus
              have szE20 := E20.size; have szE12 := E12.size; have szE10 := E10.size; have szE9 := E9.size; have szE8 := E8.size; have szE7 := E7.size; have szE6 := E6.size; have szE5 := E5.size; have szE4 := E4.size; have szE3 := E3.size
              have szE2 := E2.size; have szE1 := E1.size; refine W_seq ?_; refine W_seq ?_; refine W_region rfl ?_; refine Wo rfl (opv_move (v := .int _ _) rfl) ?_; refine Wo rfl (opv_fieldAddr Try.underlying25 rfl rfl Try.sizeOf23 rfl) ?_
              refine Wo (v := u2) rfl (opv_load Try.isAgg23 rfl ((hB1.ext (((E2.trans E3).trans E4).trans E20)).cell rfl)) ?_; refine Wo rfl (opv_len Try.underlying23 rfl h2) ?_; refine Wo rfl (opv_lss rfl rfl) ?_; refine Wo_nil ?_
              refine W_cond_dec rfl (fun h6 => ?_) (fun h6 => ?_); (exfalso; omega); refine W_exit ?_; refine exitX_same ?_; refine W_seq ?_; refine W_region rfl ?_; refine Wo (v := .agg _) rfl (opv_load2 Try.isAgg25 Try.sizeOf25 rfl hB3) ?_
              refine Wo_call rfl (opc1 (a := .agg _) Try.call53 rfl) (hsO _ _ _ ((OwnedB.read hO)) ((Owned.read hQ))) ?_; rintro _ w8 ⟨u1, q1, rfl, E11, hO1, hQ1, hd1⟩; have icu1 := OwnedB.isC (Owned.toB hO1)
              have cpu1 := OwnedB.capOk (Owned.toB hO1); have icq1 := OwnedB.isC (Owned.toB hQ1); have cpq1 := OwnedB.capOk (Owned.toB hQ1); have hs6 := E11.size
              refine Wo_st2 rfl Try.sizeOf25 rfl rfl (by first | rfl | assumption) (by first | rfl | assumption) (hB2.ext (((E3.trans E4).trans E20).trans E11)) (by omega) (((((E1.trans E2).trans E3).trans E4).trans E20).trans E11) ?_
              rintro w9 E13 hB2 K2 hz2; have E14 := ((((E2.trans E3).trans E4).trans E20).trans E11).wroteAt (((((E1.trans E2).trans E3).trans E4).trans E20).trans E11) E13 K2 hz2 (by omega); have szE14 := E14.size
              have hB1 := (hB1.ext ((((E2.trans E3).trans E4).trans E20).trans E11)).of_heap (K2 _ (by omega)); have hB3 := (hB3.ext E11).of_heap (K2 _ (by omega)); have hO := (hO.ext E11).wrote K2 (by omega)
              have hQ := (hQ.toB.ext E11).wrote K2 (by omega); have hO1 := hO1.toB.wrote K2 (by omega); have hQ1 := hQ1.toB.wrote K2 (by omega); refine Wo_nil ?_; refine W_ret ?_
            exact ⟨_, _, _, rfl, by assumption, _, _, rfl, by assumption, hO1.o.mono (by omega), hQ1.o.mono (by omega), hd1⟩
      · have hwl := win_len (f := g) (a := 0) (p := A.length - n)
        focus
          refine W_seq ?_; refine W_region rfl ?_; refine Wo_box rfl rfl rfl ?_; rintro b1 w1 hb1 E1 hB1; have hlb1 := hB1.lt; have hs1 := E1.size; refine Wo_alloc2 rfl flat25 ?_; rintro b2 w2 hb2 E2 hB2; have hlb2 := hB2.lt
          have hs2 := E2.size; refine Wo_nil ?_; refine W_seq ?_; refine W_seq ?_; refine W_region rfl ?_; refine Wo (v := .agg _) rfl (opv_load2 Try.isAgg25 Try.sizeOf25 rfl (hB1.ext E2)) ?_
          refine Wo_call rfl (opc1 (a := .agg _) Try.call16 rfl) (k1 _ _ _ ((Mono.mono (E1.trans E2) h1)) ((Mono.mono (E1.trans E2) h2))) ?_; rintro _ w3 ⟨rfl, E3⟩; have hs3 := E3.size; refine Wo rfl (opv_not rfl) ?_
          refine Wo_split rfl (opv_move (v := .bool _) rfl) (fun h3 => ?_) (fun h3 => ?_); contradiction; refine Wo rfl (opv_move (v := .int _ _) rfl) ?_
          refine Wo_call rfl (opc3 (a := .int _ _) (b := .int _ _) (c := .int _ _) Try.call58 rfl rfl rfl) (l1In_ok _ _ _ _) ?_; rintro _ w4 ⟨rfl, E4⟩; have hs4 := E4.size; refine Wo rfl (opv_not rfl) ?_
          refine Wo rfl (opv_pick_f (v := .bool _) rfl rfl) ?_; refine Wo_nil ?_; refine W_cond_ndec rfl (fun h4 => ?_) (fun h4 => ?_); contradiction; refine W_skip ?_; refine W_seq ?_; refine W_region rfl ?_
          refine Wo rfl (opv_build (ps := []) (cs := [_, _]) flat25 rfl rfl) ?_; refine Wo_alloc2 rfl flat25 ?_; rintro b3 w5 hb3 E5 hB3; have hlb3 := hB3.lt; have hs5 := E5.size
          refine Wo_st2 rfl Try.sizeOf25 rfl rfl (by first | rfl | assumption) (by first | rfl | assumption) hB3 (by omega) ((((E1.trans E2).trans E3).trans E4).trans E5) ?_; rintro w6 E6 hB3 K1 hz1
          have E7 := (((E2.trans E3).trans E4).trans E5).wroteAt ((((E1.trans E2).trans E3).trans E4).trans E5) E6 K1 hz1 (by omega); have szE7 := E7.size
          have E8 := ((E3.trans E4).trans E5).wroteAt ((((E1.trans E2).trans E3).trans E4).trans E5) E6 K1 hz1 (by omega); have szE8 := E8.size
          have E9 := (E4.trans E5).wroteAt ((((E1.trans E2).trans E3).trans E4).trans E5) E6 K1 hz1 (by omega); have szE9 := E9.size; have E10 := E5.wroteAt ((((E1.trans E2).trans E3).trans E4).trans E5) E6 K1 hz1 (by omega)
          have szE10 := E10.size; have hB1 := (hB1.ext (((E2.trans E3).trans E4).trans E5)).of_heap (K1 _ (by omega)); have hB2 := (hB2.ext ((E3.trans E4).trans E5)).of_heap (K1 _ (by omega)); refine Wo_nil ?_; refine W_seq ?_
          refine W_seq ?_; refine W_region rfl ?_; refine Wo rfl (opv_move (v := .int _ _) rfl) ?_; refine Wo rfl (opv_fieldAddr Try.underlying25 rfl rfl Try.sizeOf23 rfl) ?_
          refine Wo (v := u1) rfl (opv_load Try.isAgg23 rfl (hB1.cell rfl)) ?_; refine Wo rfl (opv_len Try.underlying23 rfl h1) ?_; refine Wo rfl (opv_lss rfl rfl) ?_; refine Wo_nil ?_; refine W_cond_dec rfl (fun h5 => ?_) (fun h5 => ?_)
          (exfalso; omega); refine W_skip ?_; refine W_seq ?_; refine W_region rfl ?_; refine Wo rfl (opv_move (v := .int _ _) rfl) ?_; refine Wo rfl (opv_fieldAddr Try.underlying25 rfl rfl Try.sizeOf23 rfl) ?_
          refine Wo (v := u1) rfl (opv_load Try.isAgg23 rfl (hB1.cell rfl)) ?_; refine Wo rfl (opv_len Try.underlying23 rfl h1) ?_; refine Wo rfl (opv_max rfl rfl) ?_; refine Wo rfl (opv_assign (v := .int _ _) rfl) ?_; refine Wo_nil ?_
          refine W_seq ?_; refine W_seq ?_; refine W_region rfl ?_; refine Wo rfl (opv_assign (v := .int _ _) rfl) ?_; refine Wo_nil ?_; refine W_block ?_
        obtain ⟨o, ho⟩ : ∃ o : Value, o = .slice none 0 0 := ⟨_, rfl⟩
        have hO : Owned w6.heap.size XI w6 o (win g 0 (A.length - n)) := by
          rw [ho, show A.length - n = 0 by omega]; simpa [win] using (Owned.nil : Owned w6.heap.size XI w6 (.slice none 0 0) [])
        have hB3' : Blk w6 b3 [o, .slice none 0 0] := by rw [ho]; exact hB3
        clear hB3 hB2 hB1
        have hB3 := hB3'
        clear hB3' ho
        refine W_loop [7, 36, 37, 38, 39, 40, 41, 42, 43, 44, 45, 46, 47, 48, 49, 50, 51, 52] (fun (k, q) => [(7, .int .i64 (k : Nat))]) (fun (k, (q : Value)) w' => Ext w4 w' ∧ w6.heap.size ≤ w'.heap.size ∧ k ≤ B.length ∧ Blk w' b3 [o, q] ∧ OwnedB w6.heap.size w6.heap.size XI w' o (win g 0 (A.length - n)) ∧ Owned w6.heap.size XI w' q (win g (A.length - n) k)) (fun x => B.length - x.1) (0, .slice none 0 0) (by repeat (first | exact trivial | refine And.intro rfl ?_)) ?_ ?_
        · exact ⟨by assumption, Nat.le_refl _, Nat.zero_le _, hB3, hO.toB, by simpa [win] using (Owned.nil : Owned w6.heap.size XI w6 (.slice none 0 0) [])⟩
        clear hB3 hO
        rintro ⟨k, q⟩ ρm w20 ⟨E20, hs20, hk, hB3, hO, hQ⟩
        have hwl2 := win_len (f := g) (a := A.length - n) (p := k)
        by_cases hkB : k < B.length
        · have hsn : win g (A.length - n) (k + 1) = win g (A.length - n) k ++ [g (A.length - n + k)] := win_succ
          have hbk : ∀ (w : World) (u1 u2 : Value) (z : Int), Ints w u1 A → Ints w u2 B → z = ((A.length - n + k + n : Nat) : Int) → Does Try.prog 57 [.agg #[u1, u2], .int .i64 z] w (Ret w (.int .i64 (g (A.length - n + k)))) := fun w u1 u2 z h1 h2 e => by
            subst e
            have := spec_BitAt_ok w u1 u2 A B h1 h2 hA hB ((A.length - n + k + n : Nat) : Int)
            rw [show batV A B ((A.length - n + k + n : Nat) : Int) = g (A.length - n + k) by rw [hg, hf]; exact if_pos ⟨hs, by omega, by omega⟩] at this; exact this
          focus
            have szE20 := E20.size; have szE10 := E10.size; have szE9 := E9.size; have szE8 := E8.size; have szE7 := E7.size; have szE6 := E6.size; have szE5 := E5.size; have szE4 := E4.size; have szE3 := E3.size; have szE2 := E2.size
            have szE1 := E1.size; refine W_seq ?_; refine W_seq ?_; refine W_region rfl ?_; refine Wo rfl (opv_move (v := .int _ _) rfl) ?_; refine Wo rfl (opv_fieldAddr Try.underlying25 rfl rfl Try.sizeOf23 rfl) ?_
            refine Wo (v := u2) rfl (opv_load Try.isAgg23 rfl ((hB1.ext (((E2.trans E3).trans E4).trans E20)).cell rfl)) ?_; refine Wo rfl (opv_len Try.underlying23 rfl h2) ?_; refine Wo rfl (opv_lss rfl rfl) ?_; refine Wo_nil ?_
            refine W_cond_dec rfl (fun h6 => ?_) (fun h6 => ?_); refine W_skip ?_; refine W_seq ?_; refine W_block ?_; refine W_held (fun _ => True) mixed rfl (by kernel_rfl) ?_; intro w7 E11 K2 hz2; have hs6 := E11.size
            refine Wh_take 0 rfl (by kernel_rfl) (by kernel_rfl) rfl (fun _ _ => opv_fieldAddr Try.underlying25 rfl rfl Try.sizeOf23 rfl) trivial ?_
            refine Wh_take 3 rfl (by kernel_rfl) (by kernel_rfl) rfl (fun _ _ => opv_move (v := .int _ _) rfl) trivial ?_; refine Wh_take 4 rfl (by kernel_rfl) (by kernel_rfl) rfl (fun _ _ => opv_move (v := .int _ _) rfl) trivial ?_
            refine Wh_take 5 rfl (by kernel_rfl) (by kernel_rfl) rfl (fun _ _ => opv_add rfl rfl (by omega)) trivial ?_; refine Wh_all (rs := [1, 2]) (by kernel_rfl) rfl ?_; refine WhAll_cons rfl ?_ ?_
            refine Wo (v := q) rfl (opv_load Try.isAgg23 rfl ((hB3.ext E11).cell rfl)) ?_; refine Wo_nil ?_; refine ⟨trivial, ?_⟩; refine Wh_all (rs := [2]) (by kernel_rfl) rfl ?_; refine WhAll_cons rfl ?_ ?_
            refine Wo (v := .agg _) rfl (opv_load2 Try.isAgg25 Try.sizeOf25 rfl (hB1.ext ((((E2.trans E3).trans E4).trans E20).trans E11))) ?_; refine Wo_nil ?_; refine ⟨trivial, ?_⟩; refine Wh_all (rs := [6]) (by kernel_rfl) rfl ?_
            refine WhAll_cons rfl ?_ ?_
            refine Wo_call rfl (opc2 (a := .agg _) (b := .int _ _) Try.call57 rfl rfl) (hbk _ _ _ _ ((Mono.mono (((((E1.trans E2).trans E3).trans E4).trans E20).trans E11) h1)) ((Mono.mono (((((E1.trans E2).trans E3).trans E4).trans E20).trans E11) h2)) (by omega)) ?_
            rintro _ w8 ⟨rfl, E12⟩; have hs7 := E12.size; refine Wo_nil ?_; refine ⟨trivial, ?_⟩; refine Wh_all (rs := [7]) (by kernel_rfl) rfl ?_; refine WhAll_cons rfl ?_ ?_
            refine Wo_buildSliceH (ps := [(0, .int _ _)]) (cs := [_]) rfl Try.underlying23 Try.sizeOf3 Try.zeroValue3 rfl rfl rfl rfl ?_; rintro b4 w9 hb4 E13 hB4 hHb4; have hlb4 := hB4.lt; have hs8 := E13.size; refine Wo_nil ?_
            refine ⟨trivial, ?_⟩; refine Wh_all (rs := [8]) (by kernel_rfl) rfl ?_; refine WhAll_cons rfl ?_ ?_
            refine Wo_app1 rfl el23 rfl rfl hB4 (hQ.toB.ext ((E11.trans E12).trans E13)) Owned.int (Nat.le_refl _) (by first | omega | (simp <;> omega)) (by omega) (by omega) (((((((E1.trans E2).trans E3).trans E4).trans E20).trans E11).trans E12).trans E13) (by omega) ?_
            have hT1 := (hQ.toB.ext ((E11.trans E12).trans E13)); rintro v1 w10 hQ E14 M1; have E15 := M1.ext hT1 ((((((E2.trans E3).trans E4).trans E20).trans E11).trans E12).trans E13) (by omega); have szE15 := E15.size
            have E16 := M1.ext hT1 (((((E3.trans E4).trans E20).trans E11).trans E12).trans E13) (by omega); have szE16 := E16.size; have E17 := M1.ext hT1 ((((E4.trans E20).trans E11).trans E12).trans E13) (by omega); have szE17 := E17.size
            have E18 := M1.ext hT1 (((E20.trans E11).trans E12).trans E13) (by omega); have szE18 := E18.size; have hB1 := (hB1.ext ((((((E2.trans E3).trans E4).trans E20).trans E11).trans E12).trans E13)).moves M1 hT1 (by omega)
            have hB2 := (hB2.ext (((((E3.trans E4).trans E20).trans E11).trans E12).trans E13)).moves M1 hT1 (by omega); have hB3 := (hB3.ext ((E11.trans E12).trans E13)).moves M1 hT1 (by omega)
            have hO := (hO.ext ((E11.trans E12).trans E13)).moves M1 hT1 (by omega); have hB4 := hB4.moves M1 hT1 (by omega); have hs9 := E14.size; refine Wo_nil ?_; refine ⟨trivial, ?_⟩
            refine Wh_take 9 rfl (by kernel_rfl) (by kernel_rfl) rfl (fun _ _ => opv_fieldAddr Try.underlying25 rfl rfl Try.sizeOf23 rfl) trivial ?_; refine Wh_all (rs := [10]) (by kernel_rfl) rfl ?_; refine WhAll_cons rfl ?_ ?_
            refine Wo_st (v := v1) rfl Try.sizeOf23 rfl rfl (OwnedB.isC hQ.toB) hB3 (by simp) (by omega) E14 ?_; rintro w11 E19 hB3 K3 hz3; have E21 := E15.wroteAt E14 E19 K3 hz3 (by omega); have szE21 := E21.size
            have E22 := E16.wroteAt E14 E19 K3 hz3 (by omega); have szE22 := E22.size; have E23 := E17.wroteAt E14 E19 K3 hz3 (by omega); have szE23 := E23.size; have E24 := E18.wroteAt E14 E19 K3 hz3 (by omega); have szE24 := E24.size
            simp only [List.set] at hB3; have hQ := hQ.toB.wrote K3 (by omega); have hB1 := hB1.of_heap (K3 _ (by omega)); have hB2 := hB2.of_heap (K3 _ (by omega)); have hO := hO.wrote K3 (by omega); have hB4 := hB4.of_heap (K3 _ (by omega))
            refine Wo_nil ?_; refine ⟨trivial, ?_⟩; refine Wh_done (by kernel_rfl) ?_; refine W_region rfl ?_; refine Wo rfl (opv_move (v := .int _ _) rfl) ?_; refine Wo rfl (opv_add rfl rfl (by omega)) ?_
            refine Wo rfl (opv_assign (v := .int _ _) rfl) ?_; refine Wo_nil ?_; rotate_left; exact WhAll_nil; exact WhAll_nil; exact WhAll_nil; exact WhAll_nil; exact WhAll_nil; refine WhAll_cons rfl ?_ ?_
            refine Wo (v := .agg _) rfl (opv_load2 Try.isAgg25 Try.sizeOf25 rfl (hB1.ext ((((E2.trans E3).trans E4).trans E20).trans E11))) ?_; refine Wo_nil ?_; refine ⟨trivial, ?_⟩; refine Wh_all (rs := [1, 6]) (by kernel_rfl) rfl ?_
            refine WhAll_cons rfl ?_ ?_; refine Wo (v := q) rfl (opv_load Try.isAgg23 rfl ((hB3.ext E11).cell rfl)) ?_; refine Wo_nil ?_; refine ⟨trivial, ?_⟩; refine Wh_all (rs := [6]) (by kernel_rfl) rfl ?_; refine WhAll_cons rfl ?_ ?_
            refine Wo_call rfl (opc2 (a := .agg _) (b := .int _ _) Try.call57 rfl rfl) (hbk _ _ _ _ ((Mono.mono (((((E1.trans E2).trans E3).trans E4).trans E20).trans E11) h1)) ((Mono.mono (((((E1.trans E2).trans E3).trans E4).trans E20).trans E11) h2)) (by omega)) ?_
            rintro _ w8 ⟨rfl, E12⟩; have hs7 := E12.size; refine Wo_nil ?_; refine ⟨trivial, ?_⟩; refine Wh_all (rs := [7]) (by kernel_rfl) rfl ?_; refine WhAll_cons rfl ?_ ?_
            refine Wo_buildSliceH (ps := [(0, .int _ _)]) (cs := [_]) rfl Try.underlying23 Try.sizeOf3 Try.zeroValue3 rfl rfl rfl rfl ?_; rintro b4 w9 hb4 E13 hB4 hHb4; have hlb4 := hB4.lt; have hs8 := E13.size; refine Wo_nil ?_
            refine ⟨trivial, ?_⟩; refine Wh_all (rs := [8]) (by kernel_rfl) rfl ?_; refine WhAll_cons rfl ?_ ?_
            refine Wo_app1 rfl el23 rfl rfl hB4 (hQ.toB.ext ((E11.trans E12).trans E13)) Owned.int (Nat.le_refl _) (by first | omega | (simp <;> omega)) (by omega) (by omega) (((((((E1.trans E2).trans E3).trans E4).trans E20).trans E11).trans E12).trans E13) (by omega) ?_
            have hT1 := (hQ.toB.ext ((E11.trans E12).trans E13)); rintro v1 w10 hQ E14 M1; have E15 := M1.ext hT1 ((((((E2.trans E3).trans E4).trans E20).trans E11).trans E12).trans E13) (by omega); have szE15 := E15.size
            have E16 := M1.ext hT1 (((((E3.trans E4).trans E20).trans E11).trans E12).trans E13) (by omega); have szE16 := E16.size; have E17 := M1.ext hT1 ((((E4.trans E20).trans E11).trans E12).trans E13) (by omega); have szE17 := E17.size
            have E18 := M1.ext hT1 (((E20.trans E11).trans E12).trans E13) (by omega); have szE18 := E18.size; have hB1 := (hB1.ext ((((((E2.trans E3).trans E4).trans E20).trans E11).trans E12).trans E13)).moves M1 hT1 (by omega)
            have hB2 := (hB2.ext (((((E3.trans E4).trans E20).trans E11).trans E12).trans E13)).moves M1 hT1 (by omega); have hB3 := (hB3.ext ((E11.trans E12).trans E13)).moves M1 hT1 (by omega)
            have hO := (hO.ext ((E11.trans E12).trans E13)).moves M1 hT1 (by omega); have hB4 := hB4.moves M1 hT1 (by omega); have hs9 := E14.size; refine Wo_nil ?_; refine ⟨trivial, ?_⟩
            refine Wh_take 9 rfl (by kernel_rfl) (by kernel_rfl) rfl (fun _ _ => opv_fieldAddr Try.underlying25 rfl rfl Try.sizeOf23 rfl) trivial ?_; refine Wh_all (rs := [10]) (by kernel_rfl) rfl ?_; refine WhAll_cons rfl ?_ ?_
            refine Wo_st (v := v1) rfl Try.sizeOf23 rfl rfl (OwnedB.isC hQ.toB) hB3 (by simp) (by omega) E14 ?_; rintro w11 E19 hB3 K3 hz3; have E21 := E15.wroteAt E14 E19 K3 hz3 (by omega); have szE21 := E21.size
            have E22 := E16.wroteAt E14 E19 K3 hz3 (by omega); have szE22 := E22.size; have E23 := E17.wroteAt E14 E19 K3 hz3 (by omega); have szE23 := E23.size; have E24 := E18.wroteAt E14 E19 K3 hz3 (by omega); have szE24 := E24.size
            simp only [List.set] at hB3; have hQ := hQ.toB.wrote K3 (by omega); have hB1 := hB1.of_heap (K3 _ (by omega)); have hB2 := hB2.of_heap (K3 _ (by omega)); have hO := hO.wrote K3 (by omega); have hB4 := hB4.of_heap (K3 _ (by omega))
            refine Wo_nil ?_; refine ⟨trivial, ?_⟩; refine Wh_done (by kernel_rfl) ?_; refine W_region rfl ?_; refine Wo rfl (opv_move (v := .int _ _) rfl) ?_; refine Wo rfl (opv_add rfl rfl (by omega)) ?_
            refine Wo rfl (opv_assign (v := .int _ _) rfl) ?_; refine Wo_nil ?_; rotate_left; exact WhAll_nil; exact WhAll_nil; exact WhAll_nil; exact WhAll_nil; refine WhAll_cons rfl ?_ ?_
            refine Wo_call rfl (opc2 (a := .agg _) (b := .int _ _) Try.call57 rfl rfl) (hbk _ _ _ _ ((Mono.mono (((((E1.trans E2).trans E3).trans E4).trans E20).trans E11) h1)) ((Mono.mono (((((E1.trans E2).trans E3).trans E4).trans E20).trans E11) h2)) (by omega)) ?_
            rintro _ w8 ⟨rfl, E12⟩; have hs7 := E12.size; refine Wo_nil ?_; refine ⟨trivial, ?_⟩; refine Wh_all (rs := [1, 7]) (by kernel_rfl) rfl ?_; refine WhAll_cons rfl ?_ ?_
            refine Wo (v := q) rfl (opv_load Try.isAgg23 rfl ((hB3.ext (E11.trans E12)).cell rfl)) ?_; refine Wo_nil ?_; refine ⟨trivial, ?_⟩; refine Wh_all (rs := [7]) (by kernel_rfl) rfl ?_; refine WhAll_cons rfl ?_ ?_
            refine Wo_buildSliceH (ps := [(0, .int _ _)]) (cs := [_]) rfl Try.underlying23 Try.sizeOf3 Try.zeroValue3 rfl rfl rfl rfl ?_; rintro b4 w9 hb4 E13 hB4 hHb4; have hlb4 := hB4.lt; have hs8 := E13.size; refine Wo_nil ?_
            refine ⟨trivial, ?_⟩; refine Wh_all (rs := [8]) (by kernel_rfl) rfl ?_; refine WhAll_cons rfl ?_ ?_
            refine Wo_app1 rfl el23 rfl rfl hB4 (hQ.toB.ext ((E11.trans E12).trans E13)) Owned.int (Nat.le_refl _) (by first | omega | (simp <;> omega)) (by omega) (by omega) (((((((E1.trans E2).trans E3).trans E4).trans E20).trans E11).trans E12).trans E13) (by omega) ?_
            have hT1 := (hQ.toB.ext ((E11.trans E12).trans E13)); rintro v1 w10 hQ E14 M1; have E15 := M1.ext hT1 ((((((E2.trans E3).trans E4).trans E20).trans E11).trans E12).trans E13) (by omega); have szE15 := E15.size
            have E16 := M1.ext hT1 (((((E3.trans E4).trans E20).trans E11).trans E12).trans E13) (by omega); have szE16 := E16.size; have E17 := M1.ext hT1 ((((E4.trans E20).trans E11).trans E12).trans E13) (by omega); have szE17 := E17.size
            have E18 := M1.ext hT1 (((E20.trans E11).trans E12).trans E13) (by omega); have szE18 := E18.size; have hB1 := (hB1.ext ((((((E2.trans E3).trans E4).trans E20).trans E11).trans E12).trans E13)).moves M1 hT1 (by omega)
            have hB2 := (hB2.ext (((((E3.trans E4).trans E20).trans E11).trans E12).trans E13)).moves M1 hT1 (by omega); have hB3 := (hB3.ext ((E11.trans E12).trans E13)).moves M1 hT1 (by omega)
            have hO := (hO.ext ((E11.trans E12).trans E13)).moves M1 hT1 (by omega); have hB4 := hB4.moves M1 hT1 (by omega); have hs9 := E14.size; refine Wo_nil ?_; refine ⟨trivial, ?_⟩
            refine Wh_take 9 rfl (by kernel_rfl) (by kernel_rfl) rfl (fun _ _ => opv_fieldAddr Try.underlying25 rfl rfl Try.sizeOf23 rfl) trivial ?_; refine Wh_all (rs := [10]) (by kernel_rfl) rfl ?_; refine WhAll_cons rfl ?_ ?_
            refine Wo_st (v := v1) rfl Try.sizeOf23 rfl rfl (OwnedB.isC hQ.toB) hB3 (by simp) (by omega) E14 ?_; rintro w11 E19 hB3 K3 hz3; have E21 := E15.wroteAt E14 E19 K3 hz3 (by omega); have szE21 := E21.size
            have E22 := E16.wroteAt E14 E19 K3 hz3 (by omega); have szE22 := E22.size; have E23 := E17.wroteAt E14 E19 K3 hz3 (by omega); have szE23 := E23.size; have E24 := E18.wroteAt E14 E19 K3 hz3 (by omega); have szE24 := E24.size
            simp only [List.set] at hB3; have hQ := hQ.toB.wrote K3 (by omega); have hB1 := hB1.of_heap (K3 _ (by omega)); have hB2 := hB2.of_heap (K3 _ (by omega)); have hO := hO.wrote K3 (by omega); have hB4 := hB4.of_heap (K3 _ (by omega))
            refine Wo_nil ?_; refine ⟨trivial, ?_⟩; refine Wh_done (by kernel_rfl) ?_; refine W_region rfl ?_; refine Wo rfl (opv_move (v := .int _ _) rfl) ?_; refine Wo rfl (opv_add rfl rfl (by omega)) ?_
            refine Wo rfl (opv_assign (v := .int _ _) rfl) ?_; refine Wo_nil ?_; rotate_left; exact WhAll_nil; exact WhAll_nil; exact WhAll_nil; refine WhAll_cons rfl ?_ ?_
            refine Wo_buildSliceH (ps := [(0, .int _ _)]) (cs := [_]) rfl Try.underlying23 Try.sizeOf3 Try.zeroValue3 rfl rfl rfl rfl ?_; rintro b4 w9 hb4 E13 hB4 hHb4; have hlb4 := hB4.lt; have hs8 := E13.size; refine Wo_nil ?_
            refine ⟨trivial, ?_⟩; refine Wh_all (rs := [1]) (by kernel_rfl) rfl ?_; refine WhAll_cons rfl ?_ ?_; refine Wo (v := q) rfl (opv_load Try.isAgg23 rfl ((hB3.ext ((E11.trans E12).trans E13)).cell rfl)) ?_; refine Wo_nil ?_
            refine ⟨trivial, ?_⟩; refine Wh_all (rs := [8]) (by kernel_rfl) rfl ?_; refine WhAll_cons rfl ?_ ?_
            refine Wo_app1 rfl el23 rfl rfl hB4 (hQ.toB.ext ((E11.trans E12).trans E13)) Owned.int (Nat.le_refl _) (by first | omega | (simp <;> omega)) (by omega) (by omega) (((((((E1.trans E2).trans E3).trans E4).trans E20).trans E11).trans E12).trans E13) (by omega) ?_
            have hT1 := (hQ.toB.ext ((E11.trans E12).trans E13)); rintro v1 w10 hQ E14 M1; have E15 := M1.ext hT1 ((((((E2.trans E3).trans E4).trans E20).trans E11).trans E12).trans E13) (by omega); have szE15 := E15.size
            have E16 := M1.ext hT1 (((((E3.trans E4).trans E20).trans E11).trans E12).trans E13) (by omega); have szE16 := E16.size; have E17 := M1.ext hT1 ((((E4.trans E20).trans E11).trans E12).trans E13) (by omega); have szE17 := E17.size
            have E18 := M1.ext hT1 (((E20.trans E11).trans E12).trans E13) (by omega); have szE18 := E18.size; have hB1 := (hB1.ext ((((((E2.trans E3).trans E4).trans E20).trans E11).trans E12).trans E13)).moves M1 hT1 (by omega)
            have hB2 := (hB2.ext (((((E3.trans E4).trans E20).trans E11).trans E12).trans E13)).moves M1 hT1 (by omega); have hB3 := (hB3.ext ((E11.trans E12).trans E13)).moves M1 hT1 (by omega)
            have hO := (hO.ext ((E11.trans E12).trans E13)).moves M1 hT1 (by omega); have hB4 := hB4.moves M1 hT1 (by omega); have hs9 := E14.size; refine Wo_nil ?_; refine ⟨trivial, ?_⟩
            refine Wh_take 9 rfl (by kernel_rfl) (by kernel_rfl) rfl (fun _ _ => opv_fieldAddr Try.underlying25 rfl rfl Try.sizeOf23 rfl) trivial ?_; refine Wh_all (rs := [10]) (by kernel_rfl) rfl ?_; refine WhAll_cons rfl ?_ ?_
            refine Wo_st (v := v1) rfl Try.sizeOf23 rfl rfl (OwnedB.isC hQ.toB) hB3 (by simp) (by omega) E14 ?_; rintro w11 E19 hB3 K3 hz3; have E21 := E15.wroteAt E14 E19 K3 hz3 (by omega); have szE21 := E21.size
            have E22 := E16.wroteAt E14 E19 K3 hz3 (by omega); have szE22 := E22.size; have E23 := E17.wroteAt E14 E19 K3 hz3 (by omega); have szE23 := E23.size; have E24 := E18.wroteAt E14 E19 K3 hz3 (by omega); have szE24 := E24.size
            simp only [List.set] at hB3; have hQ := hQ.toB.wrote K3 (by omega); have hB1 := hB1.of_heap (K3 _ (by omega)); have hB2 := hB2.of_heap (K3 _ (by omega)); have hO := hO.wrote K3 (by omega); have hB4 := hB4.of_heap (K3 _ (by omega))
            refine Wo_nil ?_; refine ⟨trivial, ?_⟩; refine Wh_done (by kernel_rfl) ?_; refine W_region rfl ?_; refine Wo rfl (opv_move (v := .int _ _) rfl) ?_; refine Wo rfl (opv_add rfl rfl (by omega)) ?_
            refine Wo rfl (opv_assign (v := .int _ _) rfl) ?_; refine Wo_nil ?_; rotate_left; exact WhAll_nil; exact WhAll_nil; exact WhAll_nil; exact WhAll_nil; exact WhAll_nil; exact WhAll_nil; (exfalso; omega)
          all_goals
            refine ⟨(k + 1, v1), by repeat (first | exact trivial | refine And.intro rfl ?_), by repeat (first | with_reducible exact Same.refl | refine Same.upd rfl ?_ | refine Same.upds rfl ?_ | refine Same.mix rfl ?_), ?_, ?_⟩
            · exact ⟨by assumption, by have := M1.1.size; omega, by omega, by assumption, by assumption, by rw [hsn]; exact OwnedB.o (by assumption)⟩
            · simp only; omega
        · obtain rfl : k = B.length := by omega
          focus
            have szE20 := E20.size; have szE10 := E10.size; have szE9 := E9.size; have szE8 := E8.size; have szE7 := E7.size; have szE6 := E6.size; have szE5 := E5.size; have szE4 := E4.size; have szE3 := E3.size; have szE2 := E2.size
            have szE1 := E1.size; refine W_seq ?_; refine W_seq ?_; refine W_region rfl ?_; refine Wo rfl (opv_move (v := .int _ _) rfl) ?_; refine Wo rfl (opv_fieldAddr Try.underlying25 rfl rfl Try.sizeOf23 rfl) ?_
            refine Wo (v := u2) rfl (opv_load Try.isAgg23 rfl ((hB1.ext (((E2.trans E3).trans E4).trans E20)).cell rfl)) ?_; refine Wo rfl (opv_len Try.underlying23 rfl h2) ?_; refine Wo rfl (opv_lss rfl rfl) ?_; refine Wo_nil ?_
            refine W_cond_dec rfl (fun h6 => ?_) (fun h6 => ?_); (exfalso; omega); refine W_exit ?_; refine exitX_same ?_; refine W_seq ?_; refine W_region rfl ?_; refine Wo (v := .agg _) rfl (opv_load2 Try.isAgg25 Try.sizeOf25 rfl hB3) ?_
            refine Wo_call rfl (opc1 (a := .agg _) Try.call53 rfl) (hsO _ _ _ ((OwnedB.read hO)) ((Owned.read hQ))) ?_; rintro _ w7 ⟨u3, q1, rfl, E11, hO1, hQ1, hd1⟩; have icu3 := OwnedB.isC (Owned.toB hO1)
            have cpu3 := OwnedB.capOk (Owned.toB hO1); have icq1 := OwnedB.isC (Owned.toB hQ1); have cpq1 := OwnedB.capOk (Owned.toB hQ1); have hs6 := E11.size
            refine Wo_st2 rfl Try.sizeOf25 rfl rfl (by first | rfl | assumption) (by first | rfl | assumption) (hB2.ext (((E3.trans E4).trans E20).trans E11)) (by omega) (((((E1.trans E2).trans E3).trans E4).trans E20).trans E11) ?_
            rintro w8 E12 hB2 K2 hz2; have E13 := ((((E2.trans E3).trans E4).trans E20).trans E11).wroteAt (((((E1.trans E2).trans E3).trans E4).trans E20).trans E11) E12 K2 hz2 (by omega); have szE13 := E13.size
            have hB1 := (hB1.ext ((((E2.trans E3).trans E4).trans E20).trans E11)).of_heap (K2 _ (by omega)); have hB3 := (hB3.ext E11).of_heap (K2 _ (by omega)); have hO := (hO.ext E11).wrote K2 (by omega)
            have hQ := (hQ.toB.ext E11).wrote K2 (by omega); have hO1 := hO1.toB.wrote K2 (by omega); have hQ1 := hQ1.toB.wrote K2 (by omega); refine Wo_nil ?_; refine W_ret ?_
          exact ⟨_, _, _, rfl, by assumption, _, _, rfl, by assumption, hO1.o.mono (by omega), hQ1.o.mono (by omega), hd1⟩
    · have e0 : rstV A B z = ([], []) := if_neg (fun h => hz h.2)
      rw [e0]
      clear hok
      refine fn_of_Wc Try.func22 rfl Try.results22 Try.ntmps22 rfl Try.isAgg25 Try.sizeOf25 ?_
      focus
        refine W_seq ?_; refine W_region rfl ?_; refine Wo_box rfl rfl rfl ?_; rintro b1 w1 hb1 E1 hB1; have hlb1 := hB1.lt; have hs1 := E1.size; refine Wo_alloc2 rfl flat25 ?_; rintro b2 w2 hb2 E2 hB2; have hlb2 := hB2.lt
        have hs2 := E2.size; refine Wo_nil ?_; refine W_seq ?_; refine W_seq ?_; refine W_region rfl ?_; refine Wo (v := .agg _) rfl (opv_load2 Try.isAgg25 Try.sizeOf25 rfl (hB1.ext E2)) ?_
        refine Wo_call rfl (opc1 (a := .agg _) Try.call16 rfl) (k1 _ _ _ ((Mono.mono (E1.trans E2) h1)) ((Mono.mono (E1.trans E2) h2))) ?_; rintro _ w3 ⟨rfl, E3⟩; have hs3 := E3.size; refine Wo rfl (opv_not rfl) ?_
        refine Wo_split rfl (opv_move (v := .bool _) rfl) (fun h3 => ?_) (fun h3 => ?_); contradiction; refine Wo rfl (opv_move (v := .int _ _) rfl) ?_
        refine Wo_call rfl (opc3 (a := .int _ _) (b := .int _ _) (c := .int _ _) Try.call58 rfl rfl rfl) (l1In_ok _ _ _ _) ?_; rintro _ w4 ⟨rfl, E4⟩; have hs4 := E4.size; refine Wo rfl (opv_not rfl) ?_
        refine Wo rfl (opv_pick_f (v := .bool _) rfl rfl) ?_; refine Wo_nil ?_; refine W_cond_ndec rfl (fun h4 => ?_) (fun h4 => ?_); refine W_seq ?_; refine W_region rfl ?_
        refine Wo rfl (opv_build (ps := []) (cs := [_, _]) flat25 rfl rfl) ?_
        refine Wo_st2 rfl Try.sizeOf25 rfl rfl (by first | rfl | assumption) (by first | rfl | assumption) (hB2.ext (E3.trans E4)) (by omega) (((E1.trans E2).trans E3).trans E4) ?_; rintro w5 E5 hB2 K1 hz1
        have E6 := ((E2.trans E3).trans E4).wroteAt (((E1.trans E2).trans E3).trans E4) E5 K1 hz1 (by omega); have szE6 := E6.size; have hB1 := (hB1.ext ((E2.trans E3).trans E4)).of_heap (K1 _ (by omega)); refine Wo_nil ?_; refine W_ret ?_
        rotate_left; contradiction
      all_goals exact ⟨_, _, _, rfl, by assumption, _, _, rfl, by assumption, Owned.nil, Owned.nil, .inr rfl⟩
  · have k1 := hok false (decide_eq_false hs)
    have e0 : rstV A B z = ([], []) := if_neg (fun h => hs h.1)
    rw [e0]
    clear hok
    refine fn_of_Wc Try.func22 rfl Try.results22 Try.ntmps22 rfl Try.isAgg25 Try.sizeOf25 ?_
    focus
      refine W_seq ?_; refine W_region rfl ?_; refine Wo_box rfl rfl rfl ?_; rintro b1 w1 hb1 E1 hB1; have hlb1 := hB1.lt; have hs1 := E1.size; refine Wo_alloc2 rfl flat25 ?_; rintro b2 w2 hb2 E2 hB2; have hlb2 := hB2.lt
      have hs2 := E2.size; refine Wo_nil ?_; refine W_seq ?_; refine W_seq ?_; refine W_region rfl ?_; refine Wo (v := .agg _) rfl (opv_load2 Try.isAgg25 Try.sizeOf25 rfl (hB1.ext E2)) ?_
      refine Wo_call rfl (opc1 (a := .agg _) Try.call16 rfl) (k1 _ _ _ ((Mono.mono (E1.trans E2) h1)) ((Mono.mono (E1.trans E2) h2))) ?_; rintro _ w3 ⟨rfl, E3⟩; have hs3 := E3.size; refine Wo rfl (opv_not rfl) ?_
      refine Wo_split rfl (opv_move (v := .bool _) rfl) (fun h3 => ?_) (fun h3 => ?_); refine Wo_skip rfl ?_; refine Wo_skip rfl ?_; refine Wo_skip rfl ?_; refine Wo rfl (opv_pick_t (v := .bool _) rfl rfl) ?_; refine Wo_nil ?_
      refine W_cond_true rfl ?_; refine W_seq ?_; refine W_region rfl ?_; refine Wo rfl (opv_build (ps := []) (cs := [_, _]) flat25 rfl rfl) ?_
      refine Wo_st2 rfl Try.sizeOf25 rfl rfl (by first | rfl | assumption) (by first | rfl | assumption) (hB2.ext E3) (by omega) ((E1.trans E2).trans E3) ?_; rintro w4 E4 hB2 K1 hz1
      have E5 := (E2.trans E3).wroteAt ((E1.trans E2).trans E3) E4 K1 hz1 (by omega); have szE5 := E5.size; have hB1 := (hB1.ext (E2.trans E3)).of_heap (K1 _ (by omega)); refine Wo_nil ?_; refine W_ret ?_; rotate_left; contradiction
    all_goals exact ⟨_, _, _, rfl, by assumption, _, _, rfl, by assumption, Owned.nil, Owned.nil, .inr rfl⟩

end Go.Proofs.Ytlalfmialbolhaa
