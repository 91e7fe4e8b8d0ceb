/- Walks: a bit put ahead of a stream, on both sides; and what the streams' laws call. -/
import Derived.Test.YtlalfmialbolhaaHsWStrT
import Derived.Test.YtlalfmialbolhaaHsStr2
namespace Go.Proofs.Ytlalfmialbolhaa
open Go.Hs
set_option maxRecDepth 10000
set_option maxHeartbeats 4000000
set_option linter.unusedVariables false
set_option linter.unusedSimpArgs false

theorem impl_ShortOf_ok (w : World) (u1 u2 : Value) (A B : List Int) (h1 : Ints w u1 A) (h2 : Ints w u2 B) (hA : A.length ≤ 4000000) (hB : B.length ≤ 4000000) : Does Try.prog 19 [.agg #[u1, u2]] w (RetS2 w 3 (shV A B).1 (shV A B).2) := by
  have hok : ∀ (x : Bool), decide (Stm A B) = x → ∀ (w : World) (u1 u2 : Value), Ints w u1 A → Ints w u2 B → Does Try.prog 54 [.agg #[u1, u2]] w (Ret w (.bool x)) := fun x e w u1 u2 h1 h2 => e ▸ isStream_ok w u1 u2 A B h1 h2 hA hB
  by_cases hs : Stm A B
  · have k1 := hok true (decide_eq_true hs)
    have hsl := hs.2.2
    have k2 : ∀ (w : World) (u1 u2 : Value), Ints w u1 A → Ints w u2 B → Does Try.prog 55 [.agg #[u1, u2]] w (RetS2 w 3 (shL (bat A B)) (shR (bat A B))) := fun w u1 u2 h1 h2 => shortOf_ok w u1 u2 A B h1 h2 (by omega) (by omega) (by omega)
    have e0 : shV A B = (shL (bat A B), shR (bat A B)) := if_pos hs
    rw [e0]
    clear hok
    refine fn_of_Wc Try.func19 rfl Try.results19 Try.ntmps19 rfl Try.isAgg25 Try.sizeOf25 ?_
    focus
      refine W_seq ?_; refine W_region rfl ?_; refine Wo_box rfl rfl rfl ?_; rintro b1 w1 hb1 E1 hB1; have hlb1 := hB1.lt; have hs1 := E1.size; refine Wo_alloc2 rfl flat25 ?_; rintro b2 w2 hb2 E2 hB2; have hlb2 := hB2.lt
      have hs2 := E2.size; refine Wo_nil ?_; refine W_seq ?_; refine W_seq ?_; refine W_region rfl ?_; refine Wo (v := .agg _) rfl (opv_load2 Try.isAgg25 Try.sizeOf25 rfl (hB1.ext E2)) ?_
      refine Wo_call rfl (opc1 (a := .agg _) Try.call54 rfl) (k1 _ _ _ ((Mono.mono (E1.trans E2) h1)) ((Mono.mono (E1.trans E2) h2))) ?_; rintro _ w3 ⟨rfl, E3⟩; have hs3 := E3.size; refine Wo rfl (opv_not rfl) ?_; refine Wo_nil ?_
      refine W_cond rfl (fun h3 => ?_) (fun h3 => ?_); contradiction; refine W_skip ?_; refine W_seq ?_; refine W_region rfl ?_; refine Wo (v := .agg _) rfl (opv_load2 Try.isAgg25 Try.sizeOf25 rfl (hB1.ext (E2.trans E3))) ?_
      refine Wo_call rfl (opc1 (a := .agg _) Try.call55 rfl) (k2 _ _ _ ((Mono.mono ((E1.trans E2).trans E3) h1)) ((Mono.mono ((E1.trans E2).trans E3) h2))) ?_; rintro _ w4 ⟨u3, q1, rfl, E4, hO1, hQ1, hd1⟩
      have icu3 := OwnedB.isC (Owned.toB hO1); have cpu3 := OwnedB.capOk (Owned.toB hO1); have icq1 := OwnedB.isC (Owned.toB hQ1); have cpq1 := OwnedB.capOk (Owned.toB hQ1); have hs4 := E4.size
      refine Wo_st2 rfl Try.sizeOf25 rfl rfl (by first | rfl | assumption) (by first | rfl | assumption) (hB2.ext (E3.trans E4)) (by omega) (((E1.trans E2).trans E3).trans E4) ?_; rintro w5 E5 hB2 K1 hz1
      have E6 := ((E2.trans E3).trans E4).wroteAt (((E1.trans E2).trans E3).trans E4) E5 K1 hz1 (by omega); have szE6 := E6.size; have hB1 := (hB1.ext ((E2.trans E3).trans E4)).of_heap (K1 _ (by omega))
      have hO1 := hO1.toB.wrote K1 (by omega); have hQ1 := hQ1.toB.wrote K1 (by omega); refine Wo_nil ?_; refine W_ret ?_
    all_goals exact ⟨_, _, _, rfl, by assumption, _, _, rfl, by assumption, hO1.o.mono (by omega), hQ1.o.mono (by omega), hd1⟩
  · have k1 := hok false (decide_eq_false hs)
    have e0 : shV A B = ([], []) := if_neg hs
    rw [e0]
    clear hok
    refine fn_of_Wc Try.func19 rfl Try.results19 Try.ntmps19 rfl Try.isAgg25 Try.sizeOf25 ?_
    focus
      refine W_seq ?_; refine W_region rfl ?_; refine Wo_box rfl rfl rfl ?_; rintro b1 w1 hb1 E1 hB1; have hlb1 := hB1.lt; have hs1 := E1.size; refine Wo_alloc2 rfl flat25 ?_; rintro b2 w2 hb2 E2 hB2; have hlb2 := hB2.lt
      have hs2 := E2.size; refine Wo_nil ?_; refine W_seq ?_; refine W_seq ?_; refine W_region rfl ?_; refine Wo (v := .agg _) rfl (opv_load2 Try.isAgg25 Try.sizeOf25 rfl (hB1.ext E2)) ?_
      refine Wo_call rfl (opc1 (a := .agg _) Try.call54 rfl) (k1 _ _ _ ((Mono.mono (E1.trans E2) h1)) ((Mono.mono (E1.trans E2) h2))) ?_; rintro _ w3 ⟨rfl, E3⟩; have hs3 := E3.size; refine Wo rfl (opv_not rfl) ?_; refine Wo_nil ?_
      refine W_cond rfl (fun h3 => ?_) (fun h3 => ?_); refine W_seq ?_; refine W_region rfl ?_; refine Wo rfl (opv_build (ps := []) (cs := [_, _]) flat25 rfl rfl) ?_
      refine Wo_st2 rfl Try.sizeOf25 rfl rfl (by first | rfl | assumption) (by first | rfl | assumption) (hB2.ext E3) (by omega) ((E1.trans E2).trans E3) ?_; rintro w4 E4 hB2 K1 hz1
      have E5 := (E2.trans E3).wroteAt ((E1.trans E2).trans E3) E4 K1 hz1 (by omega); have szE5 := E5.size; have hB1 := (hB1.ext (E2.trans E3)).of_heap (K1 _ (by omega)); refine Wo_nil ?_; refine W_ret ?_; rotate_left; contradiction
    all_goals exact ⟨_, _, _, rfl, by assumption, _, _, rfl, by assumption, Owned.nil, Owned.nil, .inr rfl⟩

theorem sameStream_ok (w : World) (u1 u2 v1 v2 : Value) (A B A' B' : List Int) (h1 : Ints w u1 A) (h2 : Ints w u2 B) (h3 : Ints w v1 A') (h4 : Ints w v2 B') : Does Try.prog 18 [.agg #[u1, u2], .agg #[v1, v2]] w (Ret w (.bool (decide (A = A') && decide (B = B')))) := by
  refine fn_of_W1 Try.func18 rfl Try.results18 Try.ntmps18 rfl ?_
  focus
    refine W_seq ?_; refine W_region rfl ?_; refine Wo_box rfl rfl rfl ?_; rintro b1 w1 hb1 E1 hB1; have hlb1 := hB1.lt; have hs1 := E1.size; refine Wo_box rfl rfl rfl ?_; rintro b2 w2 hb2 E2 hB2; have hlb2 := hB2.lt
    have hs2 := E2.size; refine Wo rfl (opv_assign (v := .bool _) rfl) ?_; refine Wo_nil ?_; refine W_seq ?_; refine W_region rfl ?_; refine Wo rfl (opv_fieldAddr Try.underlying25 rfl rfl Try.sizeOf23 rfl) ?_
    refine Wo (v := u1) rfl (opv_load Try.isAgg23 rfl ((hB1.ext E2).cell rfl)) ?_; refine Wo rfl (opv_fieldAddr Try.underlying25 rfl rfl Try.sizeOf23 rfl) ?_; refine Wo (v := v1) rfl (opv_load Try.isAgg23 rfl (hB2.cell rfl)) ?_
    refine Wo_call rfl (opc2 (a := u1) (b := v1) Try.call60 rfl rfl) (sameInts_ok _ _ _ _ _ ((Mono.mono (E1.trans E2) h1)) ((Mono.mono (E1.trans E2) h3))) ?_; rintro _ w3 ⟨rfl, E3⟩; have hs3 := E3.size
    refine Wo_split_dec rfl (opv_move (v := .bool _) rfl) (fun h5 => ?_) (fun h5 => ?_); refine Wo rfl (opv_fieldAddr Try.underlying25 rfl rfl Try.sizeOf23 rfl) ?_
    refine Wo (v := u2) rfl (opv_load Try.isAgg23 rfl ((hB1.ext (E2.trans E3)).cell rfl)) ?_; refine Wo rfl (opv_fieldAddr Try.underlying25 rfl rfl Try.sizeOf23 rfl) ?_
    refine Wo (v := v2) rfl (opv_load Try.isAgg23 rfl ((hB2.ext E3).cell rfl)) ?_
    refine Wo_call rfl (opc2 (a := u2) (b := v2) Try.call60 rfl rfl) (sameInts_ok _ _ _ _ _ ((Mono.mono ((E1.trans E2).trans E3) h2)) ((Mono.mono ((E1.trans E2).trans E3) h4))) ?_; rintro _ w4 ⟨rfl, E4⟩; have hs4 := E4.size
    refine Wo rfl (opv_pick_t (v := .bool _) rfl rfl) ?_; refine Wo rfl (opv_assign (v := .bool _) rfl) ?_; refine Wo_nil ?_; refine W_ret ?_; refine at_ret (v := .bool _) rfl ?_
    refine ⟨congrArg Value.bool ?_, (((E1.trans E2).trans E3).trans E4)⟩; rotate_left; refine Wo_skip rfl ?_; refine Wo_skip rfl ?_; refine Wo_skip rfl ?_; refine Wo_skip rfl ?_; refine Wo_skip rfl ?_
    refine Wo rfl (opv_pick_f (v := .bool _) rfl rfl) ?_; refine Wo rfl (opv_assign (v := .bool _) rfl) ?_; refine Wo_nil ?_; refine W_ret ?_; refine at_ret (v := .bool _) rfl ?_
    refine ⟨congrArg Value.bool ?_, ((E1.trans E2).trans E3)⟩; rotate_left
  all_goals simp_all
theorem same_str (w : World) (u1 u2 v1 v2 : Value) (A B : List Int) (h1 : Ints w u1 A) (h2 : Ints w u2 B) (h3 : Ints w v1 A) (h4 : Ints w v2 B) : Does Try.prog 18 [.agg #[u1, u2], .agg #[v1, v2]] w (Ret w (.bool true)) := by
  have := sameStream_ok w u1 u2 v1 v2 A B A B h1 h2 h3 h4
  simpa using this

theorem noStream_ok (w : World) (u1 u2 : Value) (A B : List Int) (h1 : Ints w u1 A) (h2 : Ints w u2 B) : Does Try.prog 32 [.agg #[u1, u2]] w (Ret w (.bool (decide (A = []) && decide (B = [])))) := by
  have h0 : Ints w (.slice none 0 0) [] := ⟨_, _, rfl, by simp, .inl rfl⟩
  refine fn_of_W1 Try.func32 rfl Try.results32 Try.ntmps32 rfl ?_
  focus
    refine W_seq ?_; refine W_region rfl ?_; refine Wo_box rfl rfl rfl ?_; rintro b1 w1 hb1 E1 hB1; have hlb1 := hB1.lt; have hs1 := E1.size; refine Wo rfl (opv_assign (v := .bool _) rfl) ?_; refine Wo_nil ?_; refine W_seq ?_
    refine W_region rfl ?_; refine Wo (v := .agg _) rfl (opv_load2 Try.isAgg25 Try.sizeOf25 rfl hB1) ?_; refine Wo rfl (opv_build (ps := []) (cs := [_, _]) flat25 rfl rfl) ?_
    refine Wo_call rfl (opc2 (a := .agg _) (b := .agg _) Try.call18 rfl rfl) (sameStream_ok _ _ _ _ _ _ _ _ _ ((Mono.mono E1 h1)) ((Mono.mono E1 h2)) ((Mono.mono E1 h0)) ((Mono.mono E1 h0))) ?_; rintro _ w2 ⟨rfl, E2⟩
    have hs2 := E2.size; refine Wo rfl (opv_assign (v := .bool _) rfl) ?_; refine Wo_nil ?_; refine W_ret ?_; exact ⟨rfl, (E1.trans E2)⟩

/-- a bit, and a sequence behind it -/
def cns (z : Int) (f : Nat → Int) : Nat → Int := fun k => if k = 0 then z else f (k - 1)
theorem per_cns {z : Int} {f : Nat → Int} {a p : Nat} (h : Per f a p) : Per (cns z f) (a + 1) p := ⟨h.1, fun n hn => by
  have := h.2 (n - 1) (by omega)
  show cns z f (n + p) = cns z f n
  unfold cns
  rw [if_neg (by omega), if_neg (by omega), show n + p - 1 = n - 1 + p by omega, this]⟩
theorem win_cns {z : Int} {f : Nat → Int} {a p : Nat} : win (cns z f) 0 (a + 1) = z :: win f 0 a ∧ win (cns z f) (a + 1) p = win f a p := by
  constructor
  · rw [win_cons]
    congr 1
    unfold win cns
    apply List.map_congr_left
    intro i _
    rw [if_neg (by omega)]
    congr 1; omega
  · unfold win cns
    apply List.map_congr_left
    intro i _
    rw [if_neg (by omega)]
    congr 1; omega
theorem bat_cns {z : Int} {f : Nat → Int} {a p : Nat} (h : Per f a p) : bat (z :: win f 0 a) (win f a p) = cns z f := by
  rw [← (win_cns (z := z) (f := f) (a := a) (p := p)).1, ← (win_cns (z := z) (f := f) (a := a) (p := p)).2]
  exact bat_win (per_cns h)
def paOk (z : Int) (A B : List Int) : Prop := (z = 0 ∨ z = 1) ∧ Stm A B ∧ (shL (bat A B)).length + (shR (bat A B)).length ≠ 12
open Classical in
noncomputable def paV (z : Int) (A B : List Int) : List Int × List Int × Bool := if paOk z A B then (shL (cns z (bat A B)), shR (cns z (bat A B)), true) else ([], [], false)
theorem impl_PutAhead_ok (w : World) (u1 u2 : Value) (z : Int) (A B : List Int) (h1 : Ints w u1 A) (h2 : Ints w u2 B) (hA : A.length ≤ 4000000) (hB : B.length ≤ 4000000) : Does Try.prog 30 [.int .i64 z, .agg #[u1, u2]] w (RetS2b w 3 (paV z A B).1 (paV z A B).2.1 (paV z A B).2.2) := by
  have hok : ∀ (x : Bool), decide (Stm A B) = x → ∀ (w : World) (u1 u2 : Value), Ints w u1 A → Ints w u2 B → Does Try.prog 54 [.agg #[u1, u2]] w (Ret w (.bool x)) := fun x e w u1 u2 h1 h2 => e ▸ isStream_ok w u1 u2 A B h1 h2 hA hB
  by_cases hz : z = 0 ∨ z = 1
  · by_cases hs : Stm A B
    · have k1 := hok true (decide_eq_true hs)
      have hsl := hs.2.2
      have hsh := hs.sh
      have hshort := hs.short
      obtain ⟨f, hf⟩ : ∃ f, f = bat A B := ⟨_, rfl⟩
      have k2 : ∀ (w : World) (u1 u2 : Value), Ints w u1 A → Ints w u2 B → Does Try.prog 55 [.agg #[u1, u2]] w (RetS2 w 3 (shL f) (shR f)) := fun w u1 u2 h1 h2 => hf ▸ shortOf_ok w u1 u2 A B h1 h2 (by omega) (by omega) (by omega)
      have k3 : ∀ (w : World) (u1 u2 : Value), Ints w u1 ([z] ++ shL f) → Ints w u2 (shR f) → Does Try.prog 55 [.agg #[u1, u2]] w (RetS2 w 3 (shL (cns z f)) (shR (cns z f))) := fun w u1 u2 h1 h2 => by
        have hl1 : (shL f).length = shA f := win_len
        have hl2 : (shR f).length = shP f := win_len
        rw [← hf] at hsh hshort
        have := shortOf_ok w u1 u2 _ _ h1 h2 (by simp; omega) (by omega) (by omega)
        rw [show bat ([z] ++ shL f) (shR f) = cns z f from bat_cns hsh.1] at this
        exact this
      have hl1 : (shL f).length = shA f := win_len
      have hl2 : (shR f).length = shP f := win_len
      rw [← hf] at hshort
      by_cases h12 : (shL f).length + (shR f).length = 12
      · have e0 : paV z A B = ([], [], false) := if_neg (fun h => by have h9 := h.2.2; rw [← hf] at h9; exact h9 h12)
        rw [e0]
        clear hok
        refine fn_of_Wct Try.func30 rfl Try.results30 Try.ntmps30 rfl Try.isAgg25 Try.sizeOf25 ?_
        have hc : ((shL f).length : Int) + ((shR f).length : Int) = 12 := by omega
        rcases hz with rfl | rfl
        · focus
            refine W_seq ?_; refine W_region rfl ?_; refine Wo_box rfl rfl rfl ?_; rintro b1 w1 hb1 E1 hB1; have hlb1 := hB1.lt; have hs1 := E1.size; refine Wo_alloc2 rfl flat25 ?_; rintro b2 w2 hb2 E2 hB2; have hlb2 := hB2.lt
            have hs2 := E2.size; refine Wo rfl (opv_assign (v := .bool _) rfl) ?_; refine Wo_nil ?_; refine W_seq ?_; refine W_seq ?_; refine W_region rfl ?_; refine Wo rfl (opv_move (v := .int _ _) rfl) ?_; refine Wo rfl (opv_neq rfl rfl) ?_
            refine Wo_split_ndec rfl (opv_move (v := .bool _) rfl) (fun h3 => ?_) (fun h3 => ?_); contradiction; refine Wo_skip rfl ?_; refine Wo_skip rfl ?_; refine Wo rfl (opv_pick_f (v := .bool _) rfl rfl) ?_
            refine Wo rfl (opv_move (v := .bool _) rfl) ?_; refine Wo (v := .agg _) rfl (opv_load2 Try.isAgg25 Try.sizeOf25 rfl (hB1.ext E2)) ?_
            refine Wo_call rfl (opc1 (a := .agg _) Try.call54 rfl) (k1 _ _ _ ((Mono.mono (E1.trans E2) h1)) ((Mono.mono (E1.trans E2) h2))) ?_; rintro _ w3 ⟨rfl, E3⟩; have hs3 := E3.size; refine Wo rfl (opv_not rfl) ?_
            refine Wo rfl (opv_pick_f (v := .bool _) rfl rfl) ?_; refine Wo_nil ?_; refine W_cond rfl (fun h4 => ?_) (fun h4 => ?_); contradiction; refine W_skip ?_; refine W_seq ?_; refine W_region rfl ?_
            refine Wo (v := .agg _) rfl (opv_load2 Try.isAgg25 Try.sizeOf25 rfl (hB1.ext (E2.trans E3))) ?_
            refine Wo_call rfl (opc1 (a := .agg _) Try.call55 rfl) (k2 _ _ _ ((Mono.mono ((E1.trans E2).trans E3) h1)) ((Mono.mono ((E1.trans E2).trans E3) h2))) ?_; rintro _ w4 ⟨u3, q1, rfl, E4, hO1, hQ1, hd1⟩
            have icu3 := OwnedB.isC (Owned.toB hO1); have cpu3 := OwnedB.capOk (Owned.toB hO1); have icq1 := OwnedB.isC (Owned.toB hQ1); have cpq1 := OwnedB.capOk (Owned.toB hQ1); have hs4 := E4.size; refine Wo_alloc2 rfl flat25 ?_
            rintro b3 w5 hb3 E5 hB3; have hlb3 := hB3.lt; have hs5 := E5.size; refine Wo_st2 rfl Try.sizeOf25 rfl rfl (by first | rfl | assumption) (by first | rfl | assumption) hB3 (by omega) ((((E1.trans E2).trans E3).trans E4).trans E5) ?_
            rintro w6 E6 hB3 K1 hz1; have E7 := (((E2.trans E3).trans E4).trans E5).wroteAt ((((E1.trans E2).trans E3).trans E4).trans E5) E6 K1 hz1 (by omega); have szE7 := E7.size
            have E8 := ((E3.trans E4).trans E5).wroteAt ((((E1.trans E2).trans E3).trans E4).trans E5) E6 K1 hz1 (by omega); have szE8 := E8.size
            have E9 := (E4.trans E5).wroteAt ((((E1.trans E2).trans E3).trans E4).trans E5) E6 K1 hz1 (by omega); have szE9 := E9.size; have E10 := E5.wroteAt ((((E1.trans E2).trans E3).trans E4).trans E5) E6 K1 hz1 (by omega)
            have szE10 := E10.size; have hB1 := (hB1.ext (((E2.trans E3).trans E4).trans E5)).of_heap (K1 _ (by omega)); have hB2 := (hB2.ext ((E3.trans E4).trans E5)).of_heap (K1 _ (by omega)); have hO1 := (hO1.toB.ext E5).wrote K1 (by omega)
            have hQ1 := (hQ1.toB.ext E5).wrote K1 (by omega); refine Wo_nil ?_; refine W_seq ?_; refine W_seq ?_; refine W_region rfl ?_; refine Wo rfl (opv_fieldAddr Try.underlying25 rfl rfl Try.sizeOf23 rfl) ?_
            refine Wo (v := u3) rfl (opv_load Try.isAgg23 rfl (hB3.cell rfl)) ?_; refine Wo rfl (opv_len Try.underlying23 rfl (OwnedB.read hO1)) ?_; refine Wo rfl (opv_fieldAddr Try.underlying25 rfl rfl Try.sizeOf23 rfl) ?_
            refine Wo (v := q1) rfl (opv_load Try.isAgg23 rfl (hB3.cell rfl)) ?_; refine Wo rfl (opv_len Try.underlying23 rfl (OwnedB.read hQ1)) ?_; refine Wo rfl (opv_add rfl rfl (by omega)) ?_; refine Wo rfl (opv_eql rfl rfl) ?_
            refine Wo_nil ?_; refine W_cond_dec rfl (fun h5 => ?_) (fun h5 => ?_); refine W_seq ?_; refine W_region rfl ?_; refine Wo rfl (opv_build (ps := []) (cs := [_, _]) flat25 rfl rfl) ?_
            refine Wo_st2 rfl Try.sizeOf25 rfl rfl (by first | rfl | assumption) (by first | rfl | assumption) hB2 (by omega) E6 ?_; rintro w7 E11 hB2 K2 hz2; have E12 := E7.wroteAt E6 E11 K2 hz2 (by omega); have szE12 := E12.size
            have hB3 := hB3.of_heap (K2 _ (by omega)); have hB1 := hB1.of_heap (K2 _ (by omega)); have hO1 := hO1.wrote K2 (by omega); have hQ1 := hQ1.wrote K2 (by omega); refine Wo rfl (opv_assign (v := .bool _) rfl) ?_; refine Wo_nil ?_
            refine W_ret ?_; rotate_left; contradiction
          all_goals exact ⟨_, _, _, rfl, by assumption, _, _, rfl, by assumption, Owned.nil, Owned.nil, .inr rfl⟩
        · focus
            refine W_seq ?_; refine W_region rfl ?_; refine Wo_box rfl rfl rfl ?_; rintro b1 w1 hb1 E1 hB1; have hlb1 := hB1.lt; have hs1 := E1.size; refine Wo_alloc2 rfl flat25 ?_; rintro b2 w2 hb2 E2 hB2; have hlb2 := hB2.lt
            have hs2 := E2.size; refine Wo rfl (opv_assign (v := .bool _) rfl) ?_; refine Wo_nil ?_; refine W_seq ?_; refine W_seq ?_; refine W_region rfl ?_; refine Wo rfl (opv_move (v := .int _ _) rfl) ?_; refine Wo rfl (opv_neq rfl rfl) ?_
            refine Wo_split_ndec rfl (opv_move (v := .bool _) rfl) (fun h3 => ?_) (fun h3 => ?_); refine Wo rfl (opv_move (v := .int _ _) rfl) ?_; refine Wo rfl (opv_neq rfl rfl) ?_; refine Wo rfl (opv_pick_t (v := .bool _) rfl rfl) ?_
            refine Wo_split_ndec rfl (opv_move (v := .bool _) rfl) (fun h4 => ?_) (fun h4 => ?_); contradiction; refine Wo (v := .agg _) rfl (opv_load2 Try.isAgg25 Try.sizeOf25 rfl (hB1.ext E2)) ?_
            refine Wo_call rfl (opc1 (a := .agg _) Try.call54 rfl) (k1 _ _ _ ((Mono.mono (E1.trans E2) h1)) ((Mono.mono (E1.trans E2) h2))) ?_; rintro _ w3 ⟨rfl, E3⟩; have hs3 := E3.size; refine Wo rfl (opv_not rfl) ?_
            refine Wo rfl (opv_pick_f (v := .bool _) rfl rfl) ?_; refine Wo_nil ?_; refine W_cond rfl (fun h5 => ?_) (fun h5 => ?_); contradiction; refine W_skip ?_; refine W_seq ?_; refine W_region rfl ?_
            refine Wo (v := .agg _) rfl (opv_load2 Try.isAgg25 Try.sizeOf25 rfl (hB1.ext (E2.trans E3))) ?_
            refine Wo_call rfl (opc1 (a := .agg _) Try.call55 rfl) (k2 _ _ _ ((Mono.mono ((E1.trans E2).trans E3) h1)) ((Mono.mono ((E1.trans E2).trans E3) h2))) ?_; rintro _ w4 ⟨u3, q1, rfl, E4, hO1, hQ1, hd1⟩
            have icu3 := OwnedB.isC (Owned.toB hO1); have cpu3 := OwnedB.capOk (Owned.toB hO1); have icq1 := OwnedB.isC (Owned.toB hQ1); have cpq1 := OwnedB.capOk (Owned.toB hQ1); have hs4 := E4.size; refine Wo_alloc2 rfl flat25 ?_
            rintro b3 w5 hb3 E5 hB3; have hlb3 := hB3.lt; have hs5 := E5.size; refine Wo_st2 rfl Try.sizeOf25 rfl rfl (by first | rfl | assumption) (by first | rfl | assumption) hB3 (by omega) ((((E1.trans E2).trans E3).trans E4).trans E5) ?_
            rintro w6 E6 hB3 K1 hz1; have E7 := (((E2.trans E3).trans E4).trans E5).wroteAt ((((E1.trans E2).trans E3).trans E4).trans E5) E6 K1 hz1 (by omega); have szE7 := E7.size
            have E8 := ((E3.trans E4).trans E5).wroteAt ((((E1.trans E2).trans E3).trans E4).trans E5) E6 K1 hz1 (by omega); have szE8 := E8.size
            have E9 := (E4.trans E5).wroteAt ((((E1.trans E2).trans E3).trans E4).trans E5) E6 K1 hz1 (by omega); have szE9 := E9.size; have E10 := E5.wroteAt ((((E1.trans E2).trans E3).trans E4).trans E5) E6 K1 hz1 (by omega)
            have szE10 := E10.size; have hB1 := (hB1.ext (((E2.trans E3).trans E4).trans E5)).of_heap (K1 _ (by omega)); have hB2 := (hB2.ext ((E3.trans E4).trans E5)).of_heap (K1 _ (by omega)); have hO1 := (hO1.toB.ext E5).wrote K1 (by omega)
            have hQ1 := (hQ1.toB.ext E5).wrote K1 (by omega); refine Wo_nil ?_; refine W_seq ?_; refine W_seq ?_; refine W_region rfl ?_; refine Wo rfl (opv_fieldAddr Try.underlying25 rfl rfl Try.sizeOf23 rfl) ?_
            refine Wo (v := u3) rfl (opv_load Try.isAgg23 rfl (hB3.cell rfl)) ?_; refine Wo rfl (opv_len Try.underlying23 rfl (OwnedB.read hO1)) ?_; refine Wo rfl (opv_fieldAddr Try.underlying25 rfl rfl Try.sizeOf23 rfl) ?_
            refine Wo (v := q1) rfl (opv_load Try.isAgg23 rfl (hB3.cell rfl)) ?_; refine Wo rfl (opv_len Try.underlying23 rfl (OwnedB.read hQ1)) ?_; refine Wo rfl (opv_add rfl rfl (by omega)) ?_; refine Wo rfl (opv_eql rfl rfl) ?_
            refine Wo_nil ?_; refine W_cond_dec rfl (fun h6 => ?_) (fun h6 => ?_); refine W_seq ?_; refine W_region rfl ?_; refine Wo rfl (opv_build (ps := []) (cs := [_, _]) flat25 rfl rfl) ?_
            refine Wo_st2 rfl Try.sizeOf25 rfl rfl (by first | rfl | assumption) (by first | rfl | assumption) hB2 (by omega) E6 ?_; rintro w7 E11 hB2 K2 hz2; have E12 := E7.wroteAt E6 E11 K2 hz2 (by omega); have szE12 := E12.size
            have hB3 := hB3.of_heap (K2 _ (by omega)); have hB1 := hB1.of_heap (K2 _ (by omega)); have hO1 := hO1.wrote K2 (by omega); have hQ1 := hQ1.wrote K2 (by omega); refine Wo rfl (opv_assign (v := .bool _) rfl) ?_; refine Wo_nil ?_
            refine W_ret ?_; rotate_left; contradiction; contradiction
          all_goals exact ⟨_, _, _, rfl, by assumption, _, _, rfl, by assumption, Owned.nil, Owned.nil, .inr rfl⟩
      · have e0 : paV z A B = (shL (cns z f), shR (cns z f), true) := by rw [hf]; exact if_pos ⟨hz, hs, by rw [← hf]; exact h12⟩
        rw [e0]
        clear hok
        have litown : True := trivial
        refine fn_of_Wct Try.func30 rfl Try.results30 Try.ntmps30 rfl Try.isAgg25 Try.sizeOf25 ?_
        have hc : ¬ ((shL f).length : Int) + ((shR f).length : Int) = 12 := by omega
        have hone : ([z] : List Int).length = 1 := rfl
        have hne : ¬ (¬ z = 0 ∧ ¬ z = 1) := by omega
        focus
          refine W_seq ?_; refine W_region rfl ?_; refine Wo_box rfl rfl rfl ?_; rintro b1 w1 hb1 E1 hB1; have hlb1 := hB1.lt; have hs1 := E1.size; refine Wo_alloc2 rfl flat25 ?_; rintro b2 w2 hb2 E2 hB2; have hlb2 := hB2.lt
          have hs2 := E2.size; refine Wo rfl (opv_assign (v := .bool _) rfl) ?_; refine Wo_nil ?_; refine W_seq ?_; refine W_seq ?_; refine W_region rfl ?_; refine Wo rfl (opv_move (v := .int _ _) rfl) ?_; refine Wo rfl (opv_neq rfl rfl) ?_
          refine Wo_split_ndec rfl (opv_move (v := .bool _) rfl) (fun h3 => ?_) (fun h3 => ?_); refine Wo rfl (opv_move (v := .int _ _) rfl) ?_; refine Wo rfl (opv_neq rfl rfl) ?_; refine Wo rfl (opv_pick_t (v := .bool _) rfl rfl) ?_
          refine Wo_split_ndec rfl (opv_move (v := .bool _) rfl) (fun h4 => ?_) (fun h4 => ?_); (exfalso; omega); refine Wo (v := .agg _) rfl (opv_load2 Try.isAgg25 Try.sizeOf25 rfl (hB1.ext E2)) ?_
          refine Wo_call rfl (opc1 (a := .agg _) Try.call54 rfl) (k1 _ _ _ ((Mono.mono (E1.trans E2) h1)) ((Mono.mono (E1.trans E2) h2))) ?_; rintro _ w3 ⟨rfl, E3⟩; have hs3 := E3.size; refine Wo rfl (opv_not rfl) ?_
          refine Wo rfl (opv_pick_f (v := .bool _) rfl rfl) ?_; refine Wo_nil ?_; refine W_cond rfl (fun h5 => ?_) (fun h5 => ?_); contradiction; refine W_skip ?_; refine W_seq ?_; refine W_region rfl ?_
          refine Wo (v := .agg _) rfl (opv_load2 Try.isAgg25 Try.sizeOf25 rfl (hB1.ext (E2.trans E3))) ?_
          refine Wo_call rfl (opc1 (a := .agg _) Try.call55 rfl) (k2 _ _ _ ((Mono.mono ((E1.trans E2).trans E3) h1)) ((Mono.mono ((E1.trans E2).trans E3) h2))) ?_; rintro _ w4 ⟨u3, q1, rfl, E4, hO1, hQ1, hd1⟩
          have icu3 := OwnedB.isC (Owned.toB hO1); have cpu3 := OwnedB.capOk (Owned.toB hO1); have icq1 := OwnedB.isC (Owned.toB hQ1); have cpq1 := OwnedB.capOk (Owned.toB hQ1); have hs4 := E4.size; refine Wo_alloc2 rfl flat25 ?_
          rintro b3 w5 hb3 E5 hB3; have hlb3 := hB3.lt; have hs5 := E5.size; refine Wo_st2 rfl Try.sizeOf25 rfl rfl (by first | rfl | assumption) (by first | rfl | assumption) hB3 (by omega) ((((E1.trans E2).trans E3).trans E4).trans E5) ?_
          rintro w6 E6 hB3 K1 hz1; have E7 := (((E2.trans E3).trans E4).trans E5).wroteAt ((((E1.trans E2).trans E3).trans E4).trans E5) E6 K1 hz1 (by omega); have szE7 := E7.size
          have E8 := ((E3.trans E4).trans E5).wroteAt ((((E1.trans E2).trans E3).trans E4).trans E5) E6 K1 hz1 (by omega); have szE8 := E8.size
          have E9 := (E4.trans E5).wroteAt ((((E1.trans E2).trans E3).trans E4).trans E5) E6 K1 hz1 (by omega); have szE9 := E9.size; have E10 := E5.wroteAt ((((E1.trans E2).trans E3).trans E4).trans E5) E6 K1 hz1 (by omega)
          have szE10 := E10.size; have hB1 := (hB1.ext (((E2.trans E3).trans E4).trans E5)).of_heap (K1 _ (by omega)); have hB2 := (hB2.ext ((E3.trans E4).trans E5)).of_heap (K1 _ (by omega)); have hO1 := (hO1.toB.ext E5).wrote K1 (by omega)
          have hQ1 := (hQ1.toB.ext E5).wrote K1 (by omega); refine Wo_nil ?_; refine W_seq ?_; refine W_seq ?_; refine W_region rfl ?_; refine Wo rfl (opv_fieldAddr Try.underlying25 rfl rfl Try.sizeOf23 rfl) ?_
          refine Wo (v := u3) rfl (opv_load Try.isAgg23 rfl (hB3.cell rfl)) ?_; refine Wo rfl (opv_len Try.underlying23 rfl (OwnedB.read hO1)) ?_; refine Wo rfl (opv_fieldAddr Try.underlying25 rfl rfl Try.sizeOf23 rfl) ?_
          refine Wo (v := q1) rfl (opv_load Try.isAgg23 rfl (hB3.cell rfl)) ?_; refine Wo rfl (opv_len Try.underlying23 rfl (OwnedB.read hQ1)) ?_; refine Wo rfl (opv_add rfl rfl (by omega)) ?_; refine Wo rfl (opv_eql rfl rfl) ?_
          refine Wo_nil ?_; refine W_cond_dec rfl (fun h6 => ?_) (fun h6 => ?_); contradiction; refine W_skip ?_; refine W_seq ?_; refine W_held (fun _ => True) mixed rfl (by kernel_rfl) ?_; intro w7 E11 K2 hz2; have hs6 := E11.size
          refine Wh_take 0 rfl (by kernel_rfl) (by kernel_rfl) rfl (fun _ _ => opv_move (v := .int _ _) rfl) trivial ?_
          refine Wh_take 2 rfl (by kernel_rfl) (by kernel_rfl) rfl (fun _ _ => opv_fieldAddr Try.underlying25 rfl rfl Try.sizeOf23 rfl) trivial ?_
          refine Wh_take 5 rfl (by kernel_rfl) (by kernel_rfl) rfl (fun _ _ => opv_fieldAddr Try.underlying25 rfl rfl Try.sizeOf23 rfl) trivial ?_; refine Wh_all (rs := [1, 3, 6]) (by kernel_rfl) rfl ?_; refine WhAll_cons rfl ?_ ?_
          refine Wo_buildSliceH (ps := [(0, .int _ _)]) (cs := [_]) rfl Try.underlying23 Try.sizeOf3 Try.zeroValue3 rfl rfl rfl rfl ?_; rintro b4 w8 hb4 E12 hB4 hHb4; have hlb4 := hB4.lt; have hLb4 := own_lit1 hHb4 hb4; clear hHb4
          have hs7 := E12.size; refine Wo_nil ?_; refine ⟨trivial, ?_⟩; refine Wh_all (rs := [3, 6]) (by kernel_rfl) rfl ?_; refine WhAll_cons rfl ?_ ?_
          refine Wo (v := u3) rfl (opv_load Try.isAgg23 rfl ((hB3.ext (E11.trans E12)).cell rfl)) ?_; refine Wo_nil ?_; refine ⟨trivial, ?_⟩; refine Wh_all (rs := [4, 6]) (by kernel_rfl) rfl ?_; refine WhAll_cons rfl ?_ ?_
          refine Wo_appS rfl el23 rfl rfl (Mono.mono (E11.trans E12) (OwnedB.read hO1)) hLb4.toB (by first | omega | (simp <;> omega)) (by omega) (by omega) ((E6.trans E11).trans E12) (by omega) ?_; have hT1 := hLb4.toB
          rintro v1 w9 hLb4 E13 M1; have E14 := M1.ext hT1 ((E7.trans E11).trans E12) (by omega); have szE14 := E14.size; have E15 := M1.ext hT1 ((E8.trans E11).trans E12) (by omega); have szE15 := E15.size
          have E16 := M1.ext hT1 ((E9.trans E11).trans E12) (by omega); have szE16 := E16.size; have E17 := M1.ext hT1 ((E10.trans E11).trans E12) (by omega); have szE17 := E17.size; have E18 := M1.ext hT1 (E11.trans E12) (by omega)
          have szE18 := E18.size; have E19 := M1.ext hT1 E12 (by omega); have szE19 := E19.size; have hB3 := (hB3.ext (E11.trans E12)).moves M1 hT1 (by omega); have hB1 := (hB1.ext (E11.trans E12)).moves M1 hT1 (by omega)
          have hB2 := (hB2.ext (E11.trans E12)).moves M1 hT1 (by omega); have hO1 := (hO1.ext (E11.trans E12)).moves M1 hT1 (by omega); have hQ1 := (hQ1.ext (E11.trans E12)).moves M1 hT1 (by omega); have hs8 := E13.size
          have icv1 := OwnedB.isC (Owned.toB hLb4); refine Wo_nil ?_; refine ⟨trivial, ?_⟩; refine Wh_all (rs := [6]) (by kernel_rfl) rfl ?_; refine WhAll_cons rfl ?_ ?_; refine Wo (v := q1) rfl (opv_load Try.isAgg23 rfl (hB3.cell rfl)) ?_
          refine Wo_nil ?_; refine ⟨trivial, ?_⟩; refine Wh_take 7 rfl (by kernel_rfl) (by kernel_rfl) rfl (fun _ _ => opv_build2 flat25 rfl (by first | assumption | rfl) (by first | assumption | rfl)) trivial ?_
          refine Wh_all (rs := [8]) (by kernel_rfl) rfl ?_; refine WhAll_cons rfl ?_ ?_; refine Wo_call rfl (opc1 (a := .agg _) Try.call55 rfl) (k3 _ _ _ ((Owned.read hLb4)) ((OwnedB.read hQ1))) ?_
          rintro _ w10 ⟨u4, q2, rfl, E20, hO2, hQ2, hd2⟩; have icu4 := OwnedB.isC (Owned.toB hO2); have cpu4 := OwnedB.capOk (Owned.toB hO2); have icq2 := OwnedB.isC (Owned.toB hQ2); have cpq2 := OwnedB.capOk (Owned.toB hQ2)
          have hs9 := E20.size; refine Wo_nil ?_; refine ⟨trivial, ?_⟩; refine Wh_all (rs := [9]) (by kernel_rfl) rfl ?_; refine WhAll_cons rfl ?_ ?_
          refine Wo_st2 rfl Try.sizeOf25 rfl rfl (by first | rfl | assumption) (by first | rfl | assumption) (hB2.ext E20) (by omega) (E13.trans E20) ?_; rintro w11 E21 hB2 K3 hz3
          have E22 := (E14.trans E20).wroteAt (E13.trans E20) E21 K3 hz3 (by omega); have szE22 := E22.size; have hLb4 := (hLb4.toB.ext E20).wrote K3 (by omega); have hB3 := (hB3.ext E20).of_heap (K3 _ (by omega))
          have hB1 := (hB1.ext E20).of_heap (K3 _ (by omega)); have hO1 := (hO1.ext E20).wrote K3 (by omega); have hQ1 := (hQ1.ext E20).wrote K3 (by omega); have hO2 := hO2.toB.wrote K3 (by omega); have hQ2 := hQ2.toB.wrote K3 (by omega)
          refine Wo_nil ?_; refine ⟨trivial, ?_⟩; refine Wh_take 10 rfl (by kernel_rfl) (by kernel_rfl) rfl (fun _ _ => opv_assign (v := .bool _) rfl) trivial ?_; refine Wh_done (by kernel_rfl) ?_; refine W_ret ?_; rotate_left
          exact WhAll_nil; exact WhAll_nil; exact WhAll_nil; refine WhAll_cons rfl ?_ ?_; refine Wo (v := q1) rfl (opv_load Try.isAgg23 rfl ((hB3.ext (E11.trans E12)).cell rfl)) ?_; refine Wo_nil ?_; refine ⟨trivial, ?_⟩
          refine Wh_all (rs := [4]) (by kernel_rfl) rfl ?_; refine WhAll_cons rfl ?_ ?_
          refine Wo_appS rfl el23 rfl rfl (Mono.mono (E11.trans E12) (OwnedB.read hO1)) hLb4.toB (by first | omega | (simp <;> omega)) (by omega) (by omega) ((E6.trans E11).trans E12) (by omega) ?_; have hT1 := hLb4.toB
          rintro v1 w9 hLb4 E13 M1; have E14 := M1.ext hT1 ((E7.trans E11).trans E12) (by omega); have szE14 := E14.size; have E15 := M1.ext hT1 ((E8.trans E11).trans E12) (by omega); have szE15 := E15.size
          have E16 := M1.ext hT1 ((E9.trans E11).trans E12) (by omega); have szE16 := E16.size; have E17 := M1.ext hT1 ((E10.trans E11).trans E12) (by omega); have szE17 := E17.size; have E18 := M1.ext hT1 (E11.trans E12) (by omega)
          have szE18 := E18.size; have E19 := M1.ext hT1 E12 (by omega); have szE19 := E19.size; have hB3 := (hB3.ext (E11.trans E12)).moves M1 hT1 (by omega); have hB1 := (hB1.ext (E11.trans E12)).moves M1 hT1 (by omega)
          have hB2 := (hB2.ext (E11.trans E12)).moves M1 hT1 (by omega); have hO1 := (hO1.ext (E11.trans E12)).moves M1 hT1 (by omega); have hQ1 := (hQ1.ext (E11.trans E12)).moves M1 hT1 (by omega); have hs8 := E13.size
          have icv1 := OwnedB.isC (Owned.toB hLb4); refine Wo_nil ?_; refine ⟨trivial, ?_⟩
          refine Wh_take 7 rfl (by kernel_rfl) (by kernel_rfl) rfl (fun _ _ => opv_build2 flat25 rfl (by first | assumption | rfl) (by first | assumption | rfl)) trivial ?_; refine Wh_all (rs := [8]) (by kernel_rfl) rfl ?_
          refine WhAll_cons rfl ?_ ?_; refine Wo_call rfl (opc1 (a := .agg _) Try.call55 rfl) (k3 _ _ _ ((Owned.read hLb4)) ((OwnedB.read hQ1))) ?_; rintro _ w10 ⟨u4, q2, rfl, E20, hO2, hQ2, hd2⟩; have icu4 := OwnedB.isC (Owned.toB hO2)
          have cpu4 := OwnedB.capOk (Owned.toB hO2); have icq2 := OwnedB.isC (Owned.toB hQ2); have cpq2 := OwnedB.capOk (Owned.toB hQ2); have hs9 := E20.size; refine Wo_nil ?_; refine ⟨trivial, ?_⟩
          refine Wh_all (rs := [9]) (by kernel_rfl) rfl ?_; refine WhAll_cons rfl ?_ ?_; refine Wo_st2 rfl Try.sizeOf25 rfl rfl (by first | rfl | assumption) (by first | rfl | assumption) (hB2.ext E20) (by omega) (E13.trans E20) ?_
          rintro w11 E21 hB2 K3 hz3; have E22 := (E14.trans E20).wroteAt (E13.trans E20) E21 K3 hz3 (by omega); have szE22 := E22.size; have hLb4 := (hLb4.toB.ext E20).wrote K3 (by omega); have hB3 := (hB3.ext E20).of_heap (K3 _ (by omega))
          have hB1 := (hB1.ext E20).of_heap (K3 _ (by omega)); have hO1 := (hO1.ext E20).wrote K3 (by omega); have hQ1 := (hQ1.ext E20).wrote K3 (by omega); have hO2 := hO2.toB.wrote K3 (by omega); have hQ2 := hQ2.toB.wrote K3 (by omega)
          refine Wo_nil ?_; refine ⟨trivial, ?_⟩; refine Wh_take 10 rfl (by kernel_rfl) (by kernel_rfl) rfl (fun _ _ => opv_assign (v := .bool _) rfl) trivial ?_; refine Wh_done (by kernel_rfl) ?_; refine W_ret ?_; rotate_left
          exact WhAll_nil; exact WhAll_nil; exact WhAll_nil; exact WhAll_nil; refine WhAll_cons rfl ?_ ?_; refine Wo (v := q1) rfl (opv_load Try.isAgg23 rfl ((hB3.ext (E11.trans E12)).cell rfl)) ?_; refine Wo_nil ?_; refine ⟨trivial, ?_⟩
          refine Wh_all (rs := [3]) (by kernel_rfl) rfl ?_; refine WhAll_cons rfl ?_ ?_; refine Wo (v := u3) rfl (opv_load Try.isAgg23 rfl ((hB3.ext (E11.trans E12)).cell rfl)) ?_; refine Wo_nil ?_; refine ⟨trivial, ?_⟩
          refine Wh_all (rs := [4]) (by kernel_rfl) rfl ?_; refine WhAll_cons rfl ?_ ?_
          refine Wo_appS rfl el23 rfl rfl (Mono.mono (E11.trans E12) (OwnedB.read hO1)) hLb4.toB (by first | omega | (simp <;> omega)) (by omega) (by omega) ((E6.trans E11).trans E12) (by omega) ?_; have hT1 := hLb4.toB
          rintro v1 w9 hLb4 E13 M1; have E14 := M1.ext hT1 ((E7.trans E11).trans E12) (by omega); have szE14 := E14.size; have E15 := M1.ext hT1 ((E8.trans E11).trans E12) (by omega); have szE15 := E15.size
          have E16 := M1.ext hT1 ((E9.trans E11).trans E12) (by omega); have szE16 := E16.size; have E17 := M1.ext hT1 ((E10.trans E11).trans E12) (by omega); have szE17 := E17.size; have E18 := M1.ext hT1 (E11.trans E12) (by omega)
          have szE18 := E18.size; have E19 := M1.ext hT1 E12 (by omega); have szE19 := E19.size; have hB3 := (hB3.ext (E11.trans E12)).moves M1 hT1 (by omega); have hB1 := (hB1.ext (E11.trans E12)).moves M1 hT1 (by omega)
          have hB2 := (hB2.ext (E11.trans E12)).moves M1 hT1 (by omega); have hO1 := (hO1.ext (E11.trans E12)).moves M1 hT1 (by omega); have hQ1 := (hQ1.ext (E11.trans E12)).moves M1 hT1 (by omega); have hs8 := E13.size
          have icv1 := OwnedB.isC (Owned.toB hLb4); refine Wo_nil ?_; refine ⟨trivial, ?_⟩
          refine Wh_take 7 rfl (by kernel_rfl) (by kernel_rfl) rfl (fun _ _ => opv_build2 flat25 rfl (by first | assumption | rfl) (by first | assumption | rfl)) trivial ?_; refine Wh_all (rs := [8]) (by kernel_rfl) rfl ?_
          refine WhAll_cons rfl ?_ ?_; refine Wo_call rfl (opc1 (a := .agg _) Try.call55 rfl) (k3 _ _ _ ((Owned.read hLb4)) ((OwnedB.read hQ1))) ?_; rintro _ w10 ⟨u4, q2, rfl, E20, hO2, hQ2, hd2⟩; have icu4 := OwnedB.isC (Owned.toB hO2)
          have cpu4 := OwnedB.capOk (Owned.toB hO2); have icq2 := OwnedB.isC (Owned.toB hQ2); have cpq2 := OwnedB.capOk (Owned.toB hQ2); have hs9 := E20.size; refine Wo_nil ?_; refine ⟨trivial, ?_⟩
          refine Wh_all (rs := [9]) (by kernel_rfl) rfl ?_; refine WhAll_cons rfl ?_ ?_; refine Wo_st2 rfl Try.sizeOf25 rfl rfl (by first | rfl | assumption) (by first | rfl | assumption) (hB2.ext E20) (by omega) (E13.trans E20) ?_
          rintro w11 E21 hB2 K3 hz3; have E22 := (E14.trans E20).wroteAt (E13.trans E20) E21 K3 hz3 (by omega); have szE22 := E22.size; have hLb4 := (hLb4.toB.ext E20).wrote K3 (by omega); have hB3 := (hB3.ext E20).of_heap (K3 _ (by omega))
          have hB1 := (hB1.ext E20).of_heap (K3 _ (by omega)); have hO1 := (hO1.ext E20).wrote K3 (by omega); have hQ1 := (hQ1.ext E20).wrote K3 (by omega); have hO2 := hO2.toB.wrote K3 (by omega); have hQ2 := hQ2.toB.wrote K3 (by omega)
          refine Wo_nil ?_; refine ⟨trivial, ?_⟩; refine Wh_take 10 rfl (by kernel_rfl) (by kernel_rfl) rfl (fun _ _ => opv_assign (v := .bool _) rfl) trivial ?_; refine Wh_done (by kernel_rfl) ?_; refine W_ret ?_; rotate_left
          exact WhAll_nil; exact WhAll_nil; exact WhAll_nil; exact WhAll_nil; exact WhAll_nil; refine WhAll_cons rfl ?_ ?_; refine Wo (v := u3) rfl (opv_load Try.isAgg23 rfl ((hB3.ext E11).cell rfl)) ?_; refine Wo_nil ?_; refine ⟨trivial, ?_⟩
          refine Wh_all (rs := [1, 6]) (by kernel_rfl) rfl ?_; refine WhAll_cons rfl ?_ ?_; refine Wo_buildSliceH (ps := [(0, .int _ _)]) (cs := [_]) rfl Try.underlying23 Try.sizeOf3 Try.zeroValue3 rfl rfl rfl rfl ?_
          rintro b4 w8 hb4 E12 hB4 hHb4; have hlb4 := hB4.lt; have hLb4 := own_lit1 hHb4 hb4; clear hHb4; have hs7 := E12.size; refine Wo_nil ?_; refine ⟨trivial, ?_⟩; refine Wh_all (rs := [4, 6]) (by kernel_rfl) rfl ?_
          refine WhAll_cons rfl ?_ ?_; refine Wo_appS rfl el23 rfl rfl (Mono.mono (E11.trans E12) (OwnedB.read hO1)) hLb4.toB (by first | omega | (simp <;> omega)) (by omega) (by omega) ((E6.trans E11).trans E12) (by omega) ?_
          have hT1 := hLb4.toB; rintro v1 w9 hLb4 E13 M1; have E14 := M1.ext hT1 ((E7.trans E11).trans E12) (by omega); have szE14 := E14.size; have E15 := M1.ext hT1 ((E8.trans E11).trans E12) (by omega); have szE15 := E15.size
          have E16 := M1.ext hT1 ((E9.trans E11).trans E12) (by omega); have szE16 := E16.size; have E17 := M1.ext hT1 ((E10.trans E11).trans E12) (by omega); have szE17 := E17.size; have E18 := M1.ext hT1 (E11.trans E12) (by omega)
          have szE18 := E18.size; have E19 := M1.ext hT1 E12 (by omega); have szE19 := E19.size; have hB3 := (hB3.ext (E11.trans E12)).moves M1 hT1 (by omega); have hB1 := (hB1.ext (E11.trans E12)).moves M1 hT1 (by omega)
          have hB2 := (hB2.ext (E11.trans E12)).moves M1 hT1 (by omega); have hO1 := (hO1.ext (E11.trans E12)).moves M1 hT1 (by omega); have hQ1 := (hQ1.ext (E11.trans E12)).moves M1 hT1 (by omega); have hs8 := E13.size
          have icv1 := OwnedB.isC (Owned.toB hLb4); refine Wo_nil ?_; refine ⟨trivial, ?_⟩; refine Wh_all (rs := [6]) (by kernel_rfl) rfl ?_; refine WhAll_cons rfl ?_ ?_; refine Wo (v := q1) rfl (opv_load Try.isAgg23 rfl (hB3.cell rfl)) ?_
          refine Wo_nil ?_; refine ⟨trivial, ?_⟩; refine Wh_take 7 rfl (by kernel_rfl) (by kernel_rfl) rfl (fun _ _ => opv_build2 flat25 rfl (by first | assumption | rfl) (by first | assumption | rfl)) trivial ?_
          refine Wh_all (rs := [8]) (by kernel_rfl) rfl ?_; refine WhAll_cons rfl ?_ ?_; refine Wo_call rfl (opc1 (a := .agg _) Try.call55 rfl) (k3 _ _ _ ((Owned.read hLb4)) ((OwnedB.read hQ1))) ?_
          rintro _ w10 ⟨u4, q2, rfl, E20, hO2, hQ2, hd2⟩; have icu4 := OwnedB.isC (Owned.toB hO2); have cpu4 := OwnedB.capOk (Owned.toB hO2); have icq2 := OwnedB.isC (Owned.toB hQ2); have cpq2 := OwnedB.capOk (Owned.toB hQ2)
          have hs9 := E20.size; refine Wo_nil ?_; refine ⟨trivial, ?_⟩; refine Wh_all (rs := [9]) (by kernel_rfl) rfl ?_; refine WhAll_cons rfl ?_ ?_
          refine Wo_st2 rfl Try.sizeOf25 rfl rfl (by first | rfl | assumption) (by first | rfl | assumption) (hB2.ext E20) (by omega) (E13.trans E20) ?_; rintro w11 E21 hB2 K3 hz3
          have E22 := (E14.trans E20).wroteAt (E13.trans E20) E21 K3 hz3 (by omega); have szE22 := E22.size; have hLb4 := (hLb4.toB.ext E20).wrote K3 (by omega); have hB3 := (hB3.ext E20).of_heap (K3 _ (by omega))
          have hB1 := (hB1.ext E20).of_heap (K3 _ (by omega)); have hO1 := (hO1.ext E20).wrote K3 (by omega); have hQ1 := (hQ1.ext E20).wrote K3 (by omega); have hO2 := hO2.toB.wrote K3 (by omega); have hQ2 := hQ2.toB.wrote K3 (by omega)
          refine Wo_nil ?_; refine ⟨trivial, ?_⟩; refine Wh_take 10 rfl (by kernel_rfl) (by kernel_rfl) rfl (fun _ _ => opv_assign (v := .bool _) rfl) trivial ?_; refine Wh_done (by kernel_rfl) ?_; refine W_ret ?_; rotate_left
          exact WhAll_nil; exact WhAll_nil; exact WhAll_nil; refine WhAll_cons rfl ?_ ?_; refine Wo (v := q1) rfl (opv_load Try.isAgg23 rfl ((hB3.ext (E11.trans E12)).cell rfl)) ?_; refine Wo_nil ?_; refine ⟨trivial, ?_⟩
          refine Wh_all (rs := [4]) (by kernel_rfl) rfl ?_; refine WhAll_cons rfl ?_ ?_
          refine Wo_appS rfl el23 rfl rfl (Mono.mono (E11.trans E12) (OwnedB.read hO1)) hLb4.toB (by first | omega | (simp <;> omega)) (by omega) (by omega) ((E6.trans E11).trans E12) (by omega) ?_; have hT1 := hLb4.toB
          rintro v1 w9 hLb4 E13 M1; have E14 := M1.ext hT1 ((E7.trans E11).trans E12) (by omega); have szE14 := E14.size; have E15 := M1.ext hT1 ((E8.trans E11).trans E12) (by omega); have szE15 := E15.size
          have E16 := M1.ext hT1 ((E9.trans E11).trans E12) (by omega); have szE16 := E16.size; have E17 := M1.ext hT1 ((E10.trans E11).trans E12) (by omega); have szE17 := E17.size; have E18 := M1.ext hT1 (E11.trans E12) (by omega)
          have szE18 := E18.size; have E19 := M1.ext hT1 E12 (by omega); have szE19 := E19.size; have hB3 := (hB3.ext (E11.trans E12)).moves M1 hT1 (by omega); have hB1 := (hB1.ext (E11.trans E12)).moves M1 hT1 (by omega)
          have hB2 := (hB2.ext (E11.trans E12)).moves M1 hT1 (by omega); have hO1 := (hO1.ext (E11.trans E12)).moves M1 hT1 (by omega); have hQ1 := (hQ1.ext (E11.trans E12)).moves M1 hT1 (by omega); have hs8 := E13.size
          have icv1 := OwnedB.isC (Owned.toB hLb4); refine Wo_nil ?_; refine ⟨trivial, ?_⟩
          refine Wh_take 7 rfl (by kernel_rfl) (by kernel_rfl) rfl (fun _ _ => opv_build2 flat25 rfl (by first | assumption | rfl) (by first | assumption | rfl)) trivial ?_; refine Wh_all (rs := [8]) (by kernel_rfl) rfl ?_
          refine WhAll_cons rfl ?_ ?_; refine Wo_call rfl (opc1 (a := .agg _) Try.call55 rfl) (k3 _ _ _ ((Owned.read hLb4)) ((OwnedB.read hQ1))) ?_; rintro _ w10 ⟨u4, q2, rfl, E20, hO2, hQ2, hd2⟩; have icu4 := OwnedB.isC (Owned.toB hO2)
          have cpu4 := OwnedB.capOk (Owned.toB hO2); have icq2 := OwnedB.isC (Owned.toB hQ2); have cpq2 := OwnedB.capOk (Owned.toB hQ2); have hs9 := E20.size; refine Wo_nil ?_; refine ⟨trivial, ?_⟩
          refine Wh_all (rs := [9]) (by kernel_rfl) rfl ?_; refine WhAll_cons rfl ?_ ?_; refine Wo_st2 rfl Try.sizeOf25 rfl rfl (by first | rfl | assumption) (by first | rfl | assumption) (hB2.ext E20) (by omega) (E13.trans E20) ?_
          rintro w11 E21 hB2 K3 hz3; have E22 := (E14.trans E20).wroteAt (E13.trans E20) E21 K3 hz3 (by omega); have szE22 := E22.size; have hLb4 := (hLb4.toB.ext E20).wrote K3 (by omega); have hB3 := (hB3.ext E20).of_heap (K3 _ (by omega))
          have hB1 := (hB1.ext E20).of_heap (K3 _ (by omega)); have hO1 := (hO1.ext E20).wrote K3 (by omega); have hQ1 := (hQ1.ext E20).wrote K3 (by omega); have hO2 := hO2.toB.wrote K3 (by omega); have hQ2 := hQ2.toB.wrote K3 (by omega)
          refine Wo_nil ?_; refine ⟨trivial, ?_⟩; refine Wh_take 10 rfl (by kernel_rfl) (by kernel_rfl) rfl (fun _ _ => opv_assign (v := .bool _) rfl) trivial ?_; refine Wh_done (by kernel_rfl) ?_; refine W_ret ?_; rotate_left
          exact WhAll_nil; exact WhAll_nil; exact WhAll_nil; exact WhAll_nil; refine WhAll_cons rfl ?_ ?_; refine Wo (v := q1) rfl (opv_load Try.isAgg23 rfl ((hB3.ext E11).cell rfl)) ?_; refine Wo_nil ?_; refine ⟨trivial, ?_⟩
          refine Wh_all (rs := [1]) (by kernel_rfl) rfl ?_; refine WhAll_cons rfl ?_ ?_; refine Wo_buildSliceH (ps := [(0, .int _ _)]) (cs := [_]) rfl Try.underlying23 Try.sizeOf3 Try.zeroValue3 rfl rfl rfl rfl ?_
          rintro b4 w8 hb4 E12 hB4 hHb4; have hlb4 := hB4.lt; have hLb4 := own_lit1 hHb4 hb4; clear hHb4; have hs7 := E12.size; refine Wo_nil ?_; refine ⟨trivial, ?_⟩; refine Wh_all (rs := [4]) (by kernel_rfl) rfl ?_
          refine WhAll_cons rfl ?_ ?_; refine Wo_appS rfl el23 rfl rfl (Mono.mono (E11.trans E12) (OwnedB.read hO1)) hLb4.toB (by first | omega | (simp <;> omega)) (by omega) (by omega) ((E6.trans E11).trans E12) (by omega) ?_
          have hT1 := hLb4.toB; rintro v1 w9 hLb4 E13 M1; have E14 := M1.ext hT1 ((E7.trans E11).trans E12) (by omega); have szE14 := E14.size; have E15 := M1.ext hT1 ((E8.trans E11).trans E12) (by omega); have szE15 := E15.size
          have E16 := M1.ext hT1 ((E9.trans E11).trans E12) (by omega); have szE16 := E16.size; have E17 := M1.ext hT1 ((E10.trans E11).trans E12) (by omega); have szE17 := E17.size; have E18 := M1.ext hT1 (E11.trans E12) (by omega)
          have szE18 := E18.size; have E19 := M1.ext hT1 E12 (by omega); have szE19 := E19.size; have hB3 := (hB3.ext (E11.trans E12)).moves M1 hT1 (by omega); have hB1 := (hB1.ext (E11.trans E12)).moves M1 hT1 (by omega)
          have hB2 := (hB2.ext (E11.trans E12)).moves M1 hT1 (by omega); have hO1 := (hO1.ext (E11.trans E12)).moves M1 hT1 (by omega); have hQ1 := (hQ1.ext (E11.trans E12)).moves M1 hT1 (by omega); have hs8 := E13.size
          have icv1 := OwnedB.isC (Owned.toB hLb4); refine Wo_nil ?_; refine ⟨trivial, ?_⟩
          refine Wh_take 7 rfl (by kernel_rfl) (by kernel_rfl) rfl (fun _ _ => opv_build2 flat25 rfl (by first | assumption | rfl) (by first | assumption | rfl)) trivial ?_; refine Wh_all (rs := [8]) (by kernel_rfl) rfl ?_
          refine WhAll_cons rfl ?_ ?_; refine Wo_call rfl (opc1 (a := .agg _) Try.call55 rfl) (k3 _ _ _ ((Owned.read hLb4)) ((OwnedB.read hQ1))) ?_; rintro _ w10 ⟨u4, q2, rfl, E20, hO2, hQ2, hd2⟩; have icu4 := OwnedB.isC (Owned.toB hO2)
          have cpu4 := OwnedB.capOk (Owned.toB hO2); have icq2 := OwnedB.isC (Owned.toB hQ2); have cpq2 := OwnedB.capOk (Owned.toB hQ2); have hs9 := E20.size; refine Wo_nil ?_; refine ⟨trivial, ?_⟩
          refine Wh_all (rs := [9]) (by kernel_rfl) rfl ?_; refine WhAll_cons rfl ?_ ?_; refine Wo_st2 rfl Try.sizeOf25 rfl rfl (by first | rfl | assumption) (by first | rfl | assumption) (hB2.ext E20) (by omega) (E13.trans E20) ?_
          rintro w11 E21 hB2 K3 hz3; have E22 := (E14.trans E20).wroteAt (E13.trans E20) E21 K3 hz3 (by omega); have szE22 := E22.size; have hLb4 := (hLb4.toB.ext E20).wrote K3 (by omega); have hB3 := (hB3.ext E20).of_heap (K3 _ (by omega))
          have hB1 := (hB1.ext E20).of_heap (K3 _ (by omega)); have hO1 := (hO1.ext E20).wrote K3 (by omega); have hQ1 := (hQ1.ext E20).wrote K3 (by omega); have hO2 := hO2.toB.wrote K3 (by omega); have hQ2 := hQ2.toB.wrote K3 (by omega)
          refine Wo_nil ?_; refine ⟨trivial, ?_⟩; refine Wh_take 10 rfl (by kernel_rfl) (by kernel_rfl) rfl (fun _ _ => opv_assign (v := .bool _) rfl) trivial ?_; refine Wh_done (by kernel_rfl) ?_; refine W_ret ?_; rotate_left
          exact WhAll_nil; exact WhAll_nil; exact WhAll_nil; exact WhAll_nil; exact WhAll_nil; refine WhAll_cons rfl ?_ ?_; refine Wo (v := q1) rfl (opv_load Try.isAgg23 rfl ((hB3.ext E11).cell rfl)) ?_; refine Wo_nil ?_; refine ⟨trivial, ?_⟩
          refine Wh_all (rs := [1, 3]) (by kernel_rfl) rfl ?_; refine WhAll_cons rfl ?_ ?_; refine Wo_buildSliceH (ps := [(0, .int _ _)]) (cs := [_]) rfl Try.underlying23 Try.sizeOf3 Try.zeroValue3 rfl rfl rfl rfl ?_
          rintro b4 w8 hb4 E12 hB4 hHb4; have hlb4 := hB4.lt; have hLb4 := own_lit1 hHb4 hb4; clear hHb4; have hs7 := E12.size; refine Wo_nil ?_; refine ⟨trivial, ?_⟩; refine Wh_all (rs := [3]) (by kernel_rfl) rfl ?_
          refine WhAll_cons rfl ?_ ?_; refine Wo (v := u3) rfl (opv_load Try.isAgg23 rfl ((hB3.ext (E11.trans E12)).cell rfl)) ?_; refine Wo_nil ?_; refine ⟨trivial, ?_⟩; refine Wh_all (rs := [4]) (by kernel_rfl) rfl ?_
          refine WhAll_cons rfl ?_ ?_; refine Wo_appS rfl el23 rfl rfl (Mono.mono (E11.trans E12) (OwnedB.read hO1)) hLb4.toB (by first | omega | (simp <;> omega)) (by omega) (by omega) ((E6.trans E11).trans E12) (by omega) ?_
          have hT1 := hLb4.toB; rintro v1 w9 hLb4 E13 M1; have E14 := M1.ext hT1 ((E7.trans E11).trans E12) (by omega); have szE14 := E14.size; have E15 := M1.ext hT1 ((E8.trans E11).trans E12) (by omega); have szE15 := E15.size
          have E16 := M1.ext hT1 ((E9.trans E11).trans E12) (by omega); have szE16 := E16.size; have E17 := M1.ext hT1 ((E10.trans E11).trans E12) (by omega); have szE17 := E17.size; have E18 := M1.ext hT1 (E11.trans E12) (by omega)
          have szE18 := E18.size; have E19 := M1.ext hT1 E12 (by omega); have szE19 := E19.size; have hB3 := (hB3.ext (E11.trans E12)).moves M1 hT1 (by omega); have hB1 := (hB1.ext (E11.trans E12)).moves M1 hT1 (by omega)
          have hB2 := (hB2.ext (E11.trans E12)).moves M1 hT1 (by omega); have hO1 := (hO1.ext (E11.trans E12)).moves M1 hT1 (by omega); have hQ1 := (hQ1.ext (E11.trans E12)).moves M1 hT1 (by omega); have hs8 := E13.size
          have icv1 := OwnedB.isC (Owned.toB hLb4); refine Wo_nil ?_; refine ⟨trivial, ?_⟩
          refine Wh_take 7 rfl (by kernel_rfl) (by kernel_rfl) rfl (fun _ _ => opv_build2 flat25 rfl (by first | assumption | rfl) (by first | assumption | rfl)) trivial ?_; refine Wh_all (rs := [8]) (by kernel_rfl) rfl ?_
          refine WhAll_cons rfl ?_ ?_; refine Wo_call rfl (opc1 (a := .agg _) Try.call55 rfl) (k3 _ _ _ ((Owned.read hLb4)) ((OwnedB.read hQ1))) ?_; rintro _ w10 ⟨u4, q2, rfl, E20, hO2, hQ2, hd2⟩; have icu4 := OwnedB.isC (Owned.toB hO2)
          have cpu4 := OwnedB.capOk (Owned.toB hO2); have icq2 := OwnedB.isC (Owned.toB hQ2); have cpq2 := OwnedB.capOk (Owned.toB hQ2); have hs9 := E20.size; refine Wo_nil ?_; refine ⟨trivial, ?_⟩
          refine Wh_all (rs := [9]) (by kernel_rfl) rfl ?_; refine WhAll_cons rfl ?_ ?_; refine Wo_st2 rfl Try.sizeOf25 rfl rfl (by first | rfl | assumption) (by first | rfl | assumption) (hB2.ext E20) (by omega) (E13.trans E20) ?_
          rintro w11 E21 hB2 K3 hz3; have E22 := (E14.trans E20).wroteAt (E13.trans E20) E21 K3 hz3 (by omega); have szE22 := E22.size; have hLb4 := (hLb4.toB.ext E20).wrote K3 (by omega); have hB3 := (hB3.ext E20).of_heap (K3 _ (by omega))
          have hB1 := (hB1.ext E20).of_heap (K3 _ (by omega)); have hO1 := (hO1.ext E20).wrote K3 (by omega); have hQ1 := (hQ1.ext E20).wrote K3 (by omega); have hO2 := hO2.toB.wrote K3 (by omega); have hQ2 := hQ2.toB.wrote K3 (by omega)
          refine Wo_nil ?_; refine ⟨trivial, ?_⟩; refine Wh_take 10 rfl (by kernel_rfl) (by kernel_rfl) rfl (fun _ _ => opv_assign (v := .bool _) rfl) trivial ?_; refine Wh_done (by kernel_rfl) ?_; refine W_ret ?_; rotate_left
          exact WhAll_nil; exact WhAll_nil; exact WhAll_nil; exact WhAll_nil; refine WhAll_cons rfl ?_ ?_; refine Wo (v := u3) rfl (opv_load Try.isAgg23 rfl ((hB3.ext E11).cell rfl)) ?_; refine Wo_nil ?_; refine ⟨trivial, ?_⟩
          refine Wh_all (rs := [1]) (by kernel_rfl) rfl ?_; refine WhAll_cons rfl ?_ ?_; refine Wo_buildSliceH (ps := [(0, .int _ _)]) (cs := [_]) rfl Try.underlying23 Try.sizeOf3 Try.zeroValue3 rfl rfl rfl rfl ?_
          rintro b4 w8 hb4 E12 hB4 hHb4; have hlb4 := hB4.lt; have hLb4 := own_lit1 hHb4 hb4; clear hHb4; have hs7 := E12.size; refine Wo_nil ?_; refine ⟨trivial, ?_⟩; refine Wh_all (rs := [4]) (by kernel_rfl) rfl ?_
          refine WhAll_cons rfl ?_ ?_; refine Wo_appS rfl el23 rfl rfl (Mono.mono (E11.trans E12) (OwnedB.read hO1)) hLb4.toB (by first | omega | (simp <;> omega)) (by omega) (by omega) ((E6.trans E11).trans E12) (by omega) ?_
          have hT1 := hLb4.toB; rintro v1 w9 hLb4 E13 M1; have E14 := M1.ext hT1 ((E7.trans E11).trans E12) (by omega); have szE14 := E14.size; have E15 := M1.ext hT1 ((E8.trans E11).trans E12) (by omega); have szE15 := E15.size
          have E16 := M1.ext hT1 ((E9.trans E11).trans E12) (by omega); have szE16 := E16.size; have E17 := M1.ext hT1 ((E10.trans E11).trans E12) (by omega); have szE17 := E17.size; have E18 := M1.ext hT1 (E11.trans E12) (by omega)
          have szE18 := E18.size; have E19 := M1.ext hT1 E12 (by omega); have szE19 := E19.size; have hB3 := (hB3.ext (E11.trans E12)).moves M1 hT1 (by omega); have hB1 := (hB1.ext (E11.trans E12)).moves M1 hT1 (by omega)
          have hB2 := (hB2.ext (E11.trans E12)).moves M1 hT1 (by omega); have hO1 := (hO1.ext (E11.trans E12)).moves M1 hT1 (by omega); have hQ1 := (hQ1.ext (E11.trans E12)).moves M1 hT1 (by omega); have hs8 := E13.size
          have icv1 := OwnedB.isC (Owned.toB hLb4); refine Wo_nil ?_; refine ⟨trivial, ?_⟩
          refine Wh_take 7 rfl (by kernel_rfl) (by kernel_rfl) rfl (fun _ _ => opv_build2 flat25 rfl (by first | assumption | rfl) (by first | assumption | rfl)) trivial ?_; refine Wh_all (rs := [8]) (by kernel_rfl) rfl ?_
          refine WhAll_cons rfl ?_ ?_; refine Wo_call rfl (opc1 (a := .agg _) Try.call55 rfl) (k3 _ _ _ ((Owned.read hLb4)) ((OwnedB.read hQ1))) ?_; rintro _ w10 ⟨u4, q2, rfl, E20, hO2, hQ2, hd2⟩; have icu4 := OwnedB.isC (Owned.toB hO2)
          have cpu4 := OwnedB.capOk (Owned.toB hO2); have icq2 := OwnedB.isC (Owned.toB hQ2); have cpq2 := OwnedB.capOk (Owned.toB hQ2); have hs9 := E20.size; refine Wo_nil ?_; refine ⟨trivial, ?_⟩
          refine Wh_all (rs := [9]) (by kernel_rfl) rfl ?_; refine WhAll_cons rfl ?_ ?_; refine Wo_st2 rfl Try.sizeOf25 rfl rfl (by first | rfl | assumption) (by first | rfl | assumption) (hB2.ext E20) (by omega) (E13.trans E20) ?_
          rintro w11 E21 hB2 K3 hz3; have E22 := (E14.trans E20).wroteAt (E13.trans E20) E21 K3 hz3 (by omega); have szE22 := E22.size; have hLb4 := (hLb4.toB.ext E20).wrote K3 (by omega); have hB3 := (hB3.ext E20).of_heap (K3 _ (by omega))
          have hB1 := (hB1.ext E20).of_heap (K3 _ (by omega)); have hO1 := (hO1.ext E20).wrote K3 (by omega); have hQ1 := (hQ1.ext E20).wrote K3 (by omega); have hO2 := hO2.toB.wrote K3 (by omega); have hQ2 := hQ2.toB.wrote K3 (by omega)
          refine Wo_nil ?_; refine ⟨trivial, ?_⟩; refine Wh_take 10 rfl (by kernel_rfl) (by kernel_rfl) rfl (fun _ _ => opv_assign (v := .bool _) rfl) trivial ?_; refine Wh_done (by kernel_rfl) ?_; refine W_ret ?_; rotate_left
          exact WhAll_nil; exact WhAll_nil; exact WhAll_nil; exact WhAll_nil; exact WhAll_nil; exact WhAll_nil; refine Wo_skip rfl ?_; refine Wo_skip rfl ?_; refine Wo rfl (opv_pick_f (v := .bool _) rfl rfl) ?_
          refine Wo rfl (opv_move (v := .bool _) rfl) ?_; refine Wo (v := .agg _) rfl (opv_load2 Try.isAgg25 Try.sizeOf25 rfl (hB1.ext E2)) ?_
          refine Wo_call rfl (opc1 (a := .agg _) Try.call54 rfl) (k1 _ _ _ ((Mono.mono (E1.trans E2) h1)) ((Mono.mono (E1.trans E2) h2))) ?_; rintro _ w3 ⟨rfl, E3⟩; have hs3 := E3.size; refine Wo rfl (opv_not rfl) ?_
          refine Wo rfl (opv_pick_f (v := .bool _) rfl rfl) ?_; refine Wo_nil ?_; refine W_cond rfl (fun h4 => ?_) (fun h4 => ?_); contradiction; refine W_skip ?_; refine W_seq ?_; refine W_region rfl ?_
          refine Wo (v := .agg _) rfl (opv_load2 Try.isAgg25 Try.sizeOf25 rfl (hB1.ext (E2.trans E3))) ?_
          refine Wo_call rfl (opc1 (a := .agg _) Try.call55 rfl) (k2 _ _ _ ((Mono.mono ((E1.trans E2).trans E3) h1)) ((Mono.mono ((E1.trans E2).trans E3) h2))) ?_; rintro _ w4 ⟨u3, q1, rfl, E4, hO1, hQ1, hd1⟩
          have icu3 := OwnedB.isC (Owned.toB hO1); have cpu3 := OwnedB.capOk (Owned.toB hO1); have icq1 := OwnedB.isC (Owned.toB hQ1); have cpq1 := OwnedB.capOk (Owned.toB hQ1); have hs4 := E4.size; refine Wo_alloc2 rfl flat25 ?_
          rintro b3 w5 hb3 E5 hB3; have hlb3 := hB3.lt; have hs5 := E5.size; refine Wo_st2 rfl Try.sizeOf25 rfl rfl (by first | rfl | assumption) (by first | rfl | assumption) hB3 (by omega) ((((E1.trans E2).trans E3).trans E4).trans E5) ?_
          rintro w6 E6 hB3 K1 hz1; have E7 := (((E2.trans E3).trans E4).trans E5).wroteAt ((((E1.trans E2).trans E3).trans E4).trans E5) E6 K1 hz1 (by omega); have szE7 := E7.size
          have E8 := ((E3.trans E4).trans E5).wroteAt ((((E1.trans E2).trans E3).trans E4).trans E5) E6 K1 hz1 (by omega); have szE8 := E8.size
          have E9 := (E4.trans E5).wroteAt ((((E1.trans E2).trans E3).trans E4).trans E5) E6 K1 hz1 (by omega); have szE9 := E9.size; have E10 := E5.wroteAt ((((E1.trans E2).trans E3).trans E4).trans E5) E6 K1 hz1 (by omega)
          have szE10 := E10.size; have hB1 := (hB1.ext (((E2.trans E3).trans E4).trans E5)).of_heap (K1 _ (by omega)); have hB2 := (hB2.ext ((E3.trans E4).trans E5)).of_heap (K1 _ (by omega)); have hO1 := (hO1.toB.ext E5).wrote K1 (by omega)
          have hQ1 := (hQ1.toB.ext E5).wrote K1 (by omega); refine Wo_nil ?_; refine W_seq ?_; refine W_seq ?_; refine W_region rfl ?_; refine Wo rfl (opv_fieldAddr Try.underlying25 rfl rfl Try.sizeOf23 rfl) ?_
          refine Wo (v := u3) rfl (opv_load Try.isAgg23 rfl (hB3.cell rfl)) ?_; refine Wo rfl (opv_len Try.underlying23 rfl (OwnedB.read hO1)) ?_; refine Wo rfl (opv_fieldAddr Try.underlying25 rfl rfl Try.sizeOf23 rfl) ?_
          refine Wo (v := q1) rfl (opv_load Try.isAgg23 rfl (hB3.cell rfl)) ?_; refine Wo rfl (opv_len Try.underlying23 rfl (OwnedB.read hQ1)) ?_; refine Wo rfl (opv_add rfl rfl (by omega)) ?_; refine Wo rfl (opv_eql rfl rfl) ?_
          refine Wo_nil ?_; refine W_cond_dec rfl (fun h5 => ?_) (fun h5 => ?_); contradiction; refine W_skip ?_; refine W_seq ?_; refine W_held (fun _ => True) mixed rfl (by kernel_rfl) ?_; intro w7 E11 K2 hz2; have hs6 := E11.size
          refine Wh_take 0 rfl (by kernel_rfl) (by kernel_rfl) rfl (fun _ _ => opv_move (v := .int _ _) rfl) trivial ?_
          refine Wh_take 2 rfl (by kernel_rfl) (by kernel_rfl) rfl (fun _ _ => opv_fieldAddr Try.underlying25 rfl rfl Try.sizeOf23 rfl) trivial ?_
          refine Wh_take 5 rfl (by kernel_rfl) (by kernel_rfl) rfl (fun _ _ => opv_fieldAddr Try.underlying25 rfl rfl Try.sizeOf23 rfl) trivial ?_; refine Wh_all (rs := [1, 3, 6]) (by kernel_rfl) rfl ?_; refine WhAll_cons rfl ?_ ?_
          refine Wo_buildSliceH (ps := [(0, .int _ _)]) (cs := [_]) rfl Try.underlying23 Try.sizeOf3 Try.zeroValue3 rfl rfl rfl rfl ?_; rintro b4 w8 hb4 E12 hB4 hHb4; have hlb4 := hB4.lt; have hLb4 := own_lit1 hHb4 hb4; clear hHb4
          have hs7 := E12.size; refine Wo_nil ?_; refine ⟨trivial, ?_⟩; refine Wh_all (rs := [3, 6]) (by kernel_rfl) rfl ?_; refine WhAll_cons rfl ?_ ?_
          refine Wo (v := u3) rfl (opv_load Try.isAgg23 rfl ((hB3.ext (E11.trans E12)).cell rfl)) ?_; refine Wo_nil ?_; refine ⟨trivial, ?_⟩; refine Wh_all (rs := [4, 6]) (by kernel_rfl) rfl ?_; refine WhAll_cons rfl ?_ ?_
          refine Wo_appS rfl el23 rfl rfl (Mono.mono (E11.trans E12) (OwnedB.read hO1)) hLb4.toB (by first | omega | (simp <;> omega)) (by omega) (by omega) ((E6.trans E11).trans E12) (by omega) ?_; have hT1 := hLb4.toB
          rintro v1 w9 hLb4 E13 M1; have E14 := M1.ext hT1 ((E7.trans E11).trans E12) (by omega); have szE14 := E14.size; have E15 := M1.ext hT1 ((E8.trans E11).trans E12) (by omega); have szE15 := E15.size
          have E16 := M1.ext hT1 ((E9.trans E11).trans E12) (by omega); have szE16 := E16.size; have E17 := M1.ext hT1 ((E10.trans E11).trans E12) (by omega); have szE17 := E17.size; have E18 := M1.ext hT1 (E11.trans E12) (by omega)
          have szE18 := E18.size; have E19 := M1.ext hT1 E12 (by omega); have szE19 := E19.size; have hB3 := (hB3.ext (E11.trans E12)).moves M1 hT1 (by omega); have hB1 := (hB1.ext (E11.trans E12)).moves M1 hT1 (by omega)
          have hB2 := (hB2.ext (E11.trans E12)).moves M1 hT1 (by omega); have hO1 := (hO1.ext (E11.trans E12)).moves M1 hT1 (by omega); have hQ1 := (hQ1.ext (E11.trans E12)).moves M1 hT1 (by omega); have hs8 := E13.size
          have icv1 := OwnedB.isC (Owned.toB hLb4); refine Wo_nil ?_; refine ⟨trivial, ?_⟩; refine Wh_all (rs := [6]) (by kernel_rfl) rfl ?_; refine WhAll_cons rfl ?_ ?_; refine Wo (v := q1) rfl (opv_load Try.isAgg23 rfl (hB3.cell rfl)) ?_
          refine Wo_nil ?_; refine ⟨trivial, ?_⟩; refine Wh_take 7 rfl (by kernel_rfl) (by kernel_rfl) rfl (fun _ _ => opv_build2 flat25 rfl (by first | assumption | rfl) (by first | assumption | rfl)) trivial ?_
          refine Wh_all (rs := [8]) (by kernel_rfl) rfl ?_; refine WhAll_cons rfl ?_ ?_; refine Wo_call rfl (opc1 (a := .agg _) Try.call55 rfl) (k3 _ _ _ ((Owned.read hLb4)) ((OwnedB.read hQ1))) ?_
          rintro _ w10 ⟨u4, q2, rfl, E20, hO2, hQ2, hd2⟩; have icu4 := OwnedB.isC (Owned.toB hO2); have cpu4 := OwnedB.capOk (Owned.toB hO2); have icq2 := OwnedB.isC (Owned.toB hQ2); have cpq2 := OwnedB.capOk (Owned.toB hQ2)
          have hs9 := E20.size; refine Wo_nil ?_; refine ⟨trivial, ?_⟩; refine Wh_all (rs := [9]) (by kernel_rfl) rfl ?_; refine WhAll_cons rfl ?_ ?_
          refine Wo_st2 rfl Try.sizeOf25 rfl rfl (by first | rfl | assumption) (by first | rfl | assumption) (hB2.ext E20) (by omega) (E13.trans E20) ?_; rintro w11 E21 hB2 K3 hz3
          have E22 := (E14.trans E20).wroteAt (E13.trans E20) E21 K3 hz3 (by omega); have szE22 := E22.size; have hLb4 := (hLb4.toB.ext E20).wrote K3 (by omega); have hB3 := (hB3.ext E20).of_heap (K3 _ (by omega))
          have hB1 := (hB1.ext E20).of_heap (K3 _ (by omega)); have hO1 := (hO1.ext E20).wrote K3 (by omega); have hQ1 := (hQ1.ext E20).wrote K3 (by omega); have hO2 := hO2.toB.wrote K3 (by omega); have hQ2 := hQ2.toB.wrote K3 (by omega)
          refine Wo_nil ?_; refine ⟨trivial, ?_⟩; refine Wh_take 10 rfl (by kernel_rfl) (by kernel_rfl) rfl (fun _ _ => opv_assign (v := .bool _) rfl) trivial ?_; refine Wh_done (by kernel_rfl) ?_; refine W_ret ?_; rotate_left
          exact WhAll_nil; exact WhAll_nil; exact WhAll_nil; refine WhAll_cons rfl ?_ ?_; refine Wo (v := q1) rfl (opv_load Try.isAgg23 rfl ((hB3.ext (E11.trans E12)).cell rfl)) ?_; refine Wo_nil ?_; refine ⟨trivial, ?_⟩
          refine Wh_all (rs := [4]) (by kernel_rfl) rfl ?_; refine WhAll_cons rfl ?_ ?_
          refine Wo_appS rfl el23 rfl rfl (Mono.mono (E11.trans E12) (OwnedB.read hO1)) hLb4.toB (by first | omega | (simp <;> omega)) (by omega) (by omega) ((E6.trans E11).trans E12) (by omega) ?_; have hT1 := hLb4.toB
          rintro v1 w9 hLb4 E13 M1; have E14 := M1.ext hT1 ((E7.trans E11).trans E12) (by omega); have szE14 := E14.size; have E15 := M1.ext hT1 ((E8.trans E11).trans E12) (by omega); have szE15 := E15.size
          have E16 := M1.ext hT1 ((E9.trans E11).trans E12) (by omega); have szE16 := E16.size; have E17 := M1.ext hT1 ((E10.trans E11).trans E12) (by omega); have szE17 := E17.size; have E18 := M1.ext hT1 (E11.trans E12) (by omega)
          have szE18 := E18.size; have E19 := M1.ext hT1 E12 (by omega); have szE19 := E19.size; have hB3 := (hB3.ext (E11.trans E12)).moves M1 hT1 (by omega); have hB1 := (hB1.ext (E11.trans E12)).moves M1 hT1 (by omega)
          have hB2 := (hB2.ext (E11.trans E12)).moves M1 hT1 (by omega); have hO1 := (hO1.ext (E11.trans E12)).moves M1 hT1 (by omega); have hQ1 := (hQ1.ext (E11.trans E12)).moves M1 hT1 (by omega); have hs8 := E13.size
          have icv1 := OwnedB.isC (Owned.toB hLb4); refine Wo_nil ?_; refine ⟨trivial, ?_⟩
          refine Wh_take 7 rfl (by kernel_rfl) (by kernel_rfl) rfl (fun _ _ => opv_build2 flat25 rfl (by first | assumption | rfl) (by first | assumption | rfl)) trivial ?_; refine Wh_all (rs := [8]) (by kernel_rfl) rfl ?_
          refine WhAll_cons rfl ?_ ?_; refine Wo_call rfl (opc1 (a := .agg _) Try.call55 rfl) (k3 _ _ _ ((Owned.read hLb4)) ((OwnedB.read hQ1))) ?_; rintro _ w10 ⟨u4, q2, rfl, E20, hO2, hQ2, hd2⟩; have icu4 := OwnedB.isC (Owned.toB hO2)
          have cpu4 := OwnedB.capOk (Owned.toB hO2); have icq2 := OwnedB.isC (Owned.toB hQ2); have cpq2 := OwnedB.capOk (Owned.toB hQ2); have hs9 := E20.size; refine Wo_nil ?_; refine ⟨trivial, ?_⟩
          refine Wh_all (rs := [9]) (by kernel_rfl) rfl ?_; refine WhAll_cons rfl ?_ ?_; refine Wo_st2 rfl Try.sizeOf25 rfl rfl (by first | rfl | assumption) (by first | rfl | assumption) (hB2.ext E20) (by omega) (E13.trans E20) ?_
          rintro w11 E21 hB2 K3 hz3; have E22 := (E14.trans E20).wroteAt (E13.trans E20) E21 K3 hz3 (by omega); have szE22 := E22.size; have hLb4 := (hLb4.toB.ext E20).wrote K3 (by omega); have hB3 := (hB3.ext E20).of_heap (K3 _ (by omega))
          have hB1 := (hB1.ext E20).of_heap (K3 _ (by omega)); have hO1 := (hO1.ext E20).wrote K3 (by omega); have hQ1 := (hQ1.ext E20).wrote K3 (by omega); have hO2 := hO2.toB.wrote K3 (by omega); have hQ2 := hQ2.toB.wrote K3 (by omega)
          refine Wo_nil ?_; refine ⟨trivial, ?_⟩; refine Wh_take 10 rfl (by kernel_rfl) (by kernel_rfl) rfl (fun _ _ => opv_assign (v := .bool _) rfl) trivial ?_; refine Wh_done (by kernel_rfl) ?_; refine W_ret ?_; rotate_left
          exact WhAll_nil; exact WhAll_nil; exact WhAll_nil; exact WhAll_nil; refine WhAll_cons rfl ?_ ?_; refine Wo (v := q1) rfl (opv_load Try.isAgg23 rfl ((hB3.ext (E11.trans E12)).cell rfl)) ?_; refine Wo_nil ?_; refine ⟨trivial, ?_⟩
          refine Wh_all (rs := [3]) (by kernel_rfl) rfl ?_; refine WhAll_cons rfl ?_ ?_; refine Wo (v := u3) rfl (opv_load Try.isAgg23 rfl ((hB3.ext (E11.trans E12)).cell rfl)) ?_; refine Wo_nil ?_; refine ⟨trivial, ?_⟩
          refine Wh_all (rs := [4]) (by kernel_rfl) rfl ?_; refine WhAll_cons rfl ?_ ?_
          refine Wo_appS rfl el23 rfl rfl (Mono.mono (E11.trans E12) (OwnedB.read hO1)) hLb4.toB (by first | omega | (simp <;> omega)) (by omega) (by omega) ((E6.trans E11).trans E12) (by omega) ?_; have hT1 := hLb4.toB
          rintro v1 w9 hLb4 E13 M1; have E14 := M1.ext hT1 ((E7.trans E11).trans E12) (by omega); have szE14 := E14.size; have E15 := M1.ext hT1 ((E8.trans E11).trans E12) (by omega); have szE15 := E15.size
          have E16 := M1.ext hT1 ((E9.trans E11).trans E12) (by omega); have szE16 := E16.size; have E17 := M1.ext hT1 ((E10.trans E11).trans E12) (by omega); have szE17 := E17.size; have E18 := M1.ext hT1 (E11.trans E12) (by omega)
          have szE18 := E18.size; have E19 := M1.ext hT1 E12 (by omega); have szE19 := E19.size; have hB3 := (hB3.ext (E11.trans E12)).moves M1 hT1 (by omega); have hB1 := (hB1.ext (E11.trans E12)).moves M1 hT1 (by omega)
          have hB2 := (hB2.ext (E11.trans E12)).moves M1 hT1 (by omega); have hO1 := (hO1.ext (E11.trans E12)).moves M1 hT1 (by omega); have hQ1 := (hQ1.ext (E11.trans E12)).moves M1 hT1 (by omega); have hs8 := E13.size
          have icv1 := OwnedB.isC (Owned.toB hLb4); refine Wo_nil ?_; refine ⟨trivial, ?_⟩
          refine Wh_take 7 rfl (by kernel_rfl) (by kernel_rfl) rfl (fun _ _ => opv_build2 flat25 rfl (by first | assumption | rfl) (by first | assumption | rfl)) trivial ?_; refine Wh_all (rs := [8]) (by kernel_rfl) rfl ?_
          refine WhAll_cons rfl ?_ ?_; refine Wo_call rfl (opc1 (a := .agg _) Try.call55 rfl) (k3 _ _ _ ((Owned.read hLb4)) ((OwnedB.read hQ1))) ?_; rintro _ w10 ⟨u4, q2, rfl, E20, hO2, hQ2, hd2⟩; have icu4 := OwnedB.isC (Owned.toB hO2)
          have cpu4 := OwnedB.capOk (Owned.toB hO2); have icq2 := OwnedB.isC (Owned.toB hQ2); have cpq2 := OwnedB.capOk (Owned.toB hQ2); have hs9 := E20.size; refine Wo_nil ?_; refine ⟨trivial, ?_⟩
          refine Wh_all (rs := [9]) (by kernel_rfl) rfl ?_; refine WhAll_cons rfl ?_ ?_; refine Wo_st2 rfl Try.sizeOf25 rfl rfl (by first | rfl | assumption) (by first | rfl | assumption) (hB2.ext E20) (by omega) (E13.trans E20) ?_
          rintro w11 E21 hB2 K3 hz3; have E22 := (E14.trans E20).wroteAt (E13.trans E20) E21 K3 hz3 (by omega); have szE22 := E22.size; have hLb4 := (hLb4.toB.ext E20).wrote K3 (by omega); have hB3 := (hB3.ext E20).of_heap (K3 _ (by omega))
          have hB1 := (hB1.ext E20).of_heap (K3 _ (by omega)); have hO1 := (hO1.ext E20).wrote K3 (by omega); have hQ1 := (hQ1.ext E20).wrote K3 (by omega); have hO2 := hO2.toB.wrote K3 (by omega); have hQ2 := hQ2.toB.wrote K3 (by omega)
          refine Wo_nil ?_; refine ⟨trivial, ?_⟩; refine Wh_take 10 rfl (by kernel_rfl) (by kernel_rfl) rfl (fun _ _ => opv_assign (v := .bool _) rfl) trivial ?_; refine Wh_done (by kernel_rfl) ?_; refine W_ret ?_; rotate_left
          exact WhAll_nil; exact WhAll_nil; exact WhAll_nil; exact WhAll_nil; exact WhAll_nil; refine WhAll_cons rfl ?_ ?_; refine Wo (v := u3) rfl (opv_load Try.isAgg23 rfl ((hB3.ext E11).cell rfl)) ?_; refine Wo_nil ?_; refine ⟨trivial, ?_⟩
          refine Wh_all (rs := [1, 6]) (by kernel_rfl) rfl ?_; refine WhAll_cons rfl ?_ ?_; refine Wo_buildSliceH (ps := [(0, .int _ _)]) (cs := [_]) rfl Try.underlying23 Try.sizeOf3 Try.zeroValue3 rfl rfl rfl rfl ?_
          rintro b4 w8 hb4 E12 hB4 hHb4; have hlb4 := hB4.lt; have hLb4 := own_lit1 hHb4 hb4; clear hHb4; have hs7 := E12.size; refine Wo_nil ?_; refine ⟨trivial, ?_⟩; refine Wh_all (rs := [4, 6]) (by kernel_rfl) rfl ?_
          refine WhAll_cons rfl ?_ ?_; refine Wo_appS rfl el23 rfl rfl (Mono.mono (E11.trans E12) (OwnedB.read hO1)) hLb4.toB (by first | omega | (simp <;> omega)) (by omega) (by omega) ((E6.trans E11).trans E12) (by omega) ?_
          have hT1 := hLb4.toB; rintro v1 w9 hLb4 E13 M1; have E14 := M1.ext hT1 ((E7.trans E11).trans E12) (by omega); have szE14 := E14.size; have E15 := M1.ext hT1 ((E8.trans E11).trans E12) (by omega); have szE15 := E15.size
          have E16 := M1.ext hT1 ((E9.trans E11).trans E12) (by omega); have szE16 := E16.size; have E17 := M1.ext hT1 ((E10.trans E11).trans E12) (by omega); have szE17 := E17.size; have E18 := M1.ext hT1 (E11.trans E12) (by omega)
          have szE18 := E18.size; have E19 := M1.ext hT1 E12 (by omega); have szE19 := E19.size; have hB3 := (hB3.ext (E11.trans E12)).moves M1 hT1 (by omega); have hB1 := (hB1.ext (E11.trans E12)).moves M1 hT1 (by omega)
          have hB2 := (hB2.ext (E11.trans E12)).moves M1 hT1 (by omega); have hO1 := (hO1.ext (E11.trans E12)).moves M1 hT1 (by omega); have hQ1 := (hQ1.ext (E11.trans E12)).moves M1 hT1 (by omega); have hs8 := E13.size
          have icv1 := OwnedB.isC (Owned.toB hLb4); refine Wo_nil ?_; refine ⟨trivial, ?_⟩; refine Wh_all (rs := [6]) (by kernel_rfl) rfl ?_; refine WhAll_cons rfl ?_ ?_; refine Wo (v := q1) rfl (opv_load Try.isAgg23 rfl (hB3.cell rfl)) ?_
          refine Wo_nil ?_; refine ⟨trivial, ?_⟩; refine Wh_take 7 rfl (by kernel_rfl) (by kernel_rfl) rfl (fun _ _ => opv_build2 flat25 rfl (by first | assumption | rfl) (by first | assumption | rfl)) trivial ?_
          refine Wh_all (rs := [8]) (by kernel_rfl) rfl ?_; refine WhAll_cons rfl ?_ ?_; refine Wo_call rfl (opc1 (a := .agg _) Try.call55 rfl) (k3 _ _ _ ((Owned.read hLb4)) ((OwnedB.read hQ1))) ?_
          rintro _ w10 ⟨u4, q2, rfl, E20, hO2, hQ2, hd2⟩; have icu4 := OwnedB.isC (Owned.toB hO2); have cpu4 := OwnedB.capOk (Owned.toB hO2); have icq2 := OwnedB.isC (Owned.toB hQ2); have cpq2 := OwnedB.capOk (Owned.toB hQ2)
          have hs9 := E20.size; refine Wo_nil ?_; refine ⟨trivial, ?_⟩; refine Wh_all (rs := [9]) (by kernel_rfl) rfl ?_; refine WhAll_cons rfl ?_ ?_
          refine Wo_st2 rfl Try.sizeOf25 rfl rfl (by first | rfl | assumption) (by first | rfl | assumption) (hB2.ext E20) (by omega) (E13.trans E20) ?_; rintro w11 E21 hB2 K3 hz3
          have E22 := (E14.trans E20).wroteAt (E13.trans E20) E21 K3 hz3 (by omega); have szE22 := E22.size; have hLb4 := (hLb4.toB.ext E20).wrote K3 (by omega); have hB3 := (hB3.ext E20).of_heap (K3 _ (by omega))
          have hB1 := (hB1.ext E20).of_heap (K3 _ (by omega)); have hO1 := (hO1.ext E20).wrote K3 (by omega); have hQ1 := (hQ1.ext E20).wrote K3 (by omega); have hO2 := hO2.toB.wrote K3 (by omega); have hQ2 := hQ2.toB.wrote K3 (by omega)
          refine Wo_nil ?_; refine ⟨trivial, ?_⟩; refine Wh_take 10 rfl (by kernel_rfl) (by kernel_rfl) rfl (fun _ _ => opv_assign (v := .bool _) rfl) trivial ?_; refine Wh_done (by kernel_rfl) ?_; refine W_ret ?_; rotate_left
          exact WhAll_nil; exact WhAll_nil; exact WhAll_nil; refine WhAll_cons rfl ?_ ?_; refine Wo (v := q1) rfl (opv_load Try.isAgg23 rfl ((hB3.ext (E11.trans E12)).cell rfl)) ?_; refine Wo_nil ?_; refine ⟨trivial, ?_⟩
          refine Wh_all (rs := [4]) (by kernel_rfl) rfl ?_; refine WhAll_cons rfl ?_ ?_
          refine Wo_appS rfl el23 rfl rfl (Mono.mono (E11.trans E12) (OwnedB.read hO1)) hLb4.toB (by first | omega | (simp <;> omega)) (by omega) (by omega) ((E6.trans E11).trans E12) (by omega) ?_; have hT1 := hLb4.toB
          rintro v1 w9 hLb4 E13 M1; have E14 := M1.ext hT1 ((E7.trans E11).trans E12) (by omega); have szE14 := E14.size; have E15 := M1.ext hT1 ((E8.trans E11).trans E12) (by omega); have szE15 := E15.size
          have E16 := M1.ext hT1 ((E9.trans E11).trans E12) (by omega); have szE16 := E16.size; have E17 := M1.ext hT1 ((E10.trans E11).trans E12) (by omega); have szE17 := E17.size; have E18 := M1.ext hT1 (E11.trans E12) (by omega)
          have szE18 := E18.size; have E19 := M1.ext hT1 E12 (by omega); have szE19 := E19.size; have hB3 := (hB3.ext (E11.trans E12)).moves M1 hT1 (by omega); have hB1 := (hB1.ext (E11.trans E12)).moves M1 hT1 (by omega)
          have hB2 := (hB2.ext (E11.trans E12)).moves M1 hT1 (by omega); have hO1 := (hO1.ext (E11.trans E12)).moves M1 hT1 (by omega); have hQ1 := (hQ1.ext (E11.trans E12)).moves M1 hT1 (by omega); have hs8 := E13.size
          have icv1 := OwnedB.isC (Owned.toB hLb4); refine Wo_nil ?_; refine ⟨trivial, ?_⟩
          refine Wh_take 7 rfl (by kernel_rfl) (by kernel_rfl) rfl (fun _ _ => opv_build2 flat25 rfl (by first | assumption | rfl) (by first | assumption | rfl)) trivial ?_; refine Wh_all (rs := [8]) (by kernel_rfl) rfl ?_
          refine WhAll_cons rfl ?_ ?_; refine Wo_call rfl (opc1 (a := .agg _) Try.call55 rfl) (k3 _ _ _ ((Owned.read hLb4)) ((OwnedB.read hQ1))) ?_; rintro _ w10 ⟨u4, q2, rfl, E20, hO2, hQ2, hd2⟩; have icu4 := OwnedB.isC (Owned.toB hO2)
          have cpu4 := OwnedB.capOk (Owned.toB hO2); have icq2 := OwnedB.isC (Owned.toB hQ2); have cpq2 := OwnedB.capOk (Owned.toB hQ2); have hs9 := E20.size; refine Wo_nil ?_; refine ⟨trivial, ?_⟩
          refine Wh_all (rs := [9]) (by kernel_rfl) rfl ?_; refine WhAll_cons rfl ?_ ?_; refine Wo_st2 rfl Try.sizeOf25 rfl rfl (by first | rfl | assumption) (by first | rfl | assumption) (hB2.ext E20) (by omega) (E13.trans E20) ?_
          rintro w11 E21 hB2 K3 hz3; have E22 := (E14.trans E20).wroteAt (E13.trans E20) E21 K3 hz3 (by omega); have szE22 := E22.size; have hLb4 := (hLb4.toB.ext E20).wrote K3 (by omega); have hB3 := (hB3.ext E20).of_heap (K3 _ (by omega))
          have hB1 := (hB1.ext E20).of_heap (K3 _ (by omega)); have hO1 := (hO1.ext E20).wrote K3 (by omega); have hQ1 := (hQ1.ext E20).wrote K3 (by omega); have hO2 := hO2.toB.wrote K3 (by omega); have hQ2 := hQ2.toB.wrote K3 (by omega)
          refine Wo_nil ?_; refine ⟨trivial, ?_⟩; refine Wh_take 10 rfl (by kernel_rfl) (by kernel_rfl) rfl (fun _ _ => opv_assign (v := .bool _) rfl) trivial ?_; refine Wh_done (by kernel_rfl) ?_; refine W_ret ?_; rotate_left
          exact WhAll_nil; exact WhAll_nil; exact WhAll_nil; exact WhAll_nil; refine WhAll_cons rfl ?_ ?_; refine Wo (v := q1) rfl (opv_load Try.isAgg23 rfl ((hB3.ext E11).cell rfl)) ?_; refine Wo_nil ?_; refine ⟨trivial, ?_⟩
          refine Wh_all (rs := [1]) (by kernel_rfl) rfl ?_; refine WhAll_cons rfl ?_ ?_; refine Wo_buildSliceH (ps := [(0, .int _ _)]) (cs := [_]) rfl Try.underlying23 Try.sizeOf3 Try.zeroValue3 rfl rfl rfl rfl ?_
          rintro b4 w8 hb4 E12 hB4 hHb4; have hlb4 := hB4.lt; have hLb4 := own_lit1 hHb4 hb4; clear hHb4; have hs7 := E12.size; refine Wo_nil ?_; refine ⟨trivial, ?_⟩; refine Wh_all (rs := [4]) (by kernel_rfl) rfl ?_
          refine WhAll_cons rfl ?_ ?_; refine Wo_appS rfl el23 rfl rfl (Mono.mono (E11.trans E12) (OwnedB.read hO1)) hLb4.toB (by first | omega | (simp <;> omega)) (by omega) (by omega) ((E6.trans E11).trans E12) (by omega) ?_
          have hT1 := hLb4.toB; rintro v1 w9 hLb4 E13 M1; have E14 := M1.ext hT1 ((E7.trans E11).trans E12) (by omega); have szE14 := E14.size; have E15 := M1.ext hT1 ((E8.trans E11).trans E12) (by omega); have szE15 := E15.size
          have E16 := M1.ext hT1 ((E9.trans E11).trans E12) (by omega); have szE16 := E16.size; have E17 := M1.ext hT1 ((E10.trans E11).trans E12) (by omega); have szE17 := E17.size; have E18 := M1.ext hT1 (E11.trans E12) (by omega)
          have szE18 := E18.size; have E19 := M1.ext hT1 E12 (by omega); have szE19 := E19.size; have hB3 := (hB3.ext (E11.trans E12)).moves M1 hT1 (by omega); have hB1 := (hB1.ext (E11.trans E12)).moves M1 hT1 (by omega)
          have hB2 := (hB2.ext (E11.trans E12)).moves M1 hT1 (by omega); have hO1 := (hO1.ext (E11.trans E12)).moves M1 hT1 (by omega); have hQ1 := (hQ1.ext (E11.trans E12)).moves M1 hT1 (by omega); have hs8 := E13.size
          have icv1 := OwnedB.isC (Owned.toB hLb4); refine Wo_nil ?_; refine ⟨trivial, ?_⟩
          refine Wh_take 7 rfl (by kernel_rfl) (by kernel_rfl) rfl (fun _ _ => opv_build2 flat25 rfl (by first | assumption | rfl) (by first | assumption | rfl)) trivial ?_; refine Wh_all (rs := [8]) (by kernel_rfl) rfl ?_
          refine WhAll_cons rfl ?_ ?_; refine Wo_call rfl (opc1 (a := .agg _) Try.call55 rfl) (k3 _ _ _ ((Owned.read hLb4)) ((OwnedB.read hQ1))) ?_; rintro _ w10 ⟨u4, q2, rfl, E20, hO2, hQ2, hd2⟩; have icu4 := OwnedB.isC (Owned.toB hO2)
          have cpu4 := OwnedB.capOk (Owned.toB hO2); have icq2 := OwnedB.isC (Owned.toB hQ2); have cpq2 := OwnedB.capOk (Owned.toB hQ2); have hs9 := E20.size; refine Wo_nil ?_; refine ⟨trivial, ?_⟩
          refine Wh_all (rs := [9]) (by kernel_rfl) rfl ?_; refine WhAll_cons rfl ?_ ?_; refine Wo_st2 rfl Try.sizeOf25 rfl rfl (by first | rfl | assumption) (by first | rfl | assumption) (hB2.ext E20) (by omega) (E13.trans E20) ?_
          rintro w11 E21 hB2 K3 hz3; have E22 := (E14.trans E20).wroteAt (E13.trans E20) E21 K3 hz3 (by omega); have szE22 := E22.size; have hLb4 := (hLb4.toB.ext E20).wrote K3 (by omega); have hB3 := (hB3.ext E20).of_heap (K3 _ (by omega))
          have hB1 := (hB1.ext E20).of_heap (K3 _ (by omega)); have hO1 := (hO1.ext E20).wrote K3 (by omega); have hQ1 := (hQ1.ext E20).wrote K3 (by omega); have hO2 := hO2.toB.wrote K3 (by omega); have hQ2 := hQ2.toB.wrote K3 (by omega)
          refine Wo_nil ?_; refine ⟨trivial, ?_⟩; refine Wh_take 10 rfl (by kernel_rfl) (by kernel_rfl) rfl (fun _ _ => opv_assign (v := .bool _) rfl) trivial ?_; refine Wh_done (by kernel_rfl) ?_; refine W_ret ?_; rotate_left
          exact WhAll_nil; exact WhAll_nil; exact WhAll_nil; exact WhAll_nil; exact WhAll_nil; refine WhAll_cons rfl ?_ ?_; refine Wo (v := q1) rfl (opv_load Try.isAgg23 rfl ((hB3.ext E11).cell rfl)) ?_; refine Wo_nil ?_; refine ⟨trivial, ?_⟩
          refine Wh_all (rs := [1, 3]) (by kernel_rfl) rfl ?_; refine WhAll_cons rfl ?_ ?_; refine Wo_buildSliceH (ps := [(0, .int _ _)]) (cs := [_]) rfl Try.underlying23 Try.sizeOf3 Try.zeroValue3 rfl rfl rfl rfl ?_
          rintro b4 w8 hb4 E12 hB4 hHb4; have hlb4 := hB4.lt; have hLb4 := own_lit1 hHb4 hb4; clear hHb4; have hs7 := E12.size; refine Wo_nil ?_; refine ⟨trivial, ?_⟩; refine Wh_all (rs := [3]) (by kernel_rfl) rfl ?_
          refine WhAll_cons rfl ?_ ?_; refine Wo (v := u3) rfl (opv_load Try.isAgg23 rfl ((hB3.ext (E11.trans E12)).cell rfl)) ?_; refine Wo_nil ?_; refine ⟨trivial, ?_⟩; refine Wh_all (rs := [4]) (by kernel_rfl) rfl ?_
          refine WhAll_cons rfl ?_ ?_; refine Wo_appS rfl el23 rfl rfl (Mono.mono (E11.trans E12) (OwnedB.read hO1)) hLb4.toB (by first | omega | (simp <;> omega)) (by omega) (by omega) ((E6.trans E11).trans E12) (by omega) ?_
          have hT1 := hLb4.toB; rintro v1 w9 hLb4 E13 M1; have E14 := M1.ext hT1 ((E7.trans E11).trans E12) (by omega); have szE14 := E14.size; have E15 := M1.ext hT1 ((E8.trans E11).trans E12) (by omega); have szE15 := E15.size
          have E16 := M1.ext hT1 ((E9.trans E11).trans E12) (by omega); have szE16 := E16.size; have E17 := M1.ext hT1 ((E10.trans E11).trans E12) (by omega); have szE17 := E17.size; have E18 := M1.ext hT1 (E11.trans E12) (by omega)
          have szE18 := E18.size; have E19 := M1.ext hT1 E12 (by omega); have szE19 := E19.size; have hB3 := (hB3.ext (E11.trans E12)).moves M1 hT1 (by omega); have hB1 := (hB1.ext (E11.trans E12)).moves M1 hT1 (by omega)
          have hB2 := (hB2.ext (E11.trans E12)).moves M1 hT1 (by omega); have hO1 := (hO1.ext (E11.trans E12)).moves M1 hT1 (by omega); have hQ1 := (hQ1.ext (E11.trans E12)).moves M1 hT1 (by omega); have hs8 := E13.size
          have icv1 := OwnedB.isC (Owned.toB hLb4); refine Wo_nil ?_; refine ⟨trivial, ?_⟩
          refine Wh_take 7 rfl (by kernel_rfl) (by kernel_rfl) rfl (fun _ _ => opv_build2 flat25 rfl (by first | assumption | rfl) (by first | assumption | rfl)) trivial ?_; refine Wh_all (rs := [8]) (by kernel_rfl) rfl ?_
          refine WhAll_cons rfl ?_ ?_; refine Wo_call rfl (opc1 (a := .agg _) Try.call55 rfl) (k3 _ _ _ ((Owned.read hLb4)) ((OwnedB.read hQ1))) ?_; rintro _ w10 ⟨u4, q2, rfl, E20, hO2, hQ2, hd2⟩; have icu4 := OwnedB.isC (Owned.toB hO2)
          have cpu4 := OwnedB.capOk (Owned.toB hO2); have icq2 := OwnedB.isC (Owned.toB hQ2); have cpq2 := OwnedB.capOk (Owned.toB hQ2); have hs9 := E20.size; refine Wo_nil ?_; refine ⟨trivial, ?_⟩
          refine Wh_all (rs := [9]) (by kernel_rfl) rfl ?_; refine WhAll_cons rfl ?_ ?_; refine Wo_st2 rfl Try.sizeOf25 rfl rfl (by first | rfl | assumption) (by first | rfl | assumption) (hB2.ext E20) (by omega) (E13.trans E20) ?_
          rintro w11 E21 hB2 K3 hz3; have E22 := (E14.trans E20).wroteAt (E13.trans E20) E21 K3 hz3 (by omega); have szE22 := E22.size; have hLb4 := (hLb4.toB.ext E20).wrote K3 (by omega); have hB3 := (hB3.ext E20).of_heap (K3 _ (by omega))
          have hB1 := (hB1.ext E20).of_heap (K3 _ (by omega)); have hO1 := (hO1.ext E20).wrote K3 (by omega); have hQ1 := (hQ1.ext E20).wrote K3 (by omega); have hO2 := hO2.toB.wrote K3 (by omega); have hQ2 := hQ2.toB.wrote K3 (by omega)
          refine Wo_nil ?_; refine ⟨trivial, ?_⟩; refine Wh_take 10 rfl (by kernel_rfl) (by kernel_rfl) rfl (fun _ _ => opv_assign (v := .bool _) rfl) trivial ?_; refine Wh_done (by kernel_rfl) ?_; refine W_ret ?_; rotate_left
          exact WhAll_nil; exact WhAll_nil; exact WhAll_nil; exact WhAll_nil; refine WhAll_cons rfl ?_ ?_; refine Wo (v := u3) rfl (opv_load Try.isAgg23 rfl ((hB3.ext E11).cell rfl)) ?_; refine Wo_nil ?_; refine ⟨trivial, ?_⟩
          refine Wh_all (rs := [1]) (by kernel_rfl) rfl ?_; refine WhAll_cons rfl ?_ ?_; refine Wo_buildSliceH (ps := [(0, .int _ _)]) (cs := [_]) rfl Try.underlying23 Try.sizeOf3 Try.zeroValue3 rfl rfl rfl rfl ?_
          rintro b4 w8 hb4 E12 hB4 hHb4; have hlb4 := hB4.lt; have hLb4 := own_lit1 hHb4 hb4; clear hHb4; have hs7 := E12.size; refine Wo_nil ?_; refine ⟨trivial, ?_⟩; refine Wh_all (rs := [4]) (by kernel_rfl) rfl ?_
          refine WhAll_cons rfl ?_ ?_; refine Wo_appS rfl el23 rfl rfl (Mono.mono (E11.trans E12) (OwnedB.read hO1)) hLb4.toB (by first | omega | (simp <;> omega)) (by omega) (by omega) ((E6.trans E11).trans E12) (by omega) ?_
          have hT1 := hLb4.toB; rintro v1 w9 hLb4 E13 M1; have E14 := M1.ext hT1 ((E7.trans E11).trans E12) (by omega); have szE14 := E14.size; have E15 := M1.ext hT1 ((E8.trans E11).trans E12) (by omega); have szE15 := E15.size
          have E16 := M1.ext hT1 ((E9.trans E11).trans E12) (by omega); have szE16 := E16.size; have E17 := M1.ext hT1 ((E10.trans E11).trans E12) (by omega); have szE17 := E17.size; have E18 := M1.ext hT1 (E11.trans E12) (by omega)
          have szE18 := E18.size; have E19 := M1.ext hT1 E12 (by omega); have szE19 := E19.size; have hB3 := (hB3.ext (E11.trans E12)).moves M1 hT1 (by omega); have hB1 := (hB1.ext (E11.trans E12)).moves M1 hT1 (by omega)
          have hB2 := (hB2.ext (E11.trans E12)).moves M1 hT1 (by omega); have hO1 := (hO1.ext (E11.trans E12)).moves M1 hT1 (by omega); have hQ1 := (hQ1.ext (E11.trans E12)).moves M1 hT1 (by omega); have hs8 := E13.size
          have icv1 := OwnedB.isC (Owned.toB hLb4); refine Wo_nil ?_; refine ⟨trivial, ?_⟩
          refine Wh_take 7 rfl (by kernel_rfl) (by kernel_rfl) rfl (fun _ _ => opv_build2 flat25 rfl (by first | assumption | rfl) (by first | assumption | rfl)) trivial ?_; refine Wh_all (rs := [8]) (by kernel_rfl) rfl ?_
          refine WhAll_cons rfl ?_ ?_; refine Wo_call rfl (opc1 (a := .agg _) Try.call55 rfl) (k3 _ _ _ ((Owned.read hLb4)) ((OwnedB.read hQ1))) ?_; rintro _ w10 ⟨u4, q2, rfl, E20, hO2, hQ2, hd2⟩; have icu4 := OwnedB.isC (Owned.toB hO2)
          have cpu4 := OwnedB.capOk (Owned.toB hO2); have icq2 := OwnedB.isC (Owned.toB hQ2); have cpq2 := OwnedB.capOk (Owned.toB hQ2); have hs9 := E20.size; refine Wo_nil ?_; refine ⟨trivial, ?_⟩
          refine Wh_all (rs := [9]) (by kernel_rfl) rfl ?_; refine WhAll_cons rfl ?_ ?_; refine Wo_st2 rfl Try.sizeOf25 rfl rfl (by first | rfl | assumption) (by first | rfl | assumption) (hB2.ext E20) (by omega) (E13.trans E20) ?_
          rintro w11 E21 hB2 K3 hz3; have E22 := (E14.trans E20).wroteAt (E13.trans E20) E21 K3 hz3 (by omega); have szE22 := E22.size; have hLb4 := (hLb4.toB.ext E20).wrote K3 (by omega); have hB3 := (hB3.ext E20).of_heap (K3 _ (by omega))
          have hB1 := (hB1.ext E20).of_heap (K3 _ (by omega)); have hO1 := (hO1.ext E20).wrote K3 (by omega); have hQ1 := (hQ1.ext E20).wrote K3 (by omega); have hO2 := hO2.toB.wrote K3 (by omega); have hQ2 := hQ2.toB.wrote K3 (by omega)
          refine Wo_nil ?_; refine ⟨trivial, ?_⟩; refine Wh_take 10 rfl (by kernel_rfl) (by kernel_rfl) rfl (fun _ _ => opv_assign (v := .bool _) rfl) trivial ?_; refine Wh_done (by kernel_rfl) ?_; refine W_ret ?_; rotate_left
          exact WhAll_nil; exact WhAll_nil; exact WhAll_nil; exact WhAll_nil; exact WhAll_nil; exact WhAll_nil
        all_goals exact ⟨_, _, _, rfl, by assumption, _, _, rfl, by assumption, hO2.o.mono (by omega), hQ2.o.mono (by omega), hd2⟩
    · have k1 := hok false (decide_eq_false hs)
      have e0 : paV z A B = ([], [], false) := if_neg (fun h => hs h.2.1)
      rw [e0]
      clear hok
      refine fn_of_Wct Try.func30 rfl Try.results30 Try.ntmps30 rfl Try.isAgg25 Try.sizeOf25 ?_
      rcases hz with rfl | rfl
      · focus
          refine W_seq ?_; refine W_region rfl ?_; refine Wo_box rfl rfl rfl ?_; rintro b1 w1 hb1 E1 hB1; have hlb1 := hB1.lt; have hs1 := E1.size; refine Wo_alloc2 rfl flat25 ?_; rintro b2 w2 hb2 E2 hB2; have hlb2 := hB2.lt
          have hs2 := E2.size; refine Wo rfl (opv_assign (v := .bool _) rfl) ?_; refine Wo_nil ?_; refine W_seq ?_; refine W_seq ?_; refine W_region rfl ?_; refine Wo rfl (opv_move (v := .int _ _) rfl) ?_; refine Wo rfl (opv_neq rfl rfl) ?_
          refine Wo_split_ndec rfl (opv_move (v := .bool _) rfl) (fun h3 => ?_) (fun h3 => ?_); contradiction; refine Wo_skip rfl ?_; refine Wo_skip rfl ?_; refine Wo rfl (opv_pick_f (v := .bool _) rfl rfl) ?_
          refine Wo rfl (opv_move (v := .bool _) rfl) ?_; refine Wo (v := .agg _) rfl (opv_load2 Try.isAgg25 Try.sizeOf25 rfl (hB1.ext E2)) ?_
          refine Wo_call rfl (opc1 (a := .agg _) Try.call54 rfl) (k1 _ _ _ ((Mono.mono (E1.trans E2) h1)) ((Mono.mono (E1.trans E2) h2))) ?_; rintro _ w3 ⟨rfl, E3⟩; have hs3 := E3.size; refine Wo rfl (opv_not rfl) ?_
          refine Wo rfl (opv_pick_f (v := .bool _) rfl rfl) ?_; refine Wo_nil ?_; refine W_cond rfl (fun h4 => ?_) (fun h4 => ?_); refine W_seq ?_; refine W_region rfl ?_; refine Wo rfl (opv_build (ps := []) (cs := [_, _]) flat25 rfl rfl) ?_
          refine Wo_st2 rfl Try.sizeOf25 rfl rfl (by first | rfl | assumption) (by first | rfl | assumption) (hB2.ext E3) (by omega) ((E1.trans E2).trans E3) ?_; rintro w4 E4 hB2 K1 hz1
          have E5 := (E2.trans E3).wroteAt ((E1.trans E2).trans E3) E4 K1 hz1 (by omega); have szE5 := E5.size; have hB1 := (hB1.ext (E2.trans E3)).of_heap (K1 _ (by omega)); refine Wo rfl (opv_assign (v := .bool _) rfl) ?_; refine Wo_nil ?_
          refine W_ret ?_; rotate_left; contradiction
        all_goals exact ⟨_, _, _, rfl, by assumption, _, _, rfl, by assumption, Owned.nil, Owned.nil, .inr rfl⟩
      · focus
          refine W_seq ?_; refine W_region rfl ?_; refine Wo_box rfl rfl rfl ?_; rintro b1 w1 hb1 E1 hB1; have hlb1 := hB1.lt; have hs1 := E1.size; refine Wo_alloc2 rfl flat25 ?_; rintro b2 w2 hb2 E2 hB2; have hlb2 := hB2.lt
          have hs2 := E2.size; refine Wo rfl (opv_assign (v := .bool _) rfl) ?_; refine Wo_nil ?_; refine W_seq ?_; refine W_seq ?_; refine W_region rfl ?_; refine Wo rfl (opv_move (v := .int _ _) rfl) ?_; refine Wo rfl (opv_neq rfl rfl) ?_
          refine Wo_split_ndec rfl (opv_move (v := .bool _) rfl) (fun h3 => ?_) (fun h3 => ?_); refine Wo rfl (opv_move (v := .int _ _) rfl) ?_; refine Wo rfl (opv_neq rfl rfl) ?_; refine Wo rfl (opv_pick_t (v := .bool _) rfl rfl) ?_
          refine Wo_split_ndec rfl (opv_move (v := .bool _) rfl) (fun h4 => ?_) (fun h4 => ?_); contradiction; refine Wo (v := .agg _) rfl (opv_load2 Try.isAgg25 Try.sizeOf25 rfl (hB1.ext E2)) ?_
          refine Wo_call rfl (opc1 (a := .agg _) Try.call54 rfl) (k1 _ _ _ ((Mono.mono (E1.trans E2) h1)) ((Mono.mono (E1.trans E2) h2))) ?_; rintro _ w3 ⟨rfl, E3⟩; have hs3 := E3.size; refine Wo rfl (opv_not rfl) ?_
          refine Wo rfl (opv_pick_f (v := .bool _) rfl rfl) ?_; refine Wo_nil ?_; refine W_cond rfl (fun h5 => ?_) (fun h5 => ?_); refine W_seq ?_; refine W_region rfl ?_; refine Wo rfl (opv_build (ps := []) (cs := [_, _]) flat25 rfl rfl) ?_
          refine Wo_st2 rfl Try.sizeOf25 rfl rfl (by first | rfl | assumption) (by first | rfl | assumption) (hB2.ext E3) (by omega) ((E1.trans E2).trans E3) ?_; rintro w4 E4 hB2 K1 hz1
          have E5 := (E2.trans E3).wroteAt ((E1.trans E2).trans E3) E4 K1 hz1 (by omega); have szE5 := E5.size; have hB1 := (hB1.ext (E2.trans E3)).of_heap (K1 _ (by omega)); refine Wo rfl (opv_assign (v := .bool _) rfl) ?_; refine Wo_nil ?_
          refine W_ret ?_; rotate_left; contradiction; contradiction
        all_goals exact ⟨_, _, _, rfl, by assumption, _, _, rfl, by assumption, Owned.nil, Owned.nil, .inr rfl⟩
  · have e0 : paV z A B = ([], [], false) := if_neg (fun h => hz h.1)
    rw [e0]
    clear hok
    have hz1 : ¬ z = 0 := fun h => hz (.inl h)
    have hz2 : ¬ z = 1 := fun h => hz (.inr h)
    refine fn_of_Wct Try.func30 rfl Try.results30 Try.ntmps30 rfl Try.isAgg25 Try.sizeOf25 ?_
    focus
      refine W_seq ?_; refine W_region rfl ?_; refine Wo_box rfl rfl rfl ?_; rintro b1 w1 hb1 E1 hB1; have hlb1 := hB1.lt; have hs1 := E1.size; refine Wo_alloc2 rfl flat25 ?_; rintro b2 w2 hb2 E2 hB2; have hlb2 := hB2.lt
      have hs2 := E2.size; refine Wo rfl (opv_assign (v := .bool _) rfl) ?_; refine Wo_nil ?_; refine W_seq ?_; refine W_seq ?_; refine W_region rfl ?_; refine Wo rfl (opv_move (v := .int _ _) rfl) ?_; refine Wo rfl (opv_neq rfl rfl) ?_
      refine Wo_split_ndec rfl (opv_move (v := .bool _) rfl) (fun h3 => ?_) (fun h3 => ?_); refine Wo rfl (opv_move (v := .int _ _) rfl) ?_; refine Wo rfl (opv_neq rfl rfl) ?_; refine Wo rfl (opv_pick_t (v := .bool _) rfl rfl) ?_
      refine Wo_split_ndec rfl (opv_move (v := .bool _) rfl) (fun h4 => ?_) (fun h4 => ?_); refine Wo_skip rfl ?_; refine Wo_skip rfl ?_; refine Wo_skip rfl ?_; refine Wo rfl (opv_pick_t (v := .bool _) rfl rfl) ?_; refine Wo_nil ?_
      refine W_cond_true rfl ?_; refine W_seq ?_; refine W_region rfl ?_; refine Wo rfl (opv_build (ps := []) (cs := [_, _]) flat25 rfl rfl) ?_
      refine Wo_st2 rfl Try.sizeOf25 rfl rfl (by first | rfl | assumption) (by first | rfl | assumption) hB2 (by omega) (E1.trans E2) ?_; rintro w3 E3 hB2 K1 hz3; have E4 := E2.wroteAt (E1.trans E2) E3 K1 hz3 (by omega)
      have szE4 := E4.size; have hB1 := (hB1.ext E2).of_heap (K1 _ (by omega)); refine Wo rfl (opv_assign (v := .bool _) rfl) ?_; refine Wo_nil ?_; refine W_ret ?_; rotate_left; contradiction; contradiction
    all_goals exact ⟨_, _, _, rfl, by assumption, _, _, rfl, by assumption, Owned.nil, Owned.nil, .inr rfl⟩

end Go.Proofs.Ytlalfmialbolhaa
