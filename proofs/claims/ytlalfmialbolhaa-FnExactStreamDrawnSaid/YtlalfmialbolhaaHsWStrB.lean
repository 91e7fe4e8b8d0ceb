/- Walks: bits of streams on both sides, and whether two streams are the same, by the reference. -/
import Derived.Test.YtlalfmialbolhaaHsWStr
namespace Go.Proofs.Ytlalfmialbolhaa
open Go.Hs
set_option maxRecDepth 10000
set_option maxHeartbeats 4000000
set_option linter.unusedVariables false
set_option linter.unusedSimpArgs false
def batV (A B : List Int) (z : Int) : Int := if Stm A B ∧ 0 ≤ z ∧ z ≤ 999 then bat A B z.toNat else -1

theorem spec_BitAt_ok (w : World) (u1 u2 : Value) (A B : List Int) (h1 : Ints w u1 A) (h2 : Ints w u2 B) (hA : A.length ≤ 4000000) (hB : B.length ≤ 4000000) (z : Int) : Does Try.prog 57 [.agg #[u1, u2], .int .i64 z] w (Ret w (.int .i64 (batV A B z))) := by
  have hle1 := h1.le
  have hle2 := h2.le
  have hok : ∀ (x : Bool), decide (Stm A B) = x → ∀ (w : World) (u1 u2 : Value), Ints w u1 A → Ints w u2 B → Does Try.prog 16 [.agg #[u1, u2]] w (Ret w (.bool x)) := fun x e w u1 u2 h1 h2 => e ▸ StreamOk_ok w u1 u2 A B h1 h2 hA hB
  by_cases hs : Stm A B
  · have k1 := hok true (decide_eq_true hs)
    have hl := hs.2.2.1
    by_cases hz : 0 ≤ z ∧ z ≤ 999
    · obtain ⟨k, rfl⟩ : ∃ k : Nat, z = (k : Int) := ⟨z.toNat, by omega⟩
      have e0 : batV A B (k : Int) = bat A B k := if_pos ⟨hs, hz⟩
      rw [e0]
      by_cases hkA : k < A.length
      · have e : bat A B k = A[k] := bat_ahead hkA
        rw [e]
        clear hok
        refine fn_of_W1 Try.func57 rfl Try.results57 Try.ntmps57 rfl ?_
        focus
          refine W_seq ?_; refine W_region rfl ?_; refine Wo_box rfl rfl rfl ?_; rintro b1 w1 hb1 E1 hB1; have hlb1 := hB1.lt; have hs1 := E1.size; refine Wo rfl (opv_assign (v := .int _ _) rfl) ?_; refine Wo_nil ?_; refine W_seq ?_
          refine W_seq ?_; refine W_region rfl ?_; refine Wo (v := .agg _) rfl (opv_load2 Try.isAgg25 Try.sizeOf25 rfl hB1) ?_; refine Wo_call rfl (opc1 (a := .agg _) Try.call16 rfl) (k1 _ _ _ ((Mono.mono E1 h1)) ((Mono.mono E1 h2))) ?_
          rintro _ w2 ⟨rfl, E2⟩; have hs2 := E2.size; refine Wo rfl (opv_not rfl) ?_; refine Wo_split rfl (opv_move (v := .bool _) rfl) (fun h3 => ?_) (fun h3 => ?_); contradiction; refine Wo rfl (opv_move (v := .int _ _) rfl) ?_
          refine Wo_call rfl (opc3 (a := .int _ _) (b := .int _ _) (c := .int _ _) Try.call58 rfl rfl rfl) (l1In_ok _ _ _ _) ?_; rintro _ w3 ⟨rfl, E3⟩; have hs3 := E3.size; refine Wo rfl (opv_not rfl) ?_
          refine Wo rfl (opv_pick_f (v := .bool _) rfl rfl) ?_; refine Wo_nil ?_; refine W_cond_ndec rfl (fun h4 => ?_) (fun h4 => ?_); contradiction; refine W_skip ?_; refine W_seq ?_; refine W_seq ?_; refine W_region rfl ?_
          refine Wo rfl (opv_move (v := .int _ _) rfl) ?_; refine Wo rfl (opv_fieldAddr Try.underlying25 rfl rfl Try.sizeOf23 rfl) ?_; refine Wo (v := u1) rfl (opv_load Try.isAgg23 rfl ((hB1.ext (E2.trans E3)).cell rfl)) ?_
          refine Wo rfl (opv_len Try.underlying23 rfl h1) ?_; refine Wo rfl (opv_lss rfl rfl) ?_; refine Wo_nil ?_; refine W_cond_dec rfl (fun h5 => ?_) (fun h5 => ?_); refine W_seq ?_; refine W_region rfl ?_
          refine Wo rfl (opv_fieldAddr Try.underlying25 rfl rfl Try.sizeOf23 rfl) ?_; refine Wo (v := u1) rfl (opv_load Try.isAgg23 rfl ((hB1.ext (E2.trans E3)).cell rfl)) ?_; refine Wo rfl (opv_move (v := .int _ _) rfl) ?_
          refine Wo_get Try.underlying23 Try.sizeOf3 Try.isAgg3 rfl (fun _ => rfl) rfl h1 ((E1.trans E2).trans E3) rfl (by first | omega | (simp <;> omega)) ?_; rintro _ _ rfl; refine Wo rfl (opv_assign (v := .int _ _) rfl) ?_
          refine Wo_nil ?_; refine W_ret ?_; exact ⟨rfl, ((E1.trans E2).trans E3)⟩; (exfalso; omega)
      · have hml : (k - A.length) % B.length < B.length := Nat.mod_lt _ (by omega)
        have hmi : ((k : Int) - (A.length : Int)) % (B.length : Int) = (((k - A.length) % B.length : Nat) : Int) := by
          rw [show (k : Int) - (A.length : Int) = ((k - A.length : Nat) : Int) by omega]; rfl
        have e : bat A B k = B[(k - A.length) % B.length] := by unfold bat; rw [if_neg hkA, getD_lt hml]
        rw [e]
        clear hok
        refine fn_of_W1 Try.func57 rfl Try.results57 Try.ntmps57 rfl ?_
        focus
          refine W_seq ?_; refine W_region rfl ?_; refine Wo_box rfl rfl rfl ?_; rintro b1 w1 hb1 E1 hB1; have hlb1 := hB1.lt; have hs1 := E1.size; refine Wo rfl (opv_assign (v := .int _ _) rfl) ?_; refine Wo_nil ?_; refine W_seq ?_
          refine W_seq ?_; refine W_region rfl ?_; refine Wo (v := .agg _) rfl (opv_load2 Try.isAgg25 Try.sizeOf25 rfl hB1) ?_; refine Wo_call rfl (opc1 (a := .agg _) Try.call16 rfl) (k1 _ _ _ ((Mono.mono E1 h1)) ((Mono.mono E1 h2))) ?_
          rintro _ w2 ⟨rfl, E2⟩; have hs2 := E2.size; refine Wo rfl (opv_not rfl) ?_; refine Wo_split rfl (opv_move (v := .bool _) rfl) (fun h3 => ?_) (fun h3 => ?_); contradiction; refine Wo rfl (opv_move (v := .int _ _) rfl) ?_
          refine Wo_call rfl (opc3 (a := .int _ _) (b := .int _ _) (c := .int _ _) Try.call58 rfl rfl rfl) (l1In_ok _ _ _ _) ?_; rintro _ w3 ⟨rfl, E3⟩; have hs3 := E3.size; refine Wo rfl (opv_not rfl) ?_
          refine Wo rfl (opv_pick_f (v := .bool _) rfl rfl) ?_; refine Wo_nil ?_; refine W_cond_ndec rfl (fun h4 => ?_) (fun h4 => ?_); contradiction; refine W_skip ?_; refine W_seq ?_; refine W_seq ?_; refine W_region rfl ?_
          refine Wo rfl (opv_move (v := .int _ _) rfl) ?_; refine Wo rfl (opv_fieldAddr Try.underlying25 rfl rfl Try.sizeOf23 rfl) ?_; refine Wo (v := u1) rfl (opv_load Try.isAgg23 rfl ((hB1.ext (E2.trans E3)).cell rfl)) ?_
          refine Wo rfl (opv_len Try.underlying23 rfl h1) ?_; refine Wo rfl (opv_lss rfl rfl) ?_; refine Wo_nil ?_; refine W_cond_dec rfl (fun h5 => ?_) (fun h5 => ?_); (exfalso; omega); refine W_skip ?_; refine W_seq ?_
          refine W_draw mixed (by kernel_rfl) rfl ?_; refine Wq_o rfl (fun _ _ => opv_fieldAddr Try.underlying25 rfl rfl Try.sizeOf23 rfl) ?_
          refine Wq_o (v := u2) rfl (fun w' hw' => opv_load Try.isAgg23 rfl (((hB1.ext (E2.trans E3)).ext hw').cell rfl)) ?_; refine Wq_o rfl (fun _ _ => opv_move (v := .int _ _) rfl) ?_
          refine Wq_o rfl (fun _ _ => opv_fieldAddr Try.underlying25 rfl rfl Try.sizeOf23 rfl) ?_; refine Wq_o (v := u1) rfl (fun w' hw' => opv_load Try.isAgg23 rfl (((hB1.ext (E2.trans E3)).ext hw').cell rfl)) ?_
          refine Wq_o rfl (fun _ _ => opv_len Try.underlying23 rfl h1) ?_; refine Wq_o rfl (fun _ _ => opv_sub rfl rfl (by omega)) ?_; refine Wq_o rfl (fun _ _ => opv_fieldAddr Try.underlying25 rfl rfl Try.sizeOf23 rfl) ?_
          refine Wq_o (v := u2) rfl (fun w' hw' => opv_load Try.isAgg23 rfl (((hB1.ext (E2.trans E3)).ext hw').cell rfl)) ?_; refine Wq_o rfl (fun _ _ => opv_len Try.underlying23 rfl h2) ?_
          refine Wq_o rfl (fun _ _ => opv_rem rfl rfl (by omega)) ?_; refine Wq_get_z Try.underlying23 Try.sizeOf3 Try.isAgg3 rfl (fun _ => rfl) rfl h2 ((E1.trans E2).trans E3) rfl (by first | omega | (simp <;> omega)) ?_; rintro _ _ rfl
          refine Wq_o rfl (fun _ _ => opv_assign (v := .int _ _) rfl) ?_; refine Wq_nil (fun w4 E4 => ?_); have hs4 := E4.size; refine W_ret ?_; refine at_ret (v := .int _ _) rfl ?_
          refine ⟨congrArg (Value.int .i64) ?_, (((E1.trans E2).trans E3).trans E4)⟩
        have e3 : (((k : Int) - (A.length : Int)) % (B.length : Int)).toNat = (k - A.length) % B.length := by rw [hmi]; rfl
        simp only [e3]
    · have e0 : batV A B z = -1 := if_neg (fun h => hz h.2)
      rw [e0]
      clear hok
      refine fn_of_W1 Try.func57 rfl Try.results57 Try.ntmps57 rfl ?_
      focus
        refine W_seq ?_; refine W_region rfl ?_; refine Wo_box rfl rfl rfl ?_; rintro b1 w1 hb1 E1 hB1; have hlb1 := hB1.lt; have hs1 := E1.size; refine Wo rfl (opv_assign (v := .int _ _) rfl) ?_; refine Wo_nil ?_; refine W_seq ?_
        refine W_seq ?_; refine W_region rfl ?_; refine Wo (v := .agg _) rfl (opv_load2 Try.isAgg25 Try.sizeOf25 rfl hB1) ?_; refine Wo_call rfl (opc1 (a := .agg _) Try.call16 rfl) (k1 _ _ _ ((Mono.mono E1 h1)) ((Mono.mono E1 h2))) ?_
        rintro _ w2 ⟨rfl, E2⟩; have hs2 := E2.size; refine Wo rfl (opv_not rfl) ?_; refine Wo_split rfl (opv_move (v := .bool _) rfl) (fun h3 => ?_) (fun h3 => ?_); contradiction; refine Wo rfl (opv_move (v := .int _ _) rfl) ?_
        refine Wo_call rfl (opc3 (a := .int _ _) (b := .int _ _) (c := .int _ _) Try.call58 rfl rfl rfl) (l1In_ok _ _ _ _) ?_; rintro _ w3 ⟨rfl, E3⟩; have hs3 := E3.size; refine Wo rfl (opv_not rfl) ?_
        refine Wo rfl (opv_pick_f (v := .bool _) rfl rfl) ?_; refine Wo_nil ?_; refine W_cond_ndec rfl (fun h4 => ?_) (fun h4 => ?_); refine W_seq ?_; refine W_region rfl ?_; refine Wo rfl (opv_assign (v := .int _ _) rfl) ?_
        refine Wo_nil ?_; refine W_ret ?_; exact ⟨rfl, ((E1.trans E2).trans E3)⟩; contradiction
  · have k1 := hok false (decide_eq_false hs)
    have e0 : batV A B z = -1 := if_neg (fun h => hs h.1)
    rw [e0]
    clear hok
    refine fn_of_W1 Try.func57 rfl Try.results57 Try.ntmps57 rfl ?_
    focus
      refine W_seq ?_; refine W_region rfl ?_; refine Wo_box rfl rfl rfl ?_; rintro b1 w1 hb1 E1 hB1; have hlb1 := hB1.lt; have hs1 := E1.size; refine Wo rfl (opv_assign (v := .int _ _) rfl) ?_; refine Wo_nil ?_; refine W_seq ?_
      refine W_seq ?_; refine W_region rfl ?_; refine Wo (v := .agg _) rfl (opv_load2 Try.isAgg25 Try.sizeOf25 rfl hB1) ?_; refine Wo_call rfl (opc1 (a := .agg _) Try.call16 rfl) (k1 _ _ _ ((Mono.mono E1 h1)) ((Mono.mono E1 h2))) ?_
      rintro _ w2 ⟨rfl, E2⟩; have hs2 := E2.size; refine Wo rfl (opv_not rfl) ?_; refine Wo_split rfl (opv_move (v := .bool _) rfl) (fun h3 => ?_) (fun h3 => ?_); refine Wo_skip rfl ?_; refine Wo_skip rfl ?_; refine Wo_skip rfl ?_
      refine Wo rfl (opv_pick_t (v := .bool _) rfl rfl) ?_; refine Wo_nil ?_; refine W_cond_true rfl ?_; refine W_seq ?_; refine W_region rfl ?_; refine Wo rfl (opv_assign (v := .int _ _) rfl) ?_; refine Wo_nil ?_; refine W_ret ?_
      exact ⟨rfl, (E1.trans E2)⟩; contradiction

theorem impl_BitAt_ok (w : World) (u1 u2 : Value) (A B : List Int) (h1 : Ints w u1 A) (h2 : Ints w u2 B) (hA : A.length ≤ 4000000) (hB : B.length ≤ 4000000) (z : Int) : Does Try.prog 33 [.agg #[u1, u2], .int .i64 z] w (Ret w (.int .i64 (batV A B z))) := by
  have hle1 := h1.le
  have hle2 := h2.le
  have hok : ∀ (x : Bool), decide (Stm A B) = x → ∀ (w : World) (u1 u2 : Value), Ints w u1 A → Ints w u2 B → Does Try.prog 54 [.agg #[u1, u2]] w (Ret w (.bool x)) := fun x e w u1 u2 h1 h2 => e ▸ isStream_ok w u1 u2 A B h1 h2 hA hB
  by_cases hs : Stm A B
  · have k1 := hok true (decide_eq_true hs)
    by_cases hz : 0 ≤ z ∧ z ≤ 999
    · obtain ⟨k, rfl⟩ : ∃ k : Nat, z = (k : Int) := ⟨z.toNat, by omega⟩
      have e0 : batV A B (k : Int) = bat A B k := if_pos ⟨hs, hz⟩
      have k2 : ∀ (w : World) (u1 u2 : Value), Ints w u1 A → Ints w u2 B → Does Try.prog 63 [.agg #[u1, u2], .int .i64 (k : Int)] w (Ret w (.int .i64 (bat A B k))) := fun w u1 u2 h1 h2 => bitAt_ok w u1 u2 A B h1 h2 hs k (by omega)
      rw [e0]
      clear hok
      refine fn_of_W1 Try.func33 rfl Try.results33 Try.ntmps33 rfl ?_
      focus
        refine W_seq ?_; refine W_region rfl ?_; refine Wo_box rfl rfl rfl ?_; rintro b1 w1 hb1 E1 hB1; have hlb1 := hB1.lt; have hs1 := E1.size; refine Wo rfl (opv_assign (v := .int _ _) rfl) ?_; refine Wo_nil ?_; refine W_seq ?_
        refine W_seq ?_; refine W_region rfl ?_; refine Wo (v := .agg _) rfl (opv_load2 Try.isAgg25 Try.sizeOf25 rfl hB1) ?_; refine Wo_call rfl (opc1 (a := .agg _) Try.call54 rfl) (k1 _ _ _ ((Mono.mono E1 h1)) ((Mono.mono E1 h2))) ?_
        rintro _ w2 ⟨rfl, E2⟩; have hs2 := E2.size; refine Wo rfl (opv_not rfl) ?_; refine Wo_split rfl (opv_move (v := .bool _) rfl) (fun h3 => ?_) (fun h3 => ?_); contradiction; refine Wo rfl (opv_move (v := .int _ _) rfl) ?_
        refine Wo rfl (opv_lss rfl rfl) ?_; refine Wo rfl (opv_pick_f (v := .bool _) rfl rfl) ?_; refine Wo_split_dec rfl (opv_move (v := .bool _) rfl) (fun h4 => ?_) (fun h4 => ?_); contradiction
        refine Wo rfl (opv_move (v := .int _ _) rfl) ?_; refine Wo rfl (opv_gtr rfl rfl) ?_; refine Wo rfl (opv_pick_f (v := .bool _) rfl rfl) ?_; refine Wo_nil ?_; refine W_cond_dec rfl (fun h5 => ?_) (fun h5 => ?_); (exfalso; omega)
        refine W_skip ?_; refine W_seq ?_; refine W_region rfl ?_; refine Wo (v := .agg _) rfl (opv_load2 Try.isAgg25 Try.sizeOf25 rfl (hB1.ext E2)) ?_; refine Wo rfl (opv_move (v := .int _ _) rfl) ?_
        refine Wo_call rfl (opc2 (a := .agg _) (b := .int _ _) Try.call63 rfl rfl) (k2 _ _ _ ((Mono.mono (E1.trans E2) h1)) ((Mono.mono (E1.trans E2) h2))) ?_; rintro _ w3 ⟨rfl, E3⟩; have hs3 := E3.size
        refine Wo rfl (opv_assign (v := .int _ _) rfl) ?_; refine Wo_nil ?_; refine W_ret ?_; exact ⟨rfl, ((E1.trans E2).trans E3)⟩
    · have e0 : batV A B z = -1 := if_neg (fun h => hz h.2)
      rw [e0]
      clear hok
      refine fn_of_W1 Try.func33 rfl Try.results33 Try.ntmps33 rfl ?_
      focus
        refine W_seq ?_; refine W_region rfl ?_; refine Wo_box rfl rfl rfl ?_; rintro b1 w1 hb1 E1 hB1; have hlb1 := hB1.lt; have hs1 := E1.size; refine Wo rfl (opv_assign (v := .int _ _) rfl) ?_; refine Wo_nil ?_; refine W_seq ?_
        refine W_seq ?_; refine W_region rfl ?_; refine Wo (v := .agg _) rfl (opv_load2 Try.isAgg25 Try.sizeOf25 rfl hB1) ?_; refine Wo_call rfl (opc1 (a := .agg _) Try.call54 rfl) (k1 _ _ _ ((Mono.mono E1 h1)) ((Mono.mono E1 h2))) ?_
        rintro _ w2 ⟨rfl, E2⟩; have hs2 := E2.size; refine Wo rfl (opv_not rfl) ?_; refine Wo_split rfl (opv_move (v := .bool _) rfl) (fun h3 => ?_) (fun h3 => ?_); contradiction; refine Wo rfl (opv_move (v := .int _ _) rfl) ?_
        refine Wo rfl (opv_lss rfl rfl) ?_; refine Wo rfl (opv_pick_f (v := .bool _) rfl rfl) ?_; refine Wo_split_dec rfl (opv_move (v := .bool _) rfl) (fun h4 => ?_) (fun h4 => ?_); refine Wo_skip rfl ?_; refine Wo_skip rfl ?_
        refine Wo rfl (opv_pick_t (v := .bool _) rfl rfl) ?_; refine Wo_nil ?_; refine W_cond_true rfl ?_; refine W_seq ?_; refine W_region rfl ?_; refine Wo rfl (opv_assign (v := .int _ _) rfl) ?_; refine Wo_nil ?_; refine W_ret ?_
        exact ⟨rfl, (E1.trans E2)⟩; refine Wo rfl (opv_move (v := .int _ _) rfl) ?_; refine Wo rfl (opv_gtr rfl rfl) ?_; refine Wo rfl (opv_pick_f (v := .bool _) rfl rfl) ?_; refine Wo_nil ?_
        refine W_cond_dec rfl (fun h5 => ?_) (fun h5 => ?_); refine W_seq ?_; refine W_region rfl ?_; refine Wo rfl (opv_assign (v := .int _ _) rfl) ?_; refine Wo_nil ?_; refine W_ret ?_; exact ⟨rfl, (E1.trans E2)⟩; (exfalso; omega)
  · have k1 := hok false (decide_eq_false hs)
    have e0 : batV A B z = -1 := if_neg (fun h => hs h.1)
    rw [e0]
    clear hok
    refine fn_of_W1 Try.func33 rfl Try.results33 Try.ntmps33 rfl ?_
    focus
      refine W_seq ?_; refine W_region rfl ?_; refine Wo_box rfl rfl rfl ?_; rintro b1 w1 hb1 E1 hB1; have hlb1 := hB1.lt; have hs1 := E1.size; refine Wo rfl (opv_assign (v := .int _ _) rfl) ?_; refine Wo_nil ?_; refine W_seq ?_
      refine W_seq ?_; refine W_region rfl ?_; refine Wo (v := .agg _) rfl (opv_load2 Try.isAgg25 Try.sizeOf25 rfl hB1) ?_; refine Wo_call rfl (opc1 (a := .agg _) Try.call54 rfl) (k1 _ _ _ ((Mono.mono E1 h1)) ((Mono.mono E1 h2))) ?_
      rintro _ w2 ⟨rfl, E2⟩; have hs2 := E2.size; refine Wo rfl (opv_not rfl) ?_; refine Wo_split rfl (opv_move (v := .bool _) rfl) (fun h3 => ?_) (fun h3 => ?_); refine Wo_skip rfl ?_; refine Wo_skip rfl ?_
      refine Wo rfl (opv_pick_t (v := .bool _) rfl rfl) ?_; refine Wo rfl (opv_move (v := .bool _) rfl) ?_; refine Wo_skip rfl ?_; refine Wo_skip rfl ?_; refine Wo rfl (opv_pick_t (v := .bool _) rfl rfl) ?_; refine Wo_nil ?_
      refine W_cond_true rfl ?_; refine W_seq ?_; refine W_region rfl ?_; refine Wo rfl (opv_assign (v := .int _ _) rfl) ?_; refine Wo_nil ?_; refine W_ret ?_; exact ⟨rfl, (E1.trans E2)⟩; contradiction

noncomputable def ssV (A B A' B' : List Int) : Bool := by classical exact decide (Stm A B ∧ Stm A' B' ∧ bat A B = bat A' B')
theorem spec_SameStreams_ok (w : World) (u1 u2 v1 v2 : Value) (A B A' B' : List Int) (h1 : Ints w u1 A) (h2 : Ints w u2 B) (h3 : Ints w v1 A') (h4 : Ints w v2 B') (hA : A.length ≤ 4000000) (hB : B.length ≤ 4000000) (hA' : A'.length ≤ 4000000) (hB' : B'.length ≤ 4000000) :
    Does Try.prog 15 [.agg #[u1, u2], .agg #[v1, v2]] w (Ret w (.bool (ssV A B A' B'))) := by
  classical
  have hle1 := h1.le
  have hle2 := h2.le
  have hle3 := h3.le
  have hle4 := h4.le
  have hok : ∀ (x : Bool), decide (Stm A B) = x → ∀ (w : World) (u1 u2 : Value), Ints w u1 A → Ints w u2 B → Does Try.prog 16 [.agg #[u1, u2]] w (Ret w (.bool x)) := fun x e w u1 u2 h1 h2 => e ▸ StreamOk_ok w u1 u2 A B h1 h2 hA hB
  have hok' : ∀ (x : Bool), decide (Stm A' B') = x → ∀ (w : World) (u1 u2 : Value), Ints w u1 A' → Ints w u2 B' → Does Try.prog 16 [.agg #[u1, u2]] w (Ret w (.bool x)) := fun x e w u1 u2 h1 h2 => e ▸ StreamOk_ok w u1 u2 A' B' h1 h2 hA' hB'
  by_cases hs : Stm A B
  · have k1 := hok true (decide_eq_true hs)
    by_cases hs' : Stm A' B'
    · have k2 := hok' true (decide_eq_true hs')
      have hT : (∀ k, k < 156 → bat A B k = bat A' B' k) → ssV A B A' B' = true := fun h => decide_eq_true ⟨hs, hs', (same_iff hs hs').1 h⟩
      have hF : ∀ k, ¬ bat A B k = bat A' B' k → ssV A B A' B' = false := fun k h => decide_eq_false (fun h2 => h (by rw [h2.2.2]))
      clear hok hok'
      refine fn_of_W1 Try.func15 rfl Try.results15 Try.ntmps15 rfl ?_
      focus
        refine W_seq ?_; refine W_region rfl ?_; refine Wo_box rfl rfl rfl ?_; rintro b1 w1 hb1 E1 hB1; have hlb1 := hB1.lt; have hs1 := E1.size; refine Wo_box rfl rfl rfl ?_; rintro b2 w2 hb2 E2 hB2; have hlb2 := hB2.lt
        have hs2 := E2.size; refine Wo rfl (opv_assign (v := .bool _) rfl) ?_; refine Wo_nil ?_; refine W_seq ?_; refine W_seq ?_; refine W_region rfl ?_; refine Wo (v := .agg _) rfl (opv_load2 Try.isAgg25 Try.sizeOf25 rfl (hB1.ext E2)) ?_
        refine Wo_call rfl (opc1 (a := .agg _) Try.call16 rfl) (k1 _ _ _ ((Mono.mono (E1.trans E2) h1)) ((Mono.mono (E1.trans E2) h2))) ?_; rintro _ w3 ⟨rfl, E3⟩; have hs3 := E3.size; refine Wo rfl (opv_not rfl) ?_
        refine Wo_split rfl (opv_move (v := .bool _) rfl) (fun h5 => ?_) (fun h5 => ?_); contradiction; refine Wo (v := .agg _) rfl (opv_load2 Try.isAgg25 Try.sizeOf25 rfl (hB2.ext E3)) ?_
        refine Wo_call rfl (opc1 (a := .agg _) Try.call16 rfl) (k2 _ _ _ ((Mono.mono ((E1.trans E2).trans E3) h3)) ((Mono.mono ((E1.trans E2).trans E3) h4))) ?_; rintro _ w4 ⟨rfl, E4⟩; have hs4 := E4.size; refine Wo rfl (opv_not rfl) ?_
        refine Wo rfl (opv_pick_f (v := .bool _) rfl rfl) ?_; refine Wo_nil ?_; refine W_cond rfl (fun h6 => ?_) (fun h6 => ?_); contradiction; refine W_skip ?_; refine W_seq ?_; refine W_seq ?_; refine W_region rfl ?_
        refine Wo rfl (opv_assign (v := .int _ _) rfl) ?_; refine Wo_nil ?_; refine W_block ?_
      refine W_loop [4, 5, 14, 15, 16, 17, 18, 19, 20, 21, 22, 23, 24] (fun (k : Nat) => [(5, .int .i64 (k : Nat))]) (fun k w' => Ext w4 w' ∧ k ≤ 156 ∧ ∀ i, i < k → bat A B i = bat A' B' i) (fun x => 156 - x) 0 (by repeat (first | exact trivial | refine And.intro rfl ?_)) ?_ ?_
      · exact ⟨Ext.refl _, Nat.zero_le _, fun i h => by omega⟩
      rintro k ρj w5 ⟨E5, hk, hg⟩
      by_cases hkl : k < 156
      · have b1 : ∀ (w : World) (u1 u2 : Value), Ints w u1 A → Ints w u2 B → Does Try.prog 57 [.agg #[u1, u2], .int .i64 (k : Int)] w (Ret w (.int .i64 (bat A B k))) := fun w u1 u2 h1 h2 => by
          have := spec_BitAt_ok w u1 u2 A B h1 h2 hA hB (k : Int)
          rw [show batV A B (k : Int) = bat A B k from if_pos ⟨hs, by omega, by omega⟩] at this; exact this
        have b2 : ∀ (w : World) (u1 u2 : Value), Ints w u1 A' → Ints w u2 B' → Does Try.prog 57 [.agg #[u1, u2], .int .i64 (k : Int)] w (Ret w (.int .i64 (bat A' B' k))) := fun w u1 u2 h1 h2 => by
          have := spec_BitAt_ok w u1 u2 A' B' h1 h2 hA' hB' (k : Int)
          rw [show batV A' B' (k : Int) = bat A' B' k from if_pos ⟨hs', by omega, by omega⟩] at this; exact this
        focus
          have szE5 := E5.size; have szE4 := E4.size; have szE3 := E3.size; have szE2 := E2.size; have szE1 := E1.size; refine W_seq ?_; refine W_seq ?_; refine W_region rfl ?_; refine Wo rfl (opv_move (v := .int _ _) rfl) ?_
          refine Wo rfl (opv_lss rfl rfl) ?_; refine Wo_nil ?_; refine W_cond_dec rfl (fun h7 => ?_) (fun h7 => ?_); refine W_skip ?_; refine W_seq ?_; refine W_block ?_; refine W_seq ?_; refine W_draw mixed (by kernel_rfl) rfl ?_
          refine Wq_o (v := .agg _) rfl (fun w' hw' => opv_load2 Try.isAgg25 Try.sizeOf25 rfl ((hB1.ext (((E2.trans E3).trans E4).trans E5)).ext hw')) ?_; refine Wq_o rfl (fun _ _ => opv_move (v := .int _ _) rfl) ?_
          refine Wq_call rfl (fun _ _ => opc2 (a := .agg _) (b := .int _ _) Try.call57 rfl rfl) (fun w' hw' => (b1 _ _ _ ((Mono.mono (((((E1.trans E2).trans E3).trans E4).trans E5).trans hw') h1)) ((Mono.mono (((((E1.trans E2).trans E3).trans E4).trans E5).trans hw') h2)))) ?_
          refine Wq_o (v := .agg _) rfl (fun w' hw' => opv_load2 Try.isAgg25 Try.sizeOf25 rfl ((hB2.ext ((E3.trans E4).trans E5)).ext hw')) ?_; refine Wq_o rfl (fun _ _ => opv_move (v := .int _ _) rfl) ?_
          refine Wq_call rfl (fun _ _ => opc2 (a := .agg _) (b := .int _ _) Try.call57 rfl rfl) (fun w' hw' => (b2 _ _ _ ((Mono.mono (((((E1.trans E2).trans E3).trans E4).trans E5).trans hw') h3)) ((Mono.mono (((((E1.trans E2).trans E3).trans E4).trans E5).trans hw') h4)))) ?_
          refine Wq_o rfl (fun _ _ => opv_neq rfl rfl) ?_; refine Wq_nil (fun w6 E6 => ?_); have hs5 := E6.size; refine W_cond_ndec rfl (fun h8 => ?_) (fun h8 => ?_); refine W_seq ?_; refine W_region rfl ?_
          refine Wo rfl (opv_assign (v := .bool _) rfl) ?_; refine Wo_nil ?_; refine W_ret ?_; refine at_ret (v := .bool _) rfl ?_; refine ⟨congrArg Value.bool ?_, (((((E1.trans E2).trans E3).trans E4).trans E5).trans E6)⟩; rotate_left
          refine W_skip ?_; refine W_region rfl ?_; refine Wo rfl (opv_move (v := .int _ _) rfl) ?_; refine Wo rfl (opv_add rfl rfl (by omega)) ?_; refine Wo rfl (opv_assign (v := .int _ _) rfl) ?_; refine Wo_nil ?_; rotate_left
          (exfalso; omega)
        · exact (hF k (by assumption)).symm
        refine ⟨(k + 1), by repeat (first | exact trivial | refine And.intro rfl ?_), by repeat (first | with_reducible exact Same.refl | refine Same.upd rfl ?_ | refine Same.upds rfl ?_ | refine Same.mix rfl ?_), ?_, ?_⟩
        · refine ⟨E5.trans E6, by omega, fun i hi => ?_⟩
          by_cases e : i = k
          · subst e; assumption
          · exact hg i (by omega)
        · omega
      · obtain rfl : k = 156 := by omega
        focus
          have szE5 := E5.size; have szE4 := E4.size; have szE3 := E3.size; have szE2 := E2.size; have szE1 := E1.size; refine W_seq ?_; refine W_seq ?_; refine W_region rfl ?_; refine Wo rfl (opv_move (v := .int _ _) rfl) ?_
          refine Wo rfl (opv_lss rfl rfl) ?_; refine Wo_nil ?_; refine W_cond_dec rfl (fun h7 => ?_) (fun h7 => ?_); contradiction; refine W_exit ?_; refine exitX_same ?_; refine W_seq ?_; refine W_region rfl ?_
          refine Wo rfl (opv_assign (v := .bool _) rfl) ?_; refine Wo_nil ?_; refine W_ret ?_; refine at_ret (v := .bool _) rfl ?_; refine ⟨congrArg Value.bool ?_, ((((E1.trans E2).trans E3).trans E4).trans E5)⟩
        all_goals exact (hT hg).symm
    · have k2 := hok' false (decide_eq_false hs')
      have e0 : ssV A B A' B' = false := decide_eq_false (fun h => hs' h.2.1)
      rw [e0]
      clear hok hok'
      refine fn_of_W1 Try.func15 rfl Try.results15 Try.ntmps15 rfl ?_
      focus
        refine W_seq ?_; refine W_region rfl ?_; refine Wo_box rfl rfl rfl ?_; rintro b1 w1 hb1 E1 hB1; have hlb1 := hB1.lt; have hs1 := E1.size; refine Wo_box rfl rfl rfl ?_; rintro b2 w2 hb2 E2 hB2; have hlb2 := hB2.lt
        have hs2 := E2.size; refine Wo rfl (opv_assign (v := .bool _) rfl) ?_; refine Wo_nil ?_; refine W_seq ?_; refine W_seq ?_; refine W_region rfl ?_; refine Wo (v := .agg _) rfl (opv_load2 Try.isAgg25 Try.sizeOf25 rfl (hB1.ext E2)) ?_
        refine Wo_call rfl (opc1 (a := .agg _) Try.call16 rfl) (k1 _ _ _ ((Mono.mono (E1.trans E2) h1)) ((Mono.mono (E1.trans E2) h2))) ?_; rintro _ w3 ⟨rfl, E3⟩; have hs3 := E3.size; refine Wo rfl (opv_not rfl) ?_
        refine Wo_split rfl (opv_move (v := .bool _) rfl) (fun h5 => ?_) (fun h5 => ?_); contradiction; refine Wo (v := .agg _) rfl (opv_load2 Try.isAgg25 Try.sizeOf25 rfl (hB2.ext E3)) ?_
        refine Wo_call rfl (opc1 (a := .agg _) Try.call16 rfl) (k2 _ _ _ ((Mono.mono ((E1.trans E2).trans E3) h3)) ((Mono.mono ((E1.trans E2).trans E3) h4))) ?_; rintro _ w4 ⟨rfl, E4⟩; have hs4 := E4.size; refine Wo rfl (opv_not rfl) ?_
        refine Wo rfl (opv_pick_f (v := .bool _) rfl rfl) ?_; refine Wo_nil ?_; refine W_cond rfl (fun h6 => ?_) (fun h6 => ?_); refine W_seq ?_; refine W_region rfl ?_; refine Wo rfl (opv_assign (v := .bool _) rfl) ?_; refine Wo_nil ?_
        refine W_ret ?_; exact ⟨rfl, (((E1.trans E2).trans E3).trans E4)⟩; contradiction
  · have k1 := hok false (decide_eq_false hs)
    have e0 : ssV A B A' B' = false := decide_eq_false (fun h => hs h.1)
    rw [e0]
    clear hok hok'
    refine fn_of_W1 Try.func15 rfl Try.results15 Try.ntmps15 rfl ?_
    focus
      refine W_seq ?_; refine W_region rfl ?_; refine Wo_box rfl rfl rfl ?_; rintro b1 w1 hb1 E1 hB1; have hlb1 := hB1.lt; have hs1 := E1.size; refine Wo_box rfl rfl rfl ?_; rintro b2 w2 hb2 E2 hB2; have hlb2 := hB2.lt
      have hs2 := E2.size; refine Wo rfl (opv_assign (v := .bool _) rfl) ?_; refine Wo_nil ?_; refine W_seq ?_; refine W_seq ?_; refine W_region rfl ?_; refine Wo (v := .agg _) rfl (opv_load2 Try.isAgg25 Try.sizeOf25 rfl (hB1.ext E2)) ?_
      refine Wo_call rfl (opc1 (a := .agg _) Try.call16 rfl) (k1 _ _ _ ((Mono.mono (E1.trans E2) h1)) ((Mono.mono (E1.trans E2) h2))) ?_; rintro _ w3 ⟨rfl, E3⟩; have hs3 := E3.size; refine Wo rfl (opv_not rfl) ?_
      refine Wo_split rfl (opv_move (v := .bool _) rfl) (fun h5 => ?_) (fun h5 => ?_); refine Wo_skip rfl ?_; refine Wo_skip rfl ?_; refine Wo_skip rfl ?_; refine Wo rfl (opv_pick_t (v := .bool _) rfl rfl) ?_; refine Wo_nil ?_
      refine W_cond_true rfl ?_; refine W_seq ?_; refine W_region rfl ?_; refine Wo rfl (opv_assign (v := .bool _) rfl) ?_; refine Wo_nil ?_; refine W_ret ?_; exact ⟨rfl, ((E1.trans E2).trans E3)⟩; contradiction

end Go.Proofs.Ytlalfmialbolhaa
