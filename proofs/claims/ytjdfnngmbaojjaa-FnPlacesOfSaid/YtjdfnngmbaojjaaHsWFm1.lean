/- Walks: where a formula ends in a text; FormulaOk. -/
import Derived.Test.YtjdfnngmbaojjaaProg
import Derived.Test.YtjdfnngmbaojjaaHsMem
import Derived.Test.YtjdfnngmbaojjaaHsFm
namespace Go.Proofs.Ytjdfnngmbaojjaa
open Go.Hs
set_option maxRecDepth 10000
set_option maxHeartbeats 4000000
set_option linter.unusedVariables false
theorem mixed : Try.prog.follows .mixedOrders = true := by kernel_rfl


theorem drop_cons {s : List UInt8} {k : Nat} (h : k < s.length) : s.drop k = s.getD k 0 :: s.drop (k + 1) := by
  rw [List.drop_eq_getElem_cons h, List.getD_eq_getElem?_getD, List.getElem?_eq_getElem h]; rfl

theorem l10End_ok : ∀ (m : Nat) (s : List UInt8) (k : Nat) (w : World), s.length ≤ lim → s.length - k ≤ m →
    Does Try.prog 49 [str s, .int .i64 (k : Int)] w (Ret w (.int .i64 (endV (s.drop k) s.length))) := by
  intro m
  induction m with
  | zero =>
    intro s k w hl hm
    unfold lim at hl
    have e : s.drop k = [] := List.drop_eq_nil_of_le (by omega)
    rw [e, endV, pre_nil]
    refine fn_of_W1 Try.func49 rfl Try.results49 Try.ntmps49 rfl ?_
    focus
      refine W_seq ?_; refine W_region rfl ?_; refine Wo rfl (opv_assign (v := .int _ _) rfl) ?_; refine Wo_nil ?_; refine W_seq ?_; refine W_seq ?_; refine W_region rfl ?_; refine Wo rfl (opv_move (v := .int _ _) rfl) ?_
      refine Wo rfl (opv_move (v := .string _) rfl) ?_; refine Wo rfl (opv_len_str Try.underlying9 rfl) ?_; refine Wo rfl (opv_geq rfl rfl) ?_; refine Wo_nil ?_; refine W_cond_dec rfl (fun h1 => ?_) (fun h1 => ?_); refine W_seq ?_
      refine W_region rfl ?_; refine Wo rfl (opv_assign (v := .int _ _) rfl) ?_; refine Wo_nil ?_; refine W_ret ?_; exact ⟨rfl, (Ext.refl _)⟩; (exfalso; omega)
  | succ m ih =>
    intro s k w hl hm
    have hl' := hl
    unfold lim at hl'
    by_cases hk : s.length ≤ k
    · have e : s.drop k = [] := List.drop_eq_nil_of_le (by omega)
      rw [e, endV, pre_nil]
      refine fn_of_W1 Try.func49 rfl Try.results49 Try.ntmps49 rfl ?_
      focus
        refine W_seq ?_; refine W_region rfl ?_; refine Wo rfl (opv_assign (v := .int _ _) rfl) ?_; refine Wo_nil ?_; refine W_seq ?_; refine W_seq ?_; refine W_region rfl ?_; refine Wo rfl (opv_move (v := .int _ _) rfl) ?_
        refine Wo rfl (opv_move (v := .string _) rfl) ?_; refine Wo rfl (opv_len_str Try.underlying9 rfl) ?_; refine Wo rfl (opv_geq rfl rfl) ?_; refine Wo_nil ?_; refine W_cond_dec rfl (fun h1 => ?_) (fun h1 => ?_); refine W_seq ?_
        refine W_region rfl ?_; refine Wo rfl (opv_assign (v := .int _ _) rfl) ?_; refine Wo_nil ?_; refine W_ret ?_; exact ⟨rfl, (Ext.refl _)⟩; (exfalso; omega)
    have ih1 : ∀ w, Does Try.prog 49 [str s, .int .i64 ((k : Int) + 1)] w (Ret w (.int .i64 (endV (s.drop (k + 1)) s.length))) := fun w => ih s (k + 1) w hl (by omega)
    have ed := drop_cons (Nat.lt_of_not_le hk)
    rw [ed]
    generalize hc : s.getD k 0 = c
    have hlen : (s.drop (k + 1)).length = s.length - (k + 1) := by simp
    generalize hr : s.drop (k + 1) = r at ih1 hlen
    by_cases c1 : c = 116
    · subst c1
      have hn : (s.getD k 0).toNat = 116 := by rw [hc]; rfl
      have e : endV (116 :: r) s.length = (k : Int) + 1 := by rw [endV, pre_t]; simp only [hlen]; omega
      rw [e]
      refine fn_of_W1 Try.func49 rfl Try.results49 Try.ntmps49 rfl ?_
      focus
        refine W_seq ?_; refine W_region rfl ?_; refine Wo rfl (opv_assign (v := .int _ _) rfl) ?_; refine Wo_nil ?_; refine W_seq ?_; refine W_seq ?_; refine W_region rfl ?_; refine Wo rfl (opv_move (v := .int _ _) rfl) ?_
        refine Wo rfl (opv_move (v := .string _) rfl) ?_; refine Wo rfl (opv_len_str Try.underlying9 rfl) ?_; refine Wo rfl (opv_geq rfl rfl) ?_; refine Wo_nil ?_; refine W_cond_dec rfl (fun h1 => ?_) (fun h1 => ?_); (exfalso; omega)
        refine W_skip ?_; refine W_seq ?_; refine W_seq ?_; refine W_region rfl ?_; refine Wo rfl (opv_move (v := .string _) rfl) ?_; refine Wo rfl (opv_move (v := .int _ _) rfl) ?_
        refine Wo rfl (opv_index_str Try.underlying9 rfl rfl (by omega)) ?_; refine Wo_nil ?_; refine W_block ?_; refine W_seq ?_; refine W_region rfl ?_; refine Wo rfl (opv_eql rfl rfl) ?_; refine Wo rfl (opv_assign (v := .bool _) rfl) ?_
        refine Wo_nil ?_; refine W_cond_dec rfl (fun h2 => ?_) (fun h2 => ?_); refine W_seq ?_; refine W_region rfl ?_; refine Wo rfl (opv_move (v := .int _ _) rfl) ?_; refine Wo rfl (opv_add rfl rfl (by omega)) ?_
        refine Wo rfl (opv_assign (v := .int _ _) rfl) ?_; refine Wo_nil ?_; refine W_ret ?_; exact ⟨rfl, (Ext.refl _)⟩; (exfalso; omega)
    by_cases c2 : c = 33 ∨ c = 83 ∨ c = 65
    · have hn : (s.getD k 0).toNat = 33 ∨ (s.getD k 0).toNat = 83 ∨ (s.getD k 0).toNat = 65 := by rw [hc]; rcases c2 with rfl | rfl | rfl <;> simp
      have e : endV (c :: r) s.length = endV r s.length := by
        cases hp : pre r with
        | none => rw [endV, endV, hp, pre_un_none hp c2]
        | some p =>
          obtain ⟨f, r1⟩ := p
          rcases c2 with rfl | rfl | rfl
          · rw [endV, endV, hp, pre_neg hp]
          · rw [endV, endV, hp, pre_S hp]
          · rw [endV, endV, hp, pre_A hp]
      rw [e]
      refine fn_of_W1 Try.func49 rfl Try.results49 Try.ntmps49 rfl ?_
      focus
        refine W_seq ?_; refine W_region rfl ?_; refine Wo rfl (opv_assign (v := .int _ _) rfl) ?_; refine Wo_nil ?_; refine W_seq ?_; refine W_seq ?_; refine W_region rfl ?_; refine Wo rfl (opv_move (v := .int _ _) rfl) ?_
        refine Wo rfl (opv_move (v := .string _) rfl) ?_; refine Wo rfl (opv_len_str Try.underlying9 rfl) ?_; refine Wo rfl (opv_geq rfl rfl) ?_; refine Wo_nil ?_; refine W_cond_dec rfl (fun h1 => ?_) (fun h1 => ?_); (exfalso; omega)
        refine W_skip ?_; refine W_seq ?_; refine W_seq ?_; refine W_region rfl ?_; refine Wo rfl (opv_move (v := .string _) rfl) ?_; refine Wo rfl (opv_move (v := .int _ _) rfl) ?_
        refine Wo rfl (opv_index_str Try.underlying9 rfl rfl (by omega)) ?_; refine Wo_nil ?_; refine W_block ?_; refine W_seq ?_; refine W_region rfl ?_; refine Wo rfl (opv_eql rfl rfl) ?_; refine Wo rfl (opv_assign (v := .bool _) rfl) ?_
        refine Wo_nil ?_; refine W_cond_dec rfl (fun h2 => ?_) (fun h2 => ?_); (exfalso; omega); refine W_seq ?_; refine W_seq ?_; refine W_region rfl ?_; refine Wo rfl (opv_eql rfl rfl) ?_; refine Wo rfl (opv_assign (v := .bool _) rfl) ?_
        refine Wo_nil ?_; refine W_cond_dec rfl (fun h3 => ?_) (fun h3 => ?_); refine W_skip ?_; refine W_cond_dec rfl (fun h4 => ?_) (fun h4 => ?_); refine W_seq ?_; refine W_region rfl ?_; refine Wo rfl (opv_move (v := .string _) rfl) ?_
        refine Wo rfl (opv_move (v := .int _ _) rfl) ?_; refine Wo rfl (opv_add rfl rfl (by omega)) ?_; refine Wo_call rfl (opc2 (a := .string _) (b := .int _ _) Try.call49 rfl rfl) (ih1 _) ?_; rintro _ w1 ⟨rfl, E1⟩; have hs1 := E1.size
        refine Wo rfl (opv_assign (v := .int _ _) rfl) ?_; refine Wo_nil ?_; refine W_ret ?_; exact ⟨rfl, E1⟩; contradiction; refine W_seq ?_; refine W_region rfl ?_; refine Wo rfl (opv_eql rfl rfl) ?_
        refine Wo rfl (opv_assign (v := .bool _) rfl) ?_; refine Wo_nil ?_; refine W_cond_dec rfl (fun h4 => ?_) (fun h4 => ?_); refine W_skip ?_; refine W_cond_dec rfl (fun h5 => ?_) (fun h5 => ?_); refine W_seq ?_; refine W_region rfl ?_
        refine Wo rfl (opv_move (v := .string _) rfl) ?_; refine Wo rfl (opv_move (v := .int _ _) rfl) ?_; refine Wo rfl (opv_add rfl rfl (by omega)) ?_
        refine Wo_call rfl (opc2 (a := .string _) (b := .int _ _) Try.call49 rfl rfl) (ih1 _) ?_; rintro _ w1 ⟨rfl, E1⟩; have hs1 := E1.size; refine Wo rfl (opv_assign (v := .int _ _) rfl) ?_; refine Wo_nil ?_; refine W_ret ?_
        exact ⟨rfl, E1⟩; contradiction; refine W_region rfl ?_; refine Wo rfl (opv_eql rfl rfl) ?_; refine Wo rfl (opv_assign (v := .bool _) rfl) ?_; refine Wo_nil ?_; refine W_cond_dec rfl (fun h5 => ?_) (fun h5 => ?_); refine W_seq ?_
        refine W_region rfl ?_; refine Wo rfl (opv_move (v := .string _) rfl) ?_; refine Wo rfl (opv_move (v := .int _ _) rfl) ?_; refine Wo rfl (opv_add rfl rfl (by omega)) ?_
        refine Wo_call rfl (opc2 (a := .string _) (b := .int _ _) Try.call49 rfl rfl) (ih1 _) ?_; rintro _ w1 ⟨rfl, E1⟩; have hs1 := E1.size; refine Wo rfl (opv_assign (v := .int _ _) rfl) ?_; refine Wo_nil ?_; refine W_ret ?_
        exact ⟨rfl, E1⟩; (exfalso; omega)
    by_cases c3 : c = 40
    · subst c3
      have hn : (s.getD k 0).toNat = 40 := by rw [hc]; rfl
      cases hp : pre r with
      | none =>
        have e1 : endV r s.length = -1 := by rw [endV, hp]
        rw [e1] at ih1
        have e : endV (40 :: r) s.length = -1 := by rw [endV, pre_br1 hp]
        rw [e]
        refine fn_of_W1 Try.func49 rfl Try.results49 Try.ntmps49 rfl ?_
        focus
          refine W_seq ?_; refine W_region rfl ?_; refine Wo rfl (opv_assign (v := .int _ _) rfl) ?_; refine Wo_nil ?_; refine W_seq ?_; refine W_seq ?_; refine W_region rfl ?_; refine Wo rfl (opv_move (v := .int _ _) rfl) ?_
          refine Wo rfl (opv_move (v := .string _) rfl) ?_; refine Wo rfl (opv_len_str Try.underlying9 rfl) ?_; refine Wo rfl (opv_geq rfl rfl) ?_; refine Wo_nil ?_; refine W_cond_dec rfl (fun h1 => ?_) (fun h1 => ?_); (exfalso; omega)
          refine W_skip ?_; refine W_seq ?_; refine W_seq ?_; refine W_region rfl ?_; refine Wo rfl (opv_move (v := .string _) rfl) ?_; refine Wo rfl (opv_move (v := .int _ _) rfl) ?_
          refine Wo rfl (opv_index_str Try.underlying9 rfl rfl (by omega)) ?_; refine Wo_nil ?_; refine W_block ?_; refine W_seq ?_; refine W_region rfl ?_; refine Wo rfl (opv_eql rfl rfl) ?_; refine Wo rfl (opv_assign (v := .bool _) rfl) ?_
          refine Wo_nil ?_; refine W_cond_dec rfl (fun h2 => ?_) (fun h2 => ?_); (exfalso; omega); refine W_seq ?_; refine W_seq ?_; refine W_region rfl ?_; refine Wo rfl (opv_eql rfl rfl) ?_; refine Wo rfl (opv_assign (v := .bool _) rfl) ?_
          refine Wo_nil ?_; refine W_cond_dec rfl (fun h3 => ?_) (fun h3 => ?_); (exfalso; omega); refine W_seq ?_; refine W_region rfl ?_; refine Wo rfl (opv_eql rfl rfl) ?_; refine Wo rfl (opv_assign (v := .bool _) rfl) ?_; refine Wo_nil ?_
          refine W_cond_dec rfl (fun h4 => ?_) (fun h4 => ?_); (exfalso; omega); refine W_region rfl ?_; refine Wo rfl (opv_eql rfl rfl) ?_; refine Wo rfl (opv_assign (v := .bool _) rfl) ?_; refine Wo_nil ?_
          refine W_cond_dec rfl (fun h5 => ?_) (fun h5 => ?_); (exfalso; omega); refine W_seq ?_; refine W_region rfl ?_; refine Wo rfl (opv_eql rfl rfl) ?_; refine Wo rfl (opv_assign (v := .bool _) rfl) ?_; refine Wo_nil ?_
          refine W_cond_dec rfl (fun h6 => ?_) (fun h6 => ?_); refine W_seq ?_; refine W_region rfl ?_; refine Wo rfl (opv_move (v := .string _) rfl) ?_; refine Wo rfl (opv_move (v := .int _ _) rfl) ?_
          refine Wo rfl (opv_add rfl rfl (by omega)) ?_; refine Wo_call rfl (opc2 (a := .string _) (b := .int _ _) Try.call49 rfl rfl) (ih1 _) ?_; rintro _ w1 ⟨rfl, E1⟩; have hs1 := E1.size; refine Wo rfl (opv_assign (v := .int _ _) rfl) ?_
          refine Wo_nil ?_; refine W_seq ?_; refine W_seq ?_; refine W_region rfl ?_; refine Wo rfl (opv_move (v := .int _ _) rfl) ?_; refine Wo rfl (opv_lss rfl rfl) ?_
          refine Wo_split_dec rfl (opv_move (v := .bool _) rfl) (fun h7 => ?_) (fun h7 => ?_); refine Wo_skip rfl ?_; refine Wo_skip rfl ?_; refine Wo_skip rfl ?_; refine Wo_skip rfl ?_; refine Wo rfl (opv_pick_t (v := .bool _) rfl rfl) ?_
          refine Wo rfl (opv_move (v := .bool _) rfl) ?_; refine Wo_skip rfl ?_; refine Wo_skip rfl ?_; refine Wo_skip rfl ?_; refine Wo_skip rfl ?_; refine Wo_skip rfl ?_; refine Wo_skip rfl ?_; refine Wo_skip rfl ?_; refine Wo_skip rfl ?_
          refine Wo_skip rfl ?_; refine Wo_skip rfl ?_; refine Wo rfl (opv_pick_t (v := .bool _) rfl rfl) ?_; refine Wo_nil ?_; refine W_cond_true rfl ?_; refine W_seq ?_; refine W_region rfl ?_
          refine Wo rfl (opv_assign (v := .int _ _) rfl) ?_; refine Wo_nil ?_; refine W_ret ?_; exact ⟨rfl, E1⟩; contradiction; (exfalso; omega)
      | some p =>
        obtain ⟨f, r1⟩ := p
        have e1 : endV r s.length = ((s.length - r1.length : Nat) : Int) := by rw [endV, hp]
        have hd := pre_some hp
        have hl1 : r.length = f.enc.length + r1.length := by rw [hd]; simp
        have hdm : s.drop (s.length - r1.length) = r1 := by
          have : s.length - r1.length = (k + 1) + f.enc.length := by omega
          rw [this, ← List.drop_drop, hr, hd]; simp
        rw [e1] at ih1
        have hm1 : s.length - r1.length + r1.length = s.length := by omega
        have hmk : k < s.length - r1.length := by have := f.enc_pos; omega
        clear e1 hl1 hd
        generalize s.length - r1.length = q at ih1 hdm hm1 hmk
        cases r1 with
        | nil =>
          have e : endV (40 :: r) s.length = -1 := by rw [endV, pre_br2 hp (by intro c r2 h; cases h)]
          rw [e]
          simp only [List.length_nil] at hm1
          refine fn_of_W1 Try.func49 rfl Try.results49 Try.ntmps49 rfl ?_
          focus
            refine W_seq ?_; refine W_region rfl ?_; refine Wo rfl (opv_assign (v := .int _ _) rfl) ?_; refine Wo_nil ?_; refine W_seq ?_; refine W_seq ?_; refine W_region rfl ?_; refine Wo rfl (opv_move (v := .int _ _) rfl) ?_
            refine Wo rfl (opv_move (v := .string _) rfl) ?_; refine Wo rfl (opv_len_str Try.underlying9 rfl) ?_; refine Wo rfl (opv_geq rfl rfl) ?_; refine Wo_nil ?_; refine W_cond_dec rfl (fun h1 => ?_) (fun h1 => ?_); (exfalso; omega)
            refine W_skip ?_; refine W_seq ?_; refine W_seq ?_; refine W_region rfl ?_; refine Wo rfl (opv_move (v := .string _) rfl) ?_; refine Wo rfl (opv_move (v := .int _ _) rfl) ?_
            refine Wo rfl (opv_index_str Try.underlying9 rfl rfl (by omega)) ?_; refine Wo_nil ?_; refine W_block ?_; refine W_seq ?_; refine W_region rfl ?_; refine Wo rfl (opv_eql rfl rfl) ?_; refine Wo rfl (opv_assign (v := .bool _) rfl) ?_
            refine Wo_nil ?_; refine W_cond_dec rfl (fun h2 => ?_) (fun h2 => ?_); (exfalso; omega); refine W_seq ?_; refine W_seq ?_; refine W_region rfl ?_; refine Wo rfl (opv_eql rfl rfl) ?_; refine Wo rfl (opv_assign (v := .bool _) rfl) ?_
            refine Wo_nil ?_; refine W_cond_dec rfl (fun h3 => ?_) (fun h3 => ?_); (exfalso; omega); refine W_seq ?_; refine W_region rfl ?_; refine Wo rfl (opv_eql rfl rfl) ?_; refine Wo rfl (opv_assign (v := .bool _) rfl) ?_; refine Wo_nil ?_
            refine W_cond_dec rfl (fun h4 => ?_) (fun h4 => ?_); (exfalso; omega); refine W_region rfl ?_; refine Wo rfl (opv_eql rfl rfl) ?_; refine Wo rfl (opv_assign (v := .bool _) rfl) ?_; refine Wo_nil ?_
            refine W_cond_dec rfl (fun h5 => ?_) (fun h5 => ?_); (exfalso; omega); refine W_seq ?_; refine W_region rfl ?_; refine Wo rfl (opv_eql rfl rfl) ?_; refine Wo rfl (opv_assign (v := .bool _) rfl) ?_; refine Wo_nil ?_
            refine W_cond_dec rfl (fun h6 => ?_) (fun h6 => ?_); refine W_seq ?_; refine W_region rfl ?_; refine Wo rfl (opv_move (v := .string _) rfl) ?_; refine Wo rfl (opv_move (v := .int _ _) rfl) ?_
            refine Wo rfl (opv_add rfl rfl (by omega)) ?_; refine Wo_call rfl (opc2 (a := .string _) (b := .int _ _) Try.call49 rfl rfl) (ih1 _) ?_; rintro _ w1 ⟨rfl, E1⟩; have hs1 := E1.size; refine Wo rfl (opv_assign (v := .int _ _) rfl) ?_
            refine Wo_nil ?_; refine W_seq ?_; refine W_seq ?_; refine W_region rfl ?_; refine Wo rfl (opv_move (v := .int _ _) rfl) ?_; refine Wo rfl (opv_lss rfl rfl) ?_
            refine Wo_split_dec rfl (opv_move (v := .bool _) rfl) (fun h7 => ?_) (fun h7 => ?_); contradiction; refine Wo rfl (opv_move (v := .int _ _) rfl) ?_; refine Wo rfl (opv_move (v := .string _) rfl) ?_
            refine Wo rfl (opv_len_str Try.underlying9 rfl) ?_; refine Wo rfl (opv_geq rfl rfl) ?_; refine Wo rfl (opv_pick_f (v := .bool _) rfl rfl) ?_; refine Wo_split_dec rfl (opv_move (v := .bool _) rfl) (fun h8 => ?_) (fun h8 => ?_)
            refine Wo_skip rfl ?_; refine Wo_skip rfl ?_; refine Wo_skip rfl ?_; refine Wo_skip rfl ?_; refine Wo_skip rfl ?_; refine Wo_skip rfl ?_; refine Wo_skip rfl ?_; refine Wo_skip rfl ?_; refine Wo_skip rfl ?_; refine Wo_skip rfl ?_
            refine Wo rfl (opv_pick_t (v := .bool _) rfl rfl) ?_; refine Wo_nil ?_; refine W_cond_true rfl ?_; refine W_seq ?_; refine W_region rfl ?_; refine Wo rfl (opv_assign (v := .int _ _) rfl) ?_; refine Wo_nil ?_; refine W_ret ?_
            exact ⟨rfl, E1⟩; (exfalso; omega); (exfalso; omega)
        | cons d r2 =>
          simp only [List.length_cons] at hm1
          have ed2 := drop_cons (show q < s.length by omega)
          rw [hdm] at ed2
          obtain ⟨hd1, hd2⟩ := List.cons.inj ed2
          by_cases c4 : d = 38 ∨ d = 124
          · have hn2 : (s.getD q 0).toNat = 38 ∨ (s.getD q 0).toNat = 124 := by rw [← hd1]; rcases c4 with rfl | rfl <;> simp
            have ih2 : ∀ w, Does Try.prog 49 [str s, .int .i64 ((q : Int) + 1)] w (Ret w (.int .i64 (endV r2 s.length))) := fun w => by
              have := ih s (q + 1) w hl (by omega)
              rw [← hd2] at this
              exact this
            have hl2 : r2.length = s.length - (q + 1) := by omega
            cases hp2 : pre r2 with
            | none =>
              have e2 : endV r2 s.length = -1 := by rw [endV, hp2]
              rw [e2] at ih2
              have e : endV (40 :: r) s.length = -1 := by rw [endV, pre_br3 hp hp2]
              rw [e]
              clear ed2 hd1 hd2 hdm hr hc ed e2 e
              refine fn_of_W1 Try.func49 rfl Try.results49 Try.ntmps49 rfl ?_
              focus
                refine W_seq ?_; refine W_region rfl ?_; refine Wo rfl (opv_assign (v := .int _ _) rfl) ?_; refine Wo_nil ?_; refine W_seq ?_; refine W_seq ?_; refine W_region rfl ?_; refine Wo rfl (opv_move (v := .int _ _) rfl) ?_
                refine Wo rfl (opv_move (v := .string _) rfl) ?_; refine Wo rfl (opv_len_str Try.underlying9 rfl) ?_; refine Wo rfl (opv_geq rfl rfl) ?_; refine Wo_nil ?_; refine W_cond_dec rfl (fun h1 => ?_) (fun h1 => ?_); (exfalso; omega)
                refine W_skip ?_; refine W_seq ?_; refine W_seq ?_; refine W_region rfl ?_; refine Wo rfl (opv_move (v := .string _) rfl) ?_; refine Wo rfl (opv_move (v := .int _ _) rfl) ?_
                refine Wo rfl (opv_index_str Try.underlying9 rfl rfl (by omega)) ?_; refine Wo_nil ?_; refine W_block ?_; refine W_seq ?_; refine W_region rfl ?_; refine Wo rfl (opv_eql rfl rfl) ?_; refine Wo rfl (opv_assign (v := .bool _) rfl) ?_
                refine Wo_nil ?_; refine W_cond_dec rfl (fun h2 => ?_) (fun h2 => ?_); (exfalso; omega); refine W_seq ?_; refine W_seq ?_; refine W_region rfl ?_; refine Wo rfl (opv_eql rfl rfl) ?_; refine Wo rfl (opv_assign (v := .bool _) rfl) ?_
                refine Wo_nil ?_; refine W_cond_dec rfl (fun h3 => ?_) (fun h3 => ?_); (exfalso; omega); refine W_seq ?_; refine W_region rfl ?_; refine Wo rfl (opv_eql rfl rfl) ?_; refine Wo rfl (opv_assign (v := .bool _) rfl) ?_; refine Wo_nil ?_
                refine W_cond_dec rfl (fun h4 => ?_) (fun h4 => ?_); (exfalso; omega); refine W_region rfl ?_; refine Wo rfl (opv_eql rfl rfl) ?_; refine Wo rfl (opv_assign (v := .bool _) rfl) ?_; refine Wo_nil ?_
                refine W_cond_dec rfl (fun h5 => ?_) (fun h5 => ?_); (exfalso; omega); refine W_seq ?_; refine W_region rfl ?_; refine Wo rfl (opv_eql rfl rfl) ?_; refine Wo rfl (opv_assign (v := .bool _) rfl) ?_; refine Wo_nil ?_
                refine W_cond_dec rfl (fun h6 => ?_) (fun h6 => ?_); refine W_seq ?_; refine W_region rfl ?_; refine Wo rfl (opv_move (v := .string _) rfl) ?_; refine Wo rfl (opv_move (v := .int _ _) rfl) ?_
                refine Wo rfl (opv_add rfl rfl (by omega)) ?_; refine Wo_call rfl (opc2 (a := .string _) (b := .int _ _) Try.call49 rfl rfl) (ih1 _) ?_; rintro _ w1 ⟨rfl, E1⟩; have hs1 := E1.size; refine Wo rfl (opv_assign (v := .int _ _) rfl) ?_
                refine Wo_nil ?_; refine W_seq ?_; refine W_seq ?_; refine W_region rfl ?_; refine Wo rfl (opv_move (v := .int _ _) rfl) ?_; refine Wo rfl (opv_lss rfl rfl) ?_
                refine Wo_split_dec rfl (opv_move (v := .bool _) rfl) (fun h7 => ?_) (fun h7 => ?_); contradiction; refine Wo rfl (opv_move (v := .int _ _) rfl) ?_; refine Wo rfl (opv_move (v := .string _) rfl) ?_
                refine Wo rfl (opv_len_str Try.underlying9 rfl) ?_; refine Wo rfl (opv_geq rfl rfl) ?_; refine Wo rfl (opv_pick_f (v := .bool _) rfl rfl) ?_; refine Wo_split_dec rfl (opv_move (v := .bool _) rfl) (fun h8 => ?_) (fun h8 => ?_)
                (exfalso; omega); refine Wo rfl (opv_move (v := .string _) rfl) ?_; refine Wo rfl (opv_move (v := .int _ _) rfl) ?_; refine Wo rfl (opv_index_str Try.underlying9 rfl rfl (by omega)) ?_; refine Wo rfl (opv_neq rfl rfl) ?_
                refine Wo_split_ndec rfl (opv_move (v := .bool _) rfl) (fun h9 => ?_) (fun h9 => ?_); refine Wo rfl (opv_move (v := .string _) rfl) ?_; refine Wo rfl (opv_move (v := .int _ _) rfl) ?_
                refine Wo rfl (opv_index_str Try.underlying9 rfl rfl (by omega)) ?_; refine Wo rfl (opv_neq rfl rfl) ?_; refine Wo rfl (opv_pick_t (v := .bool _) rfl rfl) ?_; refine Wo rfl (opv_pick_f (v := .bool _) rfl rfl) ?_; refine Wo_nil ?_
                refine W_cond_ndec rfl (fun h10 => ?_) (fun h10 => ?_); (exfalso; omega); refine W_skip ?_; refine W_seq ?_; refine W_region rfl ?_; refine Wo rfl (opv_move (v := .string _) rfl) ?_; refine Wo rfl (opv_move (v := .int _ _) rfl) ?_
                refine Wo rfl (opv_add rfl rfl (by omega)) ?_; refine Wo_call rfl (opc2 (a := .string _) (b := .int _ _) Try.call49 rfl rfl) (ih2 _) ?_; rintro _ w2 ⟨rfl, E2⟩; have hs2 := E2.size; refine Wo rfl (opv_assign (v := .int _ _) rfl) ?_
                refine Wo_nil ?_; refine W_seq ?_; refine W_seq ?_; refine W_region rfl ?_; refine Wo rfl (opv_move (v := .int _ _) rfl) ?_; refine Wo rfl (opv_lss rfl rfl) ?_
                refine Wo_split_dec rfl (opv_move (v := .bool _) rfl) (fun h11 => ?_) (fun h11 => ?_); refine Wo_skip rfl ?_; refine Wo_skip rfl ?_; refine Wo_skip rfl ?_; refine Wo_skip rfl ?_; refine Wo rfl (opv_pick_t (v := .bool _) rfl rfl) ?_
                refine Wo rfl (opv_move (v := .bool _) rfl) ?_; refine Wo_skip rfl ?_; refine Wo_skip rfl ?_; refine Wo_skip rfl ?_; refine Wo_skip rfl ?_; refine Wo rfl (opv_pick_t (v := .bool _) rfl rfl) ?_; refine Wo_nil ?_
                refine W_cond_true rfl ?_; refine W_seq ?_; refine W_region rfl ?_; refine Wo rfl (opv_assign (v := .int _ _) rfl) ?_; refine Wo_nil ?_; refine W_ret ?_; exact ⟨rfl, (E1.trans E2)⟩; contradiction; refine Wo_skip rfl ?_
                refine Wo_skip rfl ?_; refine Wo_skip rfl ?_; refine Wo_skip rfl ?_; refine Wo rfl (opv_pick_f (v := .bool _) rfl rfl) ?_; refine Wo rfl (opv_pick_f (v := .bool _) rfl rfl) ?_; refine Wo_nil ?_; refine W_cond_false rfl ?_
                refine W_skip ?_; refine W_seq ?_; refine W_region rfl ?_; refine Wo rfl (opv_move (v := .string _) rfl) ?_; refine Wo rfl (opv_move (v := .int _ _) rfl) ?_; refine Wo rfl (opv_add rfl rfl (by omega)) ?_
                refine Wo_call rfl (opc2 (a := .string _) (b := .int _ _) Try.call49 rfl rfl) (ih2 _) ?_; rintro _ w2 ⟨rfl, E2⟩; have hs2 := E2.size; refine Wo rfl (opv_assign (v := .int _ _) rfl) ?_; refine Wo_nil ?_; refine W_seq ?_
                refine W_seq ?_; refine W_region rfl ?_; refine Wo rfl (opv_move (v := .int _ _) rfl) ?_; refine Wo rfl (opv_lss rfl rfl) ?_; refine Wo_split_dec rfl (opv_move (v := .bool _) rfl) (fun h10 => ?_) (fun h10 => ?_)
                refine Wo_skip rfl ?_; refine Wo_skip rfl ?_; refine Wo_skip rfl ?_; refine Wo_skip rfl ?_; refine Wo rfl (opv_pick_t (v := .bool _) rfl rfl) ?_; refine Wo rfl (opv_move (v := .bool _) rfl) ?_; refine Wo_skip rfl ?_
                refine Wo_skip rfl ?_; refine Wo_skip rfl ?_; refine Wo_skip rfl ?_; refine Wo rfl (opv_pick_t (v := .bool _) rfl rfl) ?_; refine Wo_nil ?_; refine W_cond_true rfl ?_; refine W_seq ?_; refine W_region rfl ?_
                refine Wo rfl (opv_assign (v := .int _ _) rfl) ?_; refine Wo_nil ?_; refine W_ret ?_; exact ⟨rfl, (E1.trans E2)⟩; contradiction; (exfalso; omega)
            | some p2 =>
              obtain ⟨g, r3⟩ := p2
              have e2 : endV r2 s.length = ((s.length - r3.length : Nat) : Int) := by rw [endV, hp2]
              have hd3 := pre_some hp2
              have hl3 : r2.length = g.enc.length + r3.length := by rw [hd3]; simp
              have hdm2 : s.drop (s.length - r3.length) = r3 := by
                have : s.length - r3.length = (q + 1) + g.enc.length := by omega
                rw [this, ← List.drop_drop, ← hd2, hd3]; simp
              rw [e2] at ih2
              have hm2 : s.length - r3.length + r3.length = s.length := by omega
              clear e2 hl3 hd3 hl2
              generalize s.length - r3.length = z at ih2 hdm2 hm2
              cases r3 with
              | nil =>
                have e : endV (40 :: r) s.length = -1 := by rw [endV, pre_br4 hp hp2 (by intro r4 h; cases h)]
                rw [e]
                simp only [List.length_nil] at hm2
                clear ed2 hd1 hd2 hdm hdm2 hr hc ed e
                refine fn_of_W1 Try.func49 rfl Try.results49 Try.ntmps49 rfl ?_
                focus
                  refine W_seq ?_; refine W_region rfl ?_; refine Wo rfl (opv_assign (v := .int _ _) rfl) ?_; refine Wo_nil ?_; refine W_seq ?_; refine W_seq ?_; refine W_region rfl ?_; refine Wo rfl (opv_move (v := .int _ _) rfl) ?_
                  refine Wo rfl (opv_move (v := .string _) rfl) ?_; refine Wo rfl (opv_len_str Try.underlying9 rfl) ?_; refine Wo rfl (opv_geq rfl rfl) ?_; refine Wo_nil ?_; refine W_cond_dec rfl (fun h1 => ?_) (fun h1 => ?_); (exfalso; omega)
                  refine W_skip ?_; refine W_seq ?_; refine W_seq ?_; refine W_region rfl ?_; refine Wo rfl (opv_move (v := .string _) rfl) ?_; refine Wo rfl (opv_move (v := .int _ _) rfl) ?_
                  refine Wo rfl (opv_index_str Try.underlying9 rfl rfl (by omega)) ?_; refine Wo_nil ?_; refine W_block ?_; refine W_seq ?_; refine W_region rfl ?_; refine Wo rfl (opv_eql rfl rfl) ?_; refine Wo rfl (opv_assign (v := .bool _) rfl) ?_
                  refine Wo_nil ?_; refine W_cond_dec rfl (fun h2 => ?_) (fun h2 => ?_); (exfalso; omega); refine W_seq ?_; refine W_seq ?_; refine W_region rfl ?_; refine Wo rfl (opv_eql rfl rfl) ?_; refine Wo rfl (opv_assign (v := .bool _) rfl) ?_
                  refine Wo_nil ?_; refine W_cond_dec rfl (fun h3 => ?_) (fun h3 => ?_); (exfalso; omega); refine W_seq ?_; refine W_region rfl ?_; refine Wo rfl (opv_eql rfl rfl) ?_; refine Wo rfl (opv_assign (v := .bool _) rfl) ?_; refine Wo_nil ?_
                  refine W_cond_dec rfl (fun h4 => ?_) (fun h4 => ?_); (exfalso; omega); refine W_region rfl ?_; refine Wo rfl (opv_eql rfl rfl) ?_; refine Wo rfl (opv_assign (v := .bool _) rfl) ?_; refine Wo_nil ?_
                  refine W_cond_dec rfl (fun h5 => ?_) (fun h5 => ?_); (exfalso; omega); refine W_seq ?_; refine W_region rfl ?_; refine Wo rfl (opv_eql rfl rfl) ?_; refine Wo rfl (opv_assign (v := .bool _) rfl) ?_; refine Wo_nil ?_
                  refine W_cond_dec rfl (fun h6 => ?_) (fun h6 => ?_); refine W_seq ?_; refine W_region rfl ?_; refine Wo rfl (opv_move (v := .string _) rfl) ?_; refine Wo rfl (opv_move (v := .int _ _) rfl) ?_
                  refine Wo rfl (opv_add rfl rfl (by omega)) ?_; refine Wo_call rfl (opc2 (a := .string _) (b := .int _ _) Try.call49 rfl rfl) (ih1 _) ?_; rintro _ w1 ⟨rfl, E1⟩; have hs1 := E1.size; refine Wo rfl (opv_assign (v := .int _ _) rfl) ?_
                  refine Wo_nil ?_; refine W_seq ?_; refine W_seq ?_; refine W_region rfl ?_; refine Wo rfl (opv_move (v := .int _ _) rfl) ?_; refine Wo rfl (opv_lss rfl rfl) ?_
                  refine Wo_split_dec rfl (opv_move (v := .bool _) rfl) (fun h7 => ?_) (fun h7 => ?_); contradiction; refine Wo rfl (opv_move (v := .int _ _) rfl) ?_; refine Wo rfl (opv_move (v := .string _) rfl) ?_
                  refine Wo rfl (opv_len_str Try.underlying9 rfl) ?_; refine Wo rfl (opv_geq rfl rfl) ?_; refine Wo rfl (opv_pick_f (v := .bool _) rfl rfl) ?_; refine Wo_split_dec rfl (opv_move (v := .bool _) rfl) (fun h8 => ?_) (fun h8 => ?_)
                  (exfalso; omega); refine Wo rfl (opv_move (v := .string _) rfl) ?_; refine Wo rfl (opv_move (v := .int _ _) rfl) ?_; refine Wo rfl (opv_index_str Try.underlying9 rfl rfl (by omega)) ?_; refine Wo rfl (opv_neq rfl rfl) ?_
                  refine Wo_split_ndec rfl (opv_move (v := .bool _) rfl) (fun h9 => ?_) (fun h9 => ?_); refine Wo rfl (opv_move (v := .string _) rfl) ?_; refine Wo rfl (opv_move (v := .int _ _) rfl) ?_
                  refine Wo rfl (opv_index_str Try.underlying9 rfl rfl (by omega)) ?_; refine Wo rfl (opv_neq rfl rfl) ?_; refine Wo rfl (opv_pick_t (v := .bool _) rfl rfl) ?_; refine Wo rfl (opv_pick_f (v := .bool _) rfl rfl) ?_; refine Wo_nil ?_
                  refine W_cond_ndec rfl (fun h10 => ?_) (fun h10 => ?_); (exfalso; omega); refine W_skip ?_; refine W_seq ?_; refine W_region rfl ?_; refine Wo rfl (opv_move (v := .string _) rfl) ?_; refine Wo rfl (opv_move (v := .int _ _) rfl) ?_
                  refine Wo rfl (opv_add rfl rfl (by omega)) ?_; refine Wo_call rfl (opc2 (a := .string _) (b := .int _ _) Try.call49 rfl rfl) (ih2 _) ?_; rintro _ w2 ⟨rfl, E2⟩; have hs2 := E2.size; refine Wo rfl (opv_assign (v := .int _ _) rfl) ?_
                  refine Wo_nil ?_; refine W_seq ?_; refine W_seq ?_; refine W_region rfl ?_; refine Wo rfl (opv_move (v := .int _ _) rfl) ?_; refine Wo rfl (opv_lss rfl rfl) ?_
                  refine Wo_split_dec rfl (opv_move (v := .bool _) rfl) (fun h11 => ?_) (fun h11 => ?_); contradiction; refine Wo rfl (opv_move (v := .int _ _) rfl) ?_; refine Wo rfl (opv_move (v := .string _) rfl) ?_
                  refine Wo rfl (opv_len_str Try.underlying9 rfl) ?_; refine Wo rfl (opv_geq rfl rfl) ?_; refine Wo rfl (opv_pick_f (v := .bool _) rfl rfl) ?_; refine Wo_split_dec rfl (opv_move (v := .bool _) rfl) (fun h12 => ?_) (fun h12 => ?_)
                  refine Wo_skip rfl ?_; refine Wo_skip rfl ?_; refine Wo_skip rfl ?_; refine Wo_skip rfl ?_; refine Wo rfl (opv_pick_t (v := .bool _) rfl rfl) ?_; refine Wo_nil ?_; refine W_cond_true rfl ?_; refine W_seq ?_; refine W_region rfl ?_
                  refine Wo rfl (opv_assign (v := .int _ _) rfl) ?_; refine Wo_nil ?_; refine W_ret ?_; exact ⟨rfl, (E1.trans E2)⟩; (exfalso; omega); refine Wo_skip rfl ?_; refine Wo_skip rfl ?_; refine Wo_skip rfl ?_; refine Wo_skip rfl ?_
                  refine Wo rfl (opv_pick_f (v := .bool _) rfl rfl) ?_; refine Wo rfl (opv_pick_f (v := .bool _) rfl rfl) ?_; refine Wo_nil ?_; refine W_cond_false rfl ?_; refine W_skip ?_; refine W_seq ?_; refine W_region rfl ?_
                  refine Wo rfl (opv_move (v := .string _) rfl) ?_; refine Wo rfl (opv_move (v := .int _ _) rfl) ?_; refine Wo rfl (opv_add rfl rfl (by omega)) ?_
                  refine Wo_call rfl (opc2 (a := .string _) (b := .int _ _) Try.call49 rfl rfl) (ih2 _) ?_; rintro _ w2 ⟨rfl, E2⟩; have hs2 := E2.size; refine Wo rfl (opv_assign (v := .int _ _) rfl) ?_; refine Wo_nil ?_; refine W_seq ?_
                  refine W_seq ?_; refine W_region rfl ?_; refine Wo rfl (opv_move (v := .int _ _) rfl) ?_; refine Wo rfl (opv_lss rfl rfl) ?_; refine Wo_split_dec rfl (opv_move (v := .bool _) rfl) (fun h10 => ?_) (fun h10 => ?_); contradiction
                  refine Wo rfl (opv_move (v := .int _ _) rfl) ?_; refine Wo rfl (opv_move (v := .string _) rfl) ?_; refine Wo rfl (opv_len_str Try.underlying9 rfl) ?_; refine Wo rfl (opv_geq rfl rfl) ?_
                  refine Wo rfl (opv_pick_f (v := .bool _) rfl rfl) ?_; refine Wo_split_dec rfl (opv_move (v := .bool _) rfl) (fun h11 => ?_) (fun h11 => ?_); refine Wo_skip rfl ?_; refine Wo_skip rfl ?_; refine Wo_skip rfl ?_; refine Wo_skip rfl ?_
                  refine Wo rfl (opv_pick_t (v := .bool _) rfl rfl) ?_; refine Wo_nil ?_; refine W_cond_true rfl ?_; refine W_seq ?_; refine W_region rfl ?_; refine Wo rfl (opv_assign (v := .int _ _) rfl) ?_; refine Wo_nil ?_; refine W_ret ?_
                  exact ⟨rfl, (E1.trans E2)⟩; (exfalso; omega); (exfalso; omega)
              | cons d3 r4 =>
                simp only [List.length_cons] at hm2
                have ed3 := drop_cons (show z < s.length by omega)
                rw [hdm2] at ed3
                obtain ⟨hd3, hd4⟩ := List.cons.inj ed3
                by_cases c5 : d3 = 41
                · subst c5
                  have hn3 : (s.getD z 0).toNat = 41 := by rw [← hd3]; rfl
                  have e : endV (40 :: r) s.length = (z : Int) + 1 := by
                    have : pre (40 :: r) = some (if d = 38 then Fm.and f g else Fm.or f g, r4) := by
                      rcases c4 with rfl | rfl
                      · exact pre_and hp hp2
                      · exact pre_or hp hp2
                    rw [endV, this]
                    simp only
                    omega
                  rw [e]
                  clear ed2 hd1 hd2 hdm hdm2 hr hc ed e ed3 hd3 hd4
                  refine fn_of_W1 Try.func49 rfl Try.results49 Try.ntmps49 rfl ?_
                  focus
                    refine W_seq ?_; refine W_region rfl ?_; refine Wo rfl (opv_assign (v := .int _ _) rfl) ?_; refine Wo_nil ?_; refine W_seq ?_; refine W_seq ?_; refine W_region rfl ?_; refine Wo rfl (opv_move (v := .int _ _) rfl) ?_
                    refine Wo rfl (opv_move (v := .string _) rfl) ?_; refine Wo rfl (opv_len_str Try.underlying9 rfl) ?_; refine Wo rfl (opv_geq rfl rfl) ?_; refine Wo_nil ?_; refine W_cond_dec rfl (fun h1 => ?_) (fun h1 => ?_); (exfalso; omega)
                    refine W_skip ?_; refine W_seq ?_; refine W_seq ?_; refine W_region rfl ?_; refine Wo rfl (opv_move (v := .string _) rfl) ?_; refine Wo rfl (opv_move (v := .int _ _) rfl) ?_
                    refine Wo rfl (opv_index_str Try.underlying9 rfl rfl (by omega)) ?_; refine Wo_nil ?_; refine W_block ?_; refine W_seq ?_; refine W_region rfl ?_; refine Wo rfl (opv_eql rfl rfl) ?_; refine Wo rfl (opv_assign (v := .bool _) rfl) ?_
                    refine Wo_nil ?_; refine W_cond_dec rfl (fun h2 => ?_) (fun h2 => ?_); (exfalso; omega); refine W_seq ?_; refine W_seq ?_; refine W_region rfl ?_; refine Wo rfl (opv_eql rfl rfl) ?_; refine Wo rfl (opv_assign (v := .bool _) rfl) ?_
                    refine Wo_nil ?_; refine W_cond_dec rfl (fun h3 => ?_) (fun h3 => ?_); (exfalso; omega); refine W_seq ?_; refine W_region rfl ?_; refine Wo rfl (opv_eql rfl rfl) ?_; refine Wo rfl (opv_assign (v := .bool _) rfl) ?_; refine Wo_nil ?_
                    refine W_cond_dec rfl (fun h4 => ?_) (fun h4 => ?_); (exfalso; omega); refine W_region rfl ?_; refine Wo rfl (opv_eql rfl rfl) ?_; refine Wo rfl (opv_assign (v := .bool _) rfl) ?_; refine Wo_nil ?_
                    refine W_cond_dec rfl (fun h5 => ?_) (fun h5 => ?_); (exfalso; omega); refine W_seq ?_; refine W_region rfl ?_; refine Wo rfl (opv_eql rfl rfl) ?_; refine Wo rfl (opv_assign (v := .bool _) rfl) ?_; refine Wo_nil ?_
                    refine W_cond_dec rfl (fun h6 => ?_) (fun h6 => ?_); refine W_seq ?_; refine W_region rfl ?_; refine Wo rfl (opv_move (v := .string _) rfl) ?_; refine Wo rfl (opv_move (v := .int _ _) rfl) ?_
                    refine Wo rfl (opv_add rfl rfl (by omega)) ?_; refine Wo_call rfl (opc2 (a := .string _) (b := .int _ _) Try.call49 rfl rfl) (ih1 _) ?_; rintro _ w1 ⟨rfl, E1⟩; have hs1 := E1.size; refine Wo rfl (opv_assign (v := .int _ _) rfl) ?_
                    refine Wo_nil ?_; refine W_seq ?_; refine W_seq ?_; refine W_region rfl ?_; refine Wo rfl (opv_move (v := .int _ _) rfl) ?_; refine Wo rfl (opv_lss rfl rfl) ?_
                    refine Wo_split_dec rfl (opv_move (v := .bool _) rfl) (fun h7 => ?_) (fun h7 => ?_); contradiction; refine Wo rfl (opv_move (v := .int _ _) rfl) ?_; refine Wo rfl (opv_move (v := .string _) rfl) ?_
                    refine Wo rfl (opv_len_str Try.underlying9 rfl) ?_; refine Wo rfl (opv_geq rfl rfl) ?_; refine Wo rfl (opv_pick_f (v := .bool _) rfl rfl) ?_; refine Wo_split_dec rfl (opv_move (v := .bool _) rfl) (fun h8 => ?_) (fun h8 => ?_)
                    (exfalso; omega); refine Wo rfl (opv_move (v := .string _) rfl) ?_; refine Wo rfl (opv_move (v := .int _ _) rfl) ?_; refine Wo rfl (opv_index_str Try.underlying9 rfl rfl (by omega)) ?_; refine Wo rfl (opv_neq rfl rfl) ?_
                    refine Wo_split_ndec rfl (opv_move (v := .bool _) rfl) (fun h9 => ?_) (fun h9 => ?_); refine Wo rfl (opv_move (v := .string _) rfl) ?_; refine Wo rfl (opv_move (v := .int _ _) rfl) ?_
                    refine Wo rfl (opv_index_str Try.underlying9 rfl rfl (by omega)) ?_; refine Wo rfl (opv_neq rfl rfl) ?_; refine Wo rfl (opv_pick_t (v := .bool _) rfl rfl) ?_; refine Wo rfl (opv_pick_f (v := .bool _) rfl rfl) ?_; refine Wo_nil ?_
                    refine W_cond_ndec rfl (fun h10 => ?_) (fun h10 => ?_); (exfalso; omega); refine W_skip ?_; refine W_seq ?_; refine W_region rfl ?_; refine Wo rfl (opv_move (v := .string _) rfl) ?_; refine Wo rfl (opv_move (v := .int _ _) rfl) ?_
                    refine Wo rfl (opv_add rfl rfl (by omega)) ?_; refine Wo_call rfl (opc2 (a := .string _) (b := .int _ _) Try.call49 rfl rfl) (ih2 _) ?_; rintro _ w2 ⟨rfl, E2⟩; have hs2 := E2.size; refine Wo rfl (opv_assign (v := .int _ _) rfl) ?_
                    refine Wo_nil ?_; refine W_seq ?_; refine W_seq ?_; refine W_region rfl ?_; refine Wo rfl (opv_move (v := .int _ _) rfl) ?_; refine Wo rfl (opv_lss rfl rfl) ?_
                    refine Wo_split_dec rfl (opv_move (v := .bool _) rfl) (fun h11 => ?_) (fun h11 => ?_); contradiction; refine Wo rfl (opv_move (v := .int _ _) rfl) ?_; refine Wo rfl (opv_move (v := .string _) rfl) ?_
                    refine Wo rfl (opv_len_str Try.underlying9 rfl) ?_; refine Wo rfl (opv_geq rfl rfl) ?_; refine Wo rfl (opv_pick_f (v := .bool _) rfl rfl) ?_; refine Wo_split_dec rfl (opv_move (v := .bool _) rfl) (fun h12 => ?_) (fun h12 => ?_)
                    (exfalso; omega); refine Wo rfl (opv_move (v := .string _) rfl) ?_; refine Wo rfl (opv_move (v := .int _ _) rfl) ?_; refine Wo rfl (opv_index_str Try.underlying9 rfl rfl (by omega)) ?_; refine Wo rfl (opv_neq rfl rfl) ?_
                    refine Wo rfl (opv_pick_f (v := .bool _) rfl rfl) ?_; refine Wo_nil ?_; refine W_cond_ndec rfl (fun h13 => ?_) (fun h13 => ?_); (exfalso; omega); refine W_skip ?_; refine W_seq ?_; refine W_region rfl ?_
                    refine Wo rfl (opv_move (v := .int _ _) rfl) ?_; refine Wo rfl (opv_add rfl rfl (by omega)) ?_; refine Wo rfl (opv_assign (v := .int _ _) rfl) ?_; refine Wo_nil ?_; refine W_ret ?_; exact ⟨rfl, (E1.trans E2)⟩; refine Wo_skip rfl ?_
                    refine Wo_skip rfl ?_; refine Wo_skip rfl ?_; refine Wo_skip rfl ?_; refine Wo rfl (opv_pick_f (v := .bool _) rfl rfl) ?_; refine Wo rfl (opv_pick_f (v := .bool _) rfl rfl) ?_; refine Wo_nil ?_; refine W_cond_false rfl ?_
                    refine W_skip ?_; refine W_seq ?_; refine W_region rfl ?_; refine Wo rfl (opv_move (v := .string _) rfl) ?_; refine Wo rfl (opv_move (v := .int _ _) rfl) ?_; refine Wo rfl (opv_add rfl rfl (by omega)) ?_
                    refine Wo_call rfl (opc2 (a := .string _) (b := .int _ _) Try.call49 rfl rfl) (ih2 _) ?_; rintro _ w2 ⟨rfl, E2⟩; have hs2 := E2.size; refine Wo rfl (opv_assign (v := .int _ _) rfl) ?_; refine Wo_nil ?_; refine W_seq ?_
                    refine W_seq ?_; refine W_region rfl ?_; refine Wo rfl (opv_move (v := .int _ _) rfl) ?_; refine Wo rfl (opv_lss rfl rfl) ?_; refine Wo_split_dec rfl (opv_move (v := .bool _) rfl) (fun h10 => ?_) (fun h10 => ?_); contradiction
                    refine Wo rfl (opv_move (v := .int _ _) rfl) ?_; refine Wo rfl (opv_move (v := .string _) rfl) ?_; refine Wo rfl (opv_len_str Try.underlying9 rfl) ?_; refine Wo rfl (opv_geq rfl rfl) ?_
                    refine Wo rfl (opv_pick_f (v := .bool _) rfl rfl) ?_; refine Wo_split_dec rfl (opv_move (v := .bool _) rfl) (fun h11 => ?_) (fun h11 => ?_); (exfalso; omega); refine Wo rfl (opv_move (v := .string _) rfl) ?_
                    refine Wo rfl (opv_move (v := .int _ _) rfl) ?_; refine Wo rfl (opv_index_str Try.underlying9 rfl rfl (by omega)) ?_; refine Wo rfl (opv_neq rfl rfl) ?_; refine Wo rfl (opv_pick_f (v := .bool _) rfl rfl) ?_; refine Wo_nil ?_
                    refine W_cond_ndec rfl (fun h12 => ?_) (fun h12 => ?_); (exfalso; omega); refine W_skip ?_; refine W_seq ?_; refine W_region rfl ?_; refine Wo rfl (opv_move (v := .int _ _) rfl) ?_; refine Wo rfl (opv_add rfl rfl (by omega)) ?_
                    refine Wo rfl (opv_assign (v := .int _ _) rfl) ?_; refine Wo_nil ?_; refine W_ret ?_; exact ⟨rfl, (E1.trans E2)⟩; (exfalso; omega)
                · have hn3 : (s.getD z 0).toNat ≠ 41 := by rw [← hd3]; exact fun h => c5 (UInt8.toNat_inj.1 h)
                  have e : endV (40 :: r) s.length = -1 := by rw [endV, pre_br4 hp hp2 (by intro r4 h; exact c5 (List.cons.inj h).1)]
                  rw [e]
                  clear ed2 hd1 hd2 hdm hdm2 hr hc ed e ed3 hd3 hd4
                  refine fn_of_W1 Try.func49 rfl Try.results49 Try.ntmps49 rfl ?_
                  focus
                    refine W_seq ?_; refine W_region rfl ?_; refine Wo rfl (opv_assign (v := .int _ _) rfl) ?_; refine Wo_nil ?_; refine W_seq ?_; refine W_seq ?_; refine W_region rfl ?_; refine Wo rfl (opv_move (v := .int _ _) rfl) ?_
                    refine Wo rfl (opv_move (v := .string _) rfl) ?_; refine Wo rfl (opv_len_str Try.underlying9 rfl) ?_; refine Wo rfl (opv_geq rfl rfl) ?_; refine Wo_nil ?_; refine W_cond_dec rfl (fun h1 => ?_) (fun h1 => ?_); (exfalso; omega)
                    refine W_skip ?_; refine W_seq ?_; refine W_seq ?_; refine W_region rfl ?_; refine Wo rfl (opv_move (v := .string _) rfl) ?_; refine Wo rfl (opv_move (v := .int _ _) rfl) ?_
                    refine Wo rfl (opv_index_str Try.underlying9 rfl rfl (by omega)) ?_; refine Wo_nil ?_; refine W_block ?_; refine W_seq ?_; refine W_region rfl ?_; refine Wo rfl (opv_eql rfl rfl) ?_; refine Wo rfl (opv_assign (v := .bool _) rfl) ?_
                    refine Wo_nil ?_; refine W_cond_dec rfl (fun h2 => ?_) (fun h2 => ?_); (exfalso; omega); refine W_seq ?_; refine W_seq ?_; refine W_region rfl ?_; refine Wo rfl (opv_eql rfl rfl) ?_; refine Wo rfl (opv_assign (v := .bool _) rfl) ?_
                    refine Wo_nil ?_; refine W_cond_dec rfl (fun h3 => ?_) (fun h3 => ?_); (exfalso; omega); refine W_seq ?_; refine W_region rfl ?_; refine Wo rfl (opv_eql rfl rfl) ?_; refine Wo rfl (opv_assign (v := .bool _) rfl) ?_; refine Wo_nil ?_
                    refine W_cond_dec rfl (fun h4 => ?_) (fun h4 => ?_); (exfalso; omega); refine W_region rfl ?_; refine Wo rfl (opv_eql rfl rfl) ?_; refine Wo rfl (opv_assign (v := .bool _) rfl) ?_; refine Wo_nil ?_
                    refine W_cond_dec rfl (fun h5 => ?_) (fun h5 => ?_); (exfalso; omega); refine W_seq ?_; refine W_region rfl ?_; refine Wo rfl (opv_eql rfl rfl) ?_; refine Wo rfl (opv_assign (v := .bool _) rfl) ?_; refine Wo_nil ?_
                    refine W_cond_dec rfl (fun h6 => ?_) (fun h6 => ?_); refine W_seq ?_; refine W_region rfl ?_; refine Wo rfl (opv_move (v := .string _) rfl) ?_; refine Wo rfl (opv_move (v := .int _ _) rfl) ?_
                    refine Wo rfl (opv_add rfl rfl (by omega)) ?_; refine Wo_call rfl (opc2 (a := .string _) (b := .int _ _) Try.call49 rfl rfl) (ih1 _) ?_; rintro _ w1 ⟨rfl, E1⟩; have hs1 := E1.size; refine Wo rfl (opv_assign (v := .int _ _) rfl) ?_
                    refine Wo_nil ?_; refine W_seq ?_; refine W_seq ?_; refine W_region rfl ?_; refine Wo rfl (opv_move (v := .int _ _) rfl) ?_; refine Wo rfl (opv_lss rfl rfl) ?_
                    refine Wo_split_dec rfl (opv_move (v := .bool _) rfl) (fun h7 => ?_) (fun h7 => ?_); contradiction; refine Wo rfl (opv_move (v := .int _ _) rfl) ?_; refine Wo rfl (opv_move (v := .string _) rfl) ?_
                    refine Wo rfl (opv_len_str Try.underlying9 rfl) ?_; refine Wo rfl (opv_geq rfl rfl) ?_; refine Wo rfl (opv_pick_f (v := .bool _) rfl rfl) ?_; refine Wo_split_dec rfl (opv_move (v := .bool _) rfl) (fun h8 => ?_) (fun h8 => ?_)
                    (exfalso; omega); refine Wo rfl (opv_move (v := .string _) rfl) ?_; refine Wo rfl (opv_move (v := .int _ _) rfl) ?_; refine Wo rfl (opv_index_str Try.underlying9 rfl rfl (by omega)) ?_; refine Wo rfl (opv_neq rfl rfl) ?_
                    refine Wo_split_ndec rfl (opv_move (v := .bool _) rfl) (fun h9 => ?_) (fun h9 => ?_); refine Wo rfl (opv_move (v := .string _) rfl) ?_; refine Wo rfl (opv_move (v := .int _ _) rfl) ?_
                    refine Wo rfl (opv_index_str Try.underlying9 rfl rfl (by omega)) ?_; refine Wo rfl (opv_neq rfl rfl) ?_; refine Wo rfl (opv_pick_t (v := .bool _) rfl rfl) ?_; refine Wo rfl (opv_pick_f (v := .bool _) rfl rfl) ?_; refine Wo_nil ?_
                    refine W_cond_ndec rfl (fun h10 => ?_) (fun h10 => ?_); (exfalso; omega); refine W_skip ?_; refine W_seq ?_; refine W_region rfl ?_; refine Wo rfl (opv_move (v := .string _) rfl) ?_; refine Wo rfl (opv_move (v := .int _ _) rfl) ?_
                    refine Wo rfl (opv_add rfl rfl (by omega)) ?_; refine Wo_call rfl (opc2 (a := .string _) (b := .int _ _) Try.call49 rfl rfl) (ih2 _) ?_; rintro _ w2 ⟨rfl, E2⟩; have hs2 := E2.size; refine Wo rfl (opv_assign (v := .int _ _) rfl) ?_
                    refine Wo_nil ?_; refine W_seq ?_; refine W_seq ?_; refine W_region rfl ?_; refine Wo rfl (opv_move (v := .int _ _) rfl) ?_; refine Wo rfl (opv_lss rfl rfl) ?_
                    refine Wo_split_dec rfl (opv_move (v := .bool _) rfl) (fun h11 => ?_) (fun h11 => ?_); contradiction; refine Wo rfl (opv_move (v := .int _ _) rfl) ?_; refine Wo rfl (opv_move (v := .string _) rfl) ?_
                    refine Wo rfl (opv_len_str Try.underlying9 rfl) ?_; refine Wo rfl (opv_geq rfl rfl) ?_; refine Wo rfl (opv_pick_f (v := .bool _) rfl rfl) ?_; refine Wo_split_dec rfl (opv_move (v := .bool _) rfl) (fun h12 => ?_) (fun h12 => ?_)
                    (exfalso; omega); refine Wo rfl (opv_move (v := .string _) rfl) ?_; refine Wo rfl (opv_move (v := .int _ _) rfl) ?_; refine Wo rfl (opv_index_str Try.underlying9 rfl rfl (by omega)) ?_; refine Wo rfl (opv_neq rfl rfl) ?_
                    refine Wo rfl (opv_pick_f (v := .bool _) rfl rfl) ?_; refine Wo_nil ?_; refine W_cond_ndec rfl (fun h13 => ?_) (fun h13 => ?_); refine W_seq ?_; refine W_region rfl ?_; refine Wo rfl (opv_assign (v := .int _ _) rfl) ?_
                    refine Wo_nil ?_; refine W_ret ?_; exact ⟨rfl, (E1.trans E2)⟩; (exfalso; omega); refine Wo_skip rfl ?_; refine Wo_skip rfl ?_; refine Wo_skip rfl ?_; refine Wo_skip rfl ?_; refine Wo rfl (opv_pick_f (v := .bool _) rfl rfl) ?_
                    refine Wo rfl (opv_pick_f (v := .bool _) rfl rfl) ?_; refine Wo_nil ?_; refine W_cond_false rfl ?_; refine W_skip ?_; refine W_seq ?_; refine W_region rfl ?_; refine Wo rfl (opv_move (v := .string _) rfl) ?_
                    refine Wo rfl (opv_move (v := .int _ _) rfl) ?_; refine Wo rfl (opv_add rfl rfl (by omega)) ?_; refine Wo_call rfl (opc2 (a := .string _) (b := .int _ _) Try.call49 rfl rfl) (ih2 _) ?_; rintro _ w2 ⟨rfl, E2⟩; have hs2 := E2.size
                    refine Wo rfl (opv_assign (v := .int _ _) rfl) ?_; refine Wo_nil ?_; refine W_seq ?_; refine W_seq ?_; refine W_region rfl ?_; refine Wo rfl (opv_move (v := .int _ _) rfl) ?_; refine Wo rfl (opv_lss rfl rfl) ?_
                    refine Wo_split_dec rfl (opv_move (v := .bool _) rfl) (fun h10 => ?_) (fun h10 => ?_); contradiction; refine Wo rfl (opv_move (v := .int _ _) rfl) ?_; refine Wo rfl (opv_move (v := .string _) rfl) ?_
                    refine Wo rfl (opv_len_str Try.underlying9 rfl) ?_; refine Wo rfl (opv_geq rfl rfl) ?_; refine Wo rfl (opv_pick_f (v := .bool _) rfl rfl) ?_; refine Wo_split_dec rfl (opv_move (v := .bool _) rfl) (fun h11 => ?_) (fun h11 => ?_)
                    (exfalso; omega); refine Wo rfl (opv_move (v := .string _) rfl) ?_; refine Wo rfl (opv_move (v := .int _ _) rfl) ?_; refine Wo rfl (opv_index_str Try.underlying9 rfl rfl (by omega)) ?_; refine Wo rfl (opv_neq rfl rfl) ?_
                    refine Wo rfl (opv_pick_f (v := .bool _) rfl rfl) ?_; refine Wo_nil ?_; refine W_cond_ndec rfl (fun h12 => ?_) (fun h12 => ?_); refine W_seq ?_; refine W_region rfl ?_; refine Wo rfl (opv_assign (v := .int _ _) rfl) ?_
                    refine Wo_nil ?_; refine W_ret ?_; exact ⟨rfl, (E1.trans E2)⟩; (exfalso; omega); (exfalso; omega)
          · have hn2 : (s.getD q 0).toNat ≠ 38 ∧ (s.getD q 0).toNat ≠ 124 := by
              rw [← hd1]; exact ⟨fun h => c4 (.inl (UInt8.toNat_inj.1 h)), fun h => c4 (.inr (UInt8.toNat_inj.1 h))⟩
            have e : endV (40 :: r) s.length = -1 := by
              rw [endV, pre_br2 hp (by
                intro c r2 h
                obtain ⟨rfl, _⟩ := List.cons.inj h
                exact ⟨fun h => c4 (.inl h), fun h => c4 (.inr h)⟩)]
            rw [e]
            clear ed2 hd1 hd2 hdm hr hc ed e
            refine fn_of_W1 Try.func49 rfl Try.results49 Try.ntmps49 rfl ?_
            focus
              refine W_seq ?_; refine W_region rfl ?_; refine Wo rfl (opv_assign (v := .int _ _) rfl) ?_; refine Wo_nil ?_; refine W_seq ?_; refine W_seq ?_; refine W_region rfl ?_; refine Wo rfl (opv_move (v := .int _ _) rfl) ?_
              refine Wo rfl (opv_move (v := .string _) rfl) ?_; refine Wo rfl (opv_len_str Try.underlying9 rfl) ?_; refine Wo rfl (opv_geq rfl rfl) ?_; refine Wo_nil ?_; refine W_cond_dec rfl (fun h1 => ?_) (fun h1 => ?_); (exfalso; omega)
              refine W_skip ?_; refine W_seq ?_; refine W_seq ?_; refine W_region rfl ?_; refine Wo rfl (opv_move (v := .string _) rfl) ?_; refine Wo rfl (opv_move (v := .int _ _) rfl) ?_
              refine Wo rfl (opv_index_str Try.underlying9 rfl rfl (by omega)) ?_; refine Wo_nil ?_; refine W_block ?_; refine W_seq ?_; refine W_region rfl ?_; refine Wo rfl (opv_eql rfl rfl) ?_; refine Wo rfl (opv_assign (v := .bool _) rfl) ?_
              refine Wo_nil ?_; refine W_cond_dec rfl (fun h2 => ?_) (fun h2 => ?_); (exfalso; omega); refine W_seq ?_; refine W_seq ?_; refine W_region rfl ?_; refine Wo rfl (opv_eql rfl rfl) ?_; refine Wo rfl (opv_assign (v := .bool _) rfl) ?_
              refine Wo_nil ?_; refine W_cond_dec rfl (fun h3 => ?_) (fun h3 => ?_); (exfalso; omega); refine W_seq ?_; refine W_region rfl ?_; refine Wo rfl (opv_eql rfl rfl) ?_; refine Wo rfl (opv_assign (v := .bool _) rfl) ?_; refine Wo_nil ?_
              refine W_cond_dec rfl (fun h4 => ?_) (fun h4 => ?_); (exfalso; omega); refine W_region rfl ?_; refine Wo rfl (opv_eql rfl rfl) ?_; refine Wo rfl (opv_assign (v := .bool _) rfl) ?_; refine Wo_nil ?_
              refine W_cond_dec rfl (fun h5 => ?_) (fun h5 => ?_); (exfalso; omega); refine W_seq ?_; refine W_region rfl ?_; refine Wo rfl (opv_eql rfl rfl) ?_; refine Wo rfl (opv_assign (v := .bool _) rfl) ?_; refine Wo_nil ?_
              refine W_cond_dec rfl (fun h6 => ?_) (fun h6 => ?_); refine W_seq ?_; refine W_region rfl ?_; refine Wo rfl (opv_move (v := .string _) rfl) ?_; refine Wo rfl (opv_move (v := .int _ _) rfl) ?_
              refine Wo rfl (opv_add rfl rfl (by omega)) ?_; refine Wo_call rfl (opc2 (a := .string _) (b := .int _ _) Try.call49 rfl rfl) (ih1 _) ?_; rintro _ w1 ⟨rfl, E1⟩; have hs1 := E1.size; refine Wo rfl (opv_assign (v := .int _ _) rfl) ?_
              refine Wo_nil ?_; refine W_seq ?_; refine W_seq ?_; refine W_region rfl ?_; refine Wo rfl (opv_move (v := .int _ _) rfl) ?_; refine Wo rfl (opv_lss rfl rfl) ?_
              refine Wo_split_dec rfl (opv_move (v := .bool _) rfl) (fun h7 => ?_) (fun h7 => ?_); contradiction; refine Wo rfl (opv_move (v := .int _ _) rfl) ?_; refine Wo rfl (opv_move (v := .string _) rfl) ?_
              refine Wo rfl (opv_len_str Try.underlying9 rfl) ?_; refine Wo rfl (opv_geq rfl rfl) ?_; refine Wo rfl (opv_pick_f (v := .bool _) rfl rfl) ?_; refine Wo_split_dec rfl (opv_move (v := .bool _) rfl) (fun h8 => ?_) (fun h8 => ?_)
              (exfalso; omega); refine Wo rfl (opv_move (v := .string _) rfl) ?_; refine Wo rfl (opv_move (v := .int _ _) rfl) ?_; refine Wo rfl (opv_index_str Try.underlying9 rfl rfl (by omega)) ?_; refine Wo rfl (opv_neq rfl rfl) ?_
              refine Wo_split_ndec rfl (opv_move (v := .bool _) rfl) (fun h9 => ?_) (fun h9 => ?_); refine Wo rfl (opv_move (v := .string _) rfl) ?_; refine Wo rfl (opv_move (v := .int _ _) rfl) ?_
              refine Wo rfl (opv_index_str Try.underlying9 rfl rfl (by omega)) ?_; refine Wo rfl (opv_neq rfl rfl) ?_; refine Wo rfl (opv_pick_t (v := .bool _) rfl rfl) ?_; refine Wo rfl (opv_pick_f (v := .bool _) rfl rfl) ?_; refine Wo_nil ?_
              refine W_cond_ndec rfl (fun h10 => ?_) (fun h10 => ?_); refine W_seq ?_; refine W_region rfl ?_; refine Wo rfl (opv_assign (v := .int _ _) rfl) ?_; refine Wo_nil ?_; refine W_ret ?_; exact ⟨rfl, E1⟩; (exfalso; omega)
              (exfalso; omega); (exfalso; omega)
    · have hn : (s.getD k 0).toNat ≠ 116 ∧ (s.getD k 0).toNat ≠ 33 ∧ (s.getD k 0).toNat ≠ 83 ∧ (s.getD k 0).toNat ≠ 65 ∧ (s.getD k 0).toNat ≠ 40 := by
        rw [hc]
        refine ⟨fun h => c1 (UInt8.toNat_inj.1 h), fun h => c2 (.inl (UInt8.toNat_inj.1 h)), fun h => c2 (.inr (.inl (UInt8.toNat_inj.1 h))), fun h => c2 (.inr (.inr (UInt8.toNat_inj.1 h))), fun h => c3 (UInt8.toNat_inj.1 h)⟩
      have e : endV (c :: r) s.length = -1 := by
        rw [endV, pre_other ⟨c1, fun h => c2 (.inl h), fun h => c2 (.inr (.inl h)), fun h => c2 (.inr (.inr h)), c3⟩]
      rw [e]
      refine fn_of_W1 Try.func49 rfl Try.results49 Try.ntmps49 rfl ?_
      focus
        refine W_seq ?_; refine W_region rfl ?_; refine Wo rfl (opv_assign (v := .int _ _) rfl) ?_; refine Wo_nil ?_; refine W_seq ?_; refine W_seq ?_; refine W_region rfl ?_; refine Wo rfl (opv_move (v := .int _ _) rfl) ?_
        refine Wo rfl (opv_move (v := .string _) rfl) ?_; refine Wo rfl (opv_len_str Try.underlying9 rfl) ?_; refine Wo rfl (opv_geq rfl rfl) ?_; refine Wo_nil ?_; refine W_cond_dec rfl (fun h1 => ?_) (fun h1 => ?_); (exfalso; omega)
        refine W_skip ?_; refine W_seq ?_; refine W_seq ?_; refine W_region rfl ?_; refine Wo rfl (opv_move (v := .string _) rfl) ?_; refine Wo rfl (opv_move (v := .int _ _) rfl) ?_
        refine Wo rfl (opv_index_str Try.underlying9 rfl rfl (by omega)) ?_; refine Wo_nil ?_; refine W_block ?_; refine W_seq ?_; refine W_region rfl ?_; refine Wo rfl (opv_eql rfl rfl) ?_; refine Wo rfl (opv_assign (v := .bool _) rfl) ?_
        refine Wo_nil ?_; refine W_cond_dec rfl (fun h2 => ?_) (fun h2 => ?_); (exfalso; omega); refine W_seq ?_; refine W_seq ?_; refine W_region rfl ?_; refine Wo rfl (opv_eql rfl rfl) ?_; refine Wo rfl (opv_assign (v := .bool _) rfl) ?_
        refine Wo_nil ?_; refine W_cond_dec rfl (fun h3 => ?_) (fun h3 => ?_); (exfalso; omega); refine W_seq ?_; refine W_region rfl ?_; refine Wo rfl (opv_eql rfl rfl) ?_; refine Wo rfl (opv_assign (v := .bool _) rfl) ?_; refine Wo_nil ?_
        refine W_cond_dec rfl (fun h4 => ?_) (fun h4 => ?_); (exfalso; omega); refine W_region rfl ?_; refine Wo rfl (opv_eql rfl rfl) ?_; refine Wo rfl (opv_assign (v := .bool _) rfl) ?_; refine Wo_nil ?_
        refine W_cond_dec rfl (fun h5 => ?_) (fun h5 => ?_); (exfalso; omega); refine W_seq ?_; refine W_region rfl ?_; refine Wo rfl (opv_eql rfl rfl) ?_; refine Wo rfl (opv_assign (v := .bool _) rfl) ?_; refine Wo_nil ?_
        refine W_cond_dec rfl (fun h6 => ?_) (fun h6 => ?_); (exfalso; omega); refine W_skip ?_; refine W_seq ?_; refine W_region rfl ?_; refine Wo rfl (opv_assign (v := .int _ _) rfl) ?_; refine Wo_nil ?_; refine W_ret ?_
        exact ⟨rfl, (Ext.refl _)⟩
end Go.Proofs.Ytjdfnngmbaojjaa
