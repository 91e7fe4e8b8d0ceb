/- Walks of the laws on FormulaOk and FormulaDeep. -/
import Derived.Test.YtjdfnngmbaojjaaHsWFm4
import Derived.Test.YtjdfnngmbaojjaaHsWRdG
namespace Go.Proofs.Ytjdfnngmbaojjaa
open Go.Hs
set_option maxRecDepth 10000
set_option maxHeartbeats 4000000
set_option linter.unusedVariables false

theorem theF_pre {s : List UInt8} {c : UInt8} (k : Fm → Fm) (hk : ∀ f, (k f).enc = c :: f.enc) (hi : ∀ g : Fm, ∀ r, g.enc = c :: r → ∃ f, g = k f) (h : s.length < 60) : theF ([c] ++ s) = (theF s).map k := by
  cases hs : theF s with
  | some f =>
    obtain ⟨rfl, _⟩ := theF_some.1 hs
    exact theF_some.2 ⟨by rw [hk]; rfl, by simp; omega⟩
  | none =>
    cases hc : theF ([c] ++ s) with
    | none => rfl
    | some g =>
      obtain ⟨h1, h2⟩ := theF_some.1 hc
      obtain ⟨f, rfl⟩ := hi g s h1.symm
      rw [hk] at h1
      have h3 : s = f.enc := (List.cons.inj h1).2
      exact absurd h3 (theF_none hs f (by rw [← h3]; omega))
theorem theF_neg {s : List UInt8} (h : s.length < 60) : theF ([33] ++ s) = (theF s).map .neg := theF_pre .neg (fun _ => rfl) (fun g r e => by cases g <;> simp [Fm.enc] at e; exact ⟨_, rfl⟩) h
theorem theF_S {s : List UInt8} (h : s.length < 60) : theF ([83] ++ s) = (theF s).map .S := theF_pre .S (fun _ => rfl) (fun g r e => by cases g <;> simp [Fm.enc] at e; exact ⟨_, rfl⟩) h
theorem theF_A {s : List UInt8} (h : s.length < 60) : theF ([65] ++ s) = (theF s).map .A := theF_pre .A (fun _ => rfl) (fun g r e => by cases g <;> simp [Fm.enc] at e; exact ⟨_, rfl⟩) h


theorem DrawFormulaOk_ok (w : World) (v : Value) (xs : List UInt8) (h : Bytes w v xs) (hc : CapOk v) :
    Does Try.prog 19 [v] w (RetX w str (fun s _ => s.length ≤ 200)) := by
  refine fn_of_W1 Try.func19 rfl Try.results19 Try.ntmps19 rfl ?_
  focus
    refine W_seq ?_; refine W_region rfl ?_; refine Wo rfl (opv_assign (v := .string _) rfl) ?_; refine Wo_nil ?_; refine W_seq ?_; refine W_region rfl ?_; refine Wo rfl (opv_move (v := v) rfl) ?_
    refine Wo_call rfl (opc1 (a := v) Try.call53 rfl) (open_ok _ _ _ (h) (by assumption)) ?_; rintro _ w1 ⟨E1, y1, rfl, hy1⟩; have hs1 := E1.size
    refine Wo_call rfl (opc2 (a := .pointer _) (b := .int _ _) Try.call52 rfl rfl) (formed_ok _ _ (by assumption) (by omega) (by omega)) ?_; rintro _ w2 ⟨y2, rfl, E2, hr1, hy2⟩; (try dsimp only at hy2); have hlhr1 := hr1.lt
    have Ehr1 := hr1.old; have hs2 := E2.size; refine Wo rfl (opv_assign (v := .string _) rfl) ?_; refine Wo_nil ?_; refine W_ret ?_; refine at_ret (v := .string _) rfl ?_; refine ⟨Ehr1, _, rfl, ?_⟩; (try dsimp only)
  omega

theorem DrawFormulaDeep_ok (w : World) (v : Value) (xs : List UInt8) (h : Bytes w v xs) (hc : CapOk v) :
    Does Try.prog 23 [v] w (RetX w str (fun s _ => s.length ≤ 200)) := by
  refine fn_of_W1 Try.func23 rfl Try.results23 Try.ntmps23 rfl ?_
  focus
    refine W_seq ?_; refine W_region rfl ?_; refine Wo rfl (opv_assign (v := .string _) rfl) ?_; refine Wo_nil ?_; refine W_seq ?_; refine W_region rfl ?_; refine Wo rfl (opv_move (v := v) rfl) ?_
    refine Wo_call rfl (opc1 (a := v) Try.call53 rfl) (open_ok _ _ _ (h) (by assumption)) ?_; rintro _ w1 ⟨E1, y1, rfl, hy1⟩; have hs1 := E1.size
    refine Wo_call rfl (opc2 (a := .pointer _) (b := .int _ _) Try.call52 rfl rfl) (formed_ok _ _ (by assumption) (by omega) (by omega)) ?_; rintro _ w2 ⟨y2, rfl, E2, hr1, hy2⟩; (try dsimp only at hy2); have hlhr1 := hr1.lt
    have Ehr1 := hr1.old; have hs2 := E2.size; refine Wo rfl (opv_assign (v := .string _) rfl) ?_; refine Wo_nil ?_; refine W_ret ?_; refine at_ret (v := .string _) rfl ?_; refine ⟨Ehr1, _, rfl, ?_⟩; (try dsimp only)
  omega

theorem FnFormulaOk_walk (w : World) (v : Value) (xs : List UInt8) (h : Bytes w v xs) (hc : CapOk v) : Does Try.prog 5 [v] w (Ret w (.bool true)) := by
  have h1 : ∀ s w, s.length ≤ 200 → Does Try.prog 15 [str s] w (Ret w (.bool (okF s))) := fun s w h => spec_FormulaOk_ok s w (by unfold lim; omega)
  have h2 : ∀ s w, s.length ≤ 200 → s.length < 60 → Does Try.prog 16 [str ([33] ++ s)] w (Ret w (.bool (okF s))) := fun s w h h' => by
    have := impl_FormulaOk_ok ([33] ++ s) w (by simp; unfold lim; omega)
    have e : okF ([33] ++ s) = okF s := by unfold okF; rw [theF_neg h']; cases theF s <;> rfl
    rw [e] at this; exact this
  have h3 : ∀ w, Does Try.prog 16 [str [116]] w (Ret w (.bool true)) := fun w => by
    have := impl_FormulaOk_ok [116] w (by decide)
    have e : okF [116] = true := by rw [okF, show [116] = Fm.enc .t from rfl, theF_enc (by decide)]; rfl
    rw [e] at this; exact this
  have h4 : ∀ w, Does Try.prog 16 [str []] w (Ret w (.bool false)) := fun w => by
    have := impl_FormulaOk_ok [] w (by decide)
    have e : okF [] = false := by
      have : theF [] = none := by unfold theF; rw [pre_nil]; rfl
      rw [okF, this]; rfl
    rw [e] at this; exact this
  have h5 : ∀ s w, s.length ≤ 200 → Does Try.prog 16 [str s] w (Ret w (.bool (okF s))) := fun s w h => impl_FormulaOk_ok s w (by unfold lim; omega)
  have hle := h.le
  refine fn_of_W1 Try.func5 rfl Try.results5 Try.ntmps5 rfl ?_
  focus
    refine W_seq ?_; refine W_region rfl ?_; refine Wo rfl (opv_assign (v := .bool _) rfl) ?_; refine Wo_nil ?_; refine W_seq ?_; refine W_seq ?_; refine W_region rfl ?_; refine Wo rfl (opv_move (v := v) rfl) ?_
    refine Wo rfl (opv_len Try.underlying24 rfl h) ?_; refine Wo rfl (opv_gtr rfl rfl) ?_; refine Wo_nil ?_; refine W_cond_dec rfl (fun h6 => ?_) (fun h6 => ?_); refine W_seq ?_; refine W_region rfl ?_
    refine Wo rfl (opv_assign (v := .bool _) rfl) ?_; refine Wo_nil ?_; refine W_ret ?_; exact ⟨rfl, (Ext.refl _)⟩; refine W_skip ?_; refine W_seq ?_; refine W_region rfl ?_; refine Wo rfl (opv_move (v := v) rfl) ?_
    refine Wo_call rfl (opc1 (a := v) Try.call19 rfl) (DrawFormulaOk_ok _ _ _ (h) (by assumption)) ?_; rintro _ w1 ⟨E1, y1, rfl, hy1⟩; have hs1 := E1.size; refine Wo rfl (opv_assign (v := .string _) rfl) ?_; refine Wo_nil ?_
    refine W_seq ?_; refine W_region rfl ?_; refine Wo rfl (opv_move (v := .string _) rfl) ?_; refine Wo_call rfl (opc1 (a := .string _) Try.call16 rfl) (h5 _ _ (by assumption)) ?_; rintro _ w2 ⟨rfl, E2⟩; have hs2 := E2.size
    refine Wo rfl (opv_assign (v := .bool _) rfl) ?_; refine Wo_nil ?_; refine W_seq ?_; refine W_seq ?_; refine W_region rfl ?_; refine Wo rfl (opv_move (v := .bool _) rfl) ?_; refine Wo rfl (opv_move (v := .string _) rfl) ?_
    refine Wo_call rfl (opc1 (a := .string _) Try.call15 rfl) (h1 _ _ (by assumption)) ?_; rintro _ w3 ⟨rfl, E3⟩; have hs3 := E3.size; refine Wo rfl (opv_neq_bool Try.underlying4 rfl rfl) ?_; refine Wo_nil ?_
    refine W_cond_ndec rfl (fun h7 => ?_) (fun h7 => ?_); contradiction; refine W_skip ?_; refine W_seq ?_; refine W_region rfl ?_; refine Wo rfl (opv_move (v := .string _) rfl) ?_; refine Wo rfl (opv_len_str Try.underlying9 rfl) ?_
    refine Wo rfl (opv_geq rfl rfl) ?_; refine Wo_split_dec rfl (opv_move (v := .bool _) rfl) (fun h8 => ?_) (fun h8 => ?_); refine Wo_skip rfl ?_; refine Wo_skip rfl ?_; refine Wo_skip rfl ?_; refine Wo_skip rfl ?_
    refine Wo_skip rfl ?_; refine Wo rfl (opv_pick_t (v := .bool _) rfl rfl) ?_; refine Wo rfl (opv_move (v := .bool _) rfl) ?_; refine Wo_call rfl (opc1 (a := .string _) Try.call16 rfl) (h3 _) ?_; rintro _ w4 ⟨rfl, E4⟩
    have hs4 := E4.size; refine Wo rfl (opv_pick_t (v := .bool _) rfl rfl) ?_; refine Wo rfl (opv_move (v := .bool _) rfl) ?_; refine Wo_call rfl (opc1 (a := .string _) Try.call16 rfl) (h4 _) ?_; rintro _ w5 ⟨rfl, E5⟩
    have hs5 := E5.size; refine Wo rfl (opv_not rfl) ?_; refine Wo rfl (opv_pick_t (v := .bool _) rfl rfl) ?_; refine Wo_split rfl (opv_move (v := .bool _) rfl) (fun h9 => ?_) (fun h9 => ?_)
    refine Wo_call rfl (opc0 Try.call20) (alive_ok _) ?_; rintro _ w6 ⟨rfl, E6⟩; have hs6 := E6.size; refine Wo rfl (opv_pick_t (v := .bool _) rfl rfl) ?_; refine Wo rfl (opv_assign (v := .bool _) rfl) ?_; refine Wo_nil ?_
    refine W_ret ?_; exact ⟨rfl, (((((E1.trans E2).trans E3).trans E4).trans E5).trans E6)⟩; contradiction; refine Wo rfl (opv_move (v := .string _) rfl) ?_; refine Wo rfl (opv_add_str rfl rfl (by simp <;> omega)) ?_
    refine Wo_call rfl (opc1 (a := .string _) Try.call16 rfl) (h2 _ _ (by assumption) (by omega)) ?_; rintro _ w4 ⟨rfl, E4⟩; have hs4 := E4.size; refine Wo rfl (opv_move (v := .bool _) rfl) ?_
    refine Wo rfl (opv_eql_bool Try.underlying4 rfl rfl) ?_; refine Wo rfl (opv_pick_f (v := .bool _) rfl rfl) ?_; refine Wo_split_dec rfl (opv_move (v := .bool _) rfl) (fun h9 => ?_) (fun h9 => ?_)
    refine Wo_call rfl (opc1 (a := .string _) Try.call16 rfl) (h3 _) ?_; rintro _ w5 ⟨rfl, E5⟩; have hs5 := E5.size; refine Wo rfl (opv_pick_t (v := .bool _) rfl rfl) ?_; refine Wo rfl (opv_move (v := .bool _) rfl) ?_
    refine Wo_call rfl (opc1 (a := .string _) Try.call16 rfl) (h4 _) ?_; rintro _ w6 ⟨rfl, E6⟩; have hs6 := E6.size; refine Wo rfl (opv_not rfl) ?_; refine Wo rfl (opv_pick_t (v := .bool _) rfl rfl) ?_
    refine Wo_split rfl (opv_move (v := .bool _) rfl) (fun h10 => ?_) (fun h10 => ?_); refine Wo_call rfl (opc0 Try.call20) (alive_ok _) ?_; rintro _ w7 ⟨rfl, E7⟩; have hs7 := E7.size
    refine Wo rfl (opv_pick_t (v := .bool _) rfl rfl) ?_; refine Wo rfl (opv_assign (v := .bool _) rfl) ?_; refine Wo_nil ?_; refine W_ret ?_; exact ⟨rfl, ((((((E1.trans E2).trans E3).trans E4).trans E5).trans E6).trans E7)⟩
    contradiction; contradiction

theorem FnFormulaDeep_walk (w : World) (v : Value) (xs : List UInt8) (h : Bytes w v xs) (hc : CapOk v) : Does Try.prog 7 [v] w (Ret w (.bool true)) := by
  have hle := h.le
  have h0 : ∀ s : List UInt8, -1 ≤ deepV s ∧ (0 ≤ deepV s → deepV s < s.length) := fun s => by
    cases hs : theF s with
    | none => rw [deepV_none hs]; omega
    | some f =>
      rw [deepV_some hs]
      obtain ⟨rfl, _⟩ := theF_some.1 hs
      have := f.deep_lt
      omega
  have h1 : ∀ s w, s.length ≤ 200 → Does Try.prog 17 [str s] w (Ret w (.int .i64 (deepV s))) := fun s w h => spec_FormulaDeep_ok s w (by unfold lim; omega)
  have h2 : ∀ s w, s.length < 60 → 0 ≤ deepV s → Does Try.prog 18 [str ([83] ++ s)] w (Ret w (.int .i64 (deepV s + 1))) := fun s w h' hd => by
    have := impl_FormulaDeep_ok ([83] ++ s) w (by simp; unfold lim; omega)
    have e : deepV ([83] ++ s) = deepV s + 1 := by
      unfold deepV at hd ⊢
      rw [theF_S h']
      cases hs : theF s with
      | none => rw [hs] at hd; simp at hd
      | some f => simp [Fm.deep]
    rw [e] at this; exact this
  have h3 : ∀ s w, s.length < 60 → 0 ≤ deepV s → Does Try.prog 18 [str ([65] ++ s)] w (Ret w (.int .i64 (deepV s + 1))) := fun s w h' hd => by
    have := impl_FormulaDeep_ok ([65] ++ s) w (by simp; unfold lim; omega)
    have e : deepV ([65] ++ s) = deepV s + 1 := by
      unfold deepV at hd ⊢
      rw [theF_A h']
      cases hs : theF s with
      | none => rw [hs] at hd; simp at hd
      | some f => simp [Fm.deep]
    rw [e] at this; exact this
  have h4 : ∀ w, Does Try.prog 18 [str [116]] w (Ret w (.int .i64 0)) := fun w => by
    have := impl_FormulaDeep_ok [116] w (by decide)
    have e : deepV [116] = 0 := by
      have : theF [116] = some .t := theF_enc (f := .t) (by decide)
      rw [deepV_some this]; rfl
    rw [e] at this; exact this
  have h5 : ∀ s w, s.length ≤ 200 → Does Try.prog 18 [str s] w (Ret w (.int .i64 (deepV s))) := fun s w h => impl_FormulaDeep_ok s w (by unfold lim; omega)
  have hD : ∀ w v xs, Bytes w v xs → CapOk v → Does Try.prog 23 [v] w (RetX w str (fun s _ => s.length ≤ 200 ∧ -1 ≤ deepV s ∧ (0 ≤ deepV s → deepV s < s.length))) := fun w v xs h hc =>
    (DrawFormulaDeep_ok w v xs h hc).mono fun _ _ ⟨e, y, hv, hy⟩ => ⟨e, y, hv, hy, h0 y⟩
  refine fn_of_W1 Try.func7 rfl Try.results7 Try.ntmps7 rfl ?_
  focus
    refine W_seq ?_; refine W_region rfl ?_; refine Wo rfl (opv_assign (v := .bool _) rfl) ?_; refine Wo_nil ?_; refine W_seq ?_; refine W_seq ?_; refine W_region rfl ?_; refine Wo rfl (opv_move (v := v) rfl) ?_
    refine Wo rfl (opv_len Try.underlying24 rfl h) ?_; refine Wo rfl (opv_gtr rfl rfl) ?_; refine Wo_nil ?_; refine W_cond_dec rfl (fun h6 => ?_) (fun h6 => ?_); refine W_seq ?_; refine W_region rfl ?_
    refine Wo rfl (opv_assign (v := .bool _) rfl) ?_; refine Wo_nil ?_; refine W_ret ?_; exact ⟨rfl, (Ext.refl _)⟩; refine W_skip ?_; refine W_seq ?_; refine W_region rfl ?_; refine Wo rfl (opv_move (v := v) rfl) ?_
    refine Wo_call rfl (opc1 (a := v) Try.call23 rfl) (hD _ _ _ (h) (by assumption)) ?_; rintro _ w1 ⟨E1, y1, rfl, hy1⟩; have hs1 := E1.size; refine Wo rfl (opv_assign (v := .string _) rfl) ?_; refine Wo_nil ?_; refine W_seq ?_
    refine W_region rfl ?_; refine Wo rfl (opv_move (v := .string _) rfl) ?_; refine Wo_call rfl (opc1 (a := .string _) Try.call18 rfl) (h5 _ _ (by omega)) ?_; rintro _ w2 ⟨rfl, E2⟩; have hs2 := E2.size
    refine Wo rfl (opv_assign (v := .int _ _) rfl) ?_; refine Wo_nil ?_; refine W_seq ?_; refine W_seq ?_; refine W_region rfl ?_; refine Wo rfl (opv_move (v := .int _ _) rfl) ?_; refine Wo rfl (opv_move (v := .string _) rfl) ?_
    refine Wo_call rfl (opc1 (a := .string _) Try.call17 rfl) (h1 _ _ (by omega)) ?_; rintro _ w3 ⟨rfl, E3⟩; have hs3 := E3.size; refine Wo rfl (opv_neq rfl rfl) ?_; refine Wo_nil ?_; refine W_cond_ndec rfl (fun h7 => ?_) (fun h7 => ?_)
    contradiction; refine W_skip ?_; refine W_seq ?_; refine W_seq ?_; refine W_region rfl ?_; refine Wo rfl (opv_move (v := .int _ _) rfl) ?_; refine Wo rfl (opv_lss rfl rfl) ?_; refine Wo_nil ?_
    refine W_cond_dec rfl (fun h8 => ?_) (fun h8 => ?_); refine W_seq ?_; refine W_region rfl ?_; refine Wo rfl (opv_move (v := .int _ _) rfl) ?_; refine Wo rfl (opv_eql rfl rfl) ?_
    refine Wo_split_dec rfl (opv_move (v := .bool _) rfl) (fun h9 => ?_) (fun h9 => ?_); refine Wo_call rfl (opc0 Try.call20) (alive_ok _) ?_; rintro _ w4 ⟨rfl, E4⟩; have hs4 := E4.size
    refine Wo rfl (opv_pick_t (v := .bool _) rfl rfl) ?_; refine Wo rfl (opv_assign (v := .bool _) rfl) ?_; refine Wo_nil ?_; refine W_ret ?_; exact ⟨rfl, (((E1.trans E2).trans E3).trans E4)⟩; (exfalso; omega); refine W_skip ?_
    refine W_seq ?_; refine W_region rfl ?_; refine Wo rfl (opv_move (v := .int _ _) rfl) ?_; refine Wo rfl (opv_move (v := .string _) rfl) ?_; refine Wo rfl (opv_len_str Try.underlying9 rfl) ?_; refine Wo rfl (opv_lss rfl rfl) ?_
    refine Wo_split_dec rfl (opv_move (v := .bool _) rfl) (fun h9 => ?_) (fun h9 => ?_); refine Wo rfl (opv_move (v := .string _) rfl) ?_; refine Wo rfl (opv_len_str Try.underlying9 rfl) ?_; refine Wo rfl (opv_geq rfl rfl) ?_
    refine Wo_split_dec rfl (opv_move (v := .bool _) rfl) (fun h10 => ?_) (fun h10 => ?_); refine Wo_skip rfl ?_; refine Wo_skip rfl ?_; refine Wo_skip rfl ?_; refine Wo_skip rfl ?_; refine Wo_skip rfl ?_; refine Wo_skip rfl ?_
    refine Wo_skip rfl ?_; refine Wo_skip rfl ?_; refine Wo_skip rfl ?_; refine Wo_skip rfl ?_; refine Wo_skip rfl ?_; refine Wo_skip rfl ?_; refine Wo_skip rfl ?_; refine Wo_skip rfl ?_
    refine Wo rfl (opv_pick_t (v := .bool _) rfl rfl) ?_; refine Wo rfl (opv_pick_t (v := .bool _) rfl rfl) ?_; refine Wo rfl (opv_move (v := .bool _) rfl) ?_; refine Wo_call rfl (opc1 (a := .string _) Try.call18 rfl) (h4 _) ?_
    rintro _ w4 ⟨rfl, E4⟩; have hs4 := E4.size; refine Wo rfl (opv_eql rfl rfl) ?_; refine Wo rfl (opv_pick_t (v := .bool _) rfl rfl) ?_; refine Wo_split_dec rfl (opv_move (v := .bool _) rfl) (fun h11 => ?_) (fun h11 => ?_)
    refine Wo_call rfl (opc0 Try.call20) (alive_ok _) ?_; rintro _ w5 ⟨rfl, E5⟩; have hs5 := E5.size; refine Wo rfl (opv_pick_t (v := .bool _) rfl rfl) ?_; refine Wo rfl (opv_assign (v := .bool _) rfl) ?_; refine Wo_nil ?_
    refine W_ret ?_; exact ⟨rfl, ((((E1.trans E2).trans E3).trans E4).trans E5)⟩; contradiction; refine Wo rfl (opv_move (v := .string _) rfl) ?_; refine Wo rfl (opv_add_str rfl rfl (by simp <;> omega)) ?_
    refine Wo_call rfl (opc1 (a := .string _) Try.call18 rfl) (h2 _ _ (by omega) (by omega)) ?_; rintro _ w4 ⟨rfl, E4⟩; have hs4 := E4.size; refine Wo rfl (opv_move (v := .int _ _) rfl) ?_; refine Wo rfl (opv_add rfl rfl (by omega)) ?_
    refine Wo rfl (opv_eql rfl rfl) ?_; refine Wo_split_dec rfl (opv_move (v := .bool _) rfl) (fun h11 => ?_) (fun h11 => ?_); refine Wo rfl (opv_move (v := .string _) rfl) ?_; refine Wo rfl (opv_add_str rfl rfl (by simp <;> omega)) ?_
    refine Wo_call rfl (opc1 (a := .string _) Try.call18 rfl) (h3 _ _ (by omega) (by omega)) ?_; rintro _ w5 ⟨rfl, E5⟩; have hs5 := E5.size; refine Wo rfl (opv_move (v := .int _ _) rfl) ?_; refine Wo rfl (opv_add rfl rfl (by omega)) ?_
    refine Wo rfl (opv_eql rfl rfl) ?_; refine Wo rfl (opv_pick_t (v := .bool _) rfl rfl) ?_; refine Wo rfl (opv_pick_f (v := .bool _) rfl rfl) ?_; refine Wo rfl (opv_pick_t (v := .bool _) rfl rfl) ?_
    refine Wo_split_dec rfl (opv_move (v := .bool _) rfl) (fun h12 => ?_) (fun h12 => ?_); refine Wo_call rfl (opc1 (a := .string _) Try.call18 rfl) (h4 _) ?_; rintro _ w6 ⟨rfl, E6⟩; have hs6 := E6.size
    refine Wo rfl (opv_eql rfl rfl) ?_; refine Wo rfl (opv_pick_t (v := .bool _) rfl rfl) ?_; refine Wo_split_dec rfl (opv_move (v := .bool _) rfl) (fun h13 => ?_) (fun h13 => ?_); refine Wo_call rfl (opc0 Try.call20) (alive_ok _) ?_
    rintro _ w7 ⟨rfl, E7⟩; have hs7 := E7.size; refine Wo rfl (opv_pick_t (v := .bool _) rfl rfl) ?_; refine Wo rfl (opv_assign (v := .bool _) rfl) ?_; refine Wo_nil ?_; refine W_ret ?_
    exact ⟨rfl, ((((((E1.trans E2).trans E3).trans E4).trans E5).trans E6).trans E7)⟩; contradiction; contradiction; contradiction; (exfalso; omega)

end Go.Proofs.Ytjdfnngmbaojjaa
