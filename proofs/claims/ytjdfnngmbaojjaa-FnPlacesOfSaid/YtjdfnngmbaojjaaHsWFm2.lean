/- Walks: readPart, readFormula, FormulaOk. -/
import Derived.Test.YtjdfnngmbaojjaaHsWFm1
import Derived.Test.YtjdfnngmbaojjaaHsHeap
namespace Go.Proofs.Ytjdfnngmbaojjaa
open Go.Hs
set_option maxRecDepth 10000
set_option maxHeartbeats 4000000
set_option linter.unusedVariables false

/-- A formula as it lies in memory. -/
def EFm (w : World) (v : Value) : Fm → Prop
  | .t => ∃ b, v = .pointer (some ⟨b, 0, none⟩) ∧ Blk w b [.int .u8 116, str (Fm.enc .t), .slice none 0 0]
  | .neg f => ∃ b bp u, v = .pointer (some ⟨b, 0, none⟩) ∧ Blk w b [.int .u8 33, str (Fm.enc (.neg f)), .slice (some ⟨bp, 0, none⟩) 1 1] ∧ Blk w bp [u] ∧ EFm w u f
  | .S f => ∃ b bp u, v = .pointer (some ⟨b, 0, none⟩) ∧ Blk w b [.int .u8 83, str (Fm.enc (.S f)), .slice (some ⟨bp, 0, none⟩) 1 1] ∧ Blk w bp [u] ∧ EFm w u f
  | .A f => ∃ b bp u, v = .pointer (some ⟨b, 0, none⟩) ∧ Blk w b [.int .u8 65, str (Fm.enc (.A f)), .slice (some ⟨bp, 0, none⟩) 1 1] ∧ Blk w bp [u] ∧ EFm w u f
  | .and f g => ∃ b bp u u', v = .pointer (some ⟨b, 0, none⟩) ∧ Blk w b [.int .u8 38, str (Fm.enc (.and f g)), .slice (some ⟨bp, 0, none⟩) 2 2] ∧ Blk w bp [u, u'] ∧ EFm w u f ∧ EFm w u' g
  | .or f g => ∃ b bp u u', v = .pointer (some ⟨b, 0, none⟩) ∧ Blk w b [.int .u8 124, str (Fm.enc (.or f g)), .slice (some ⟨bp, 0, none⟩) 2 2] ∧ Blk w bp [u, u'] ∧ EFm w u f ∧ EFm w u' g
theorem EFm.ptr {w : World} {v : Value} {f : Fm} (h : EFm w v f) : ∃ a, v = .pointer (some a) := by
  cases f
  · obtain ⟨b, rfl, _⟩ := h; exact ⟨_, rfl⟩
  all_goals (first | (obtain ⟨b, _, _, rfl, _⟩ := h; exact ⟨_, rfl⟩) | (obtain ⟨b, _, _, _, rfl, _⟩ := h; exact ⟨_, rfl⟩))
instance mono_EFm : Mono EFm := ⟨by
  intro w w' v f he
  induction f generalizing v with
  | t => rintro ⟨b, rfl, h⟩; exact ⟨b, rfl, h.ext he⟩
  | neg f ih => rintro ⟨b, bp, u, rfl, h1, h2, h3⟩; exact ⟨b, bp, u, rfl, h1.ext he, h2.ext he, ih h3⟩
  | S f ih => rintro ⟨b, bp, u, rfl, h1, h2, h3⟩; exact ⟨b, bp, u, rfl, h1.ext he, h2.ext he, ih h3⟩
  | A f ih => rintro ⟨b, bp, u, rfl, h1, h2, h3⟩; exact ⟨b, bp, u, rfl, h1.ext he, h2.ext he, ih h3⟩
  | and f g ih1 ih2 => rintro ⟨b, bp, u, u', rfl, h1, h2, h3, h4⟩; exact ⟨b, bp, u, u', rfl, h1.ext he, h2.ext he, ih1 h3, ih2 h4⟩
  | or f g ih1 ih2 => rintro ⟨b, bp, u, u', rfl, h1, h2, h3, h4⟩; exact ⟨b, bp, u, u', rfl, h1.ext he, h2.ext he, ih1 h3, ih2 h4⟩⟩

/-- What readPart hands back. -/
def PartP (w : World) (s : List UInt8) : Value → World → Prop := fun v w' => Ext w w' ∧ match pre s with
  | some (f, r) => ∃ u, v = .tuple #[u, str r] ∧ Above w.heap.size EFm w' u f
  | none => v = .tuple #[.pointer none, str s]


theorem flat78 : Flat Try.prog 78 [.int .u8 0, str [], .slice none 0 0] := ⟨_, Try.underlying78, fun _ => by kernel_rfl, fun _ => by kernel_rfl⟩

theorem readPart_ok : ∀ (m : Nat) (s : List UInt8) (w : World), s.length ≤ lim → s.length ≤ m → Does Try.prog 73 [str s] w (PartP w s) := by
  intro m
  induction m with
  | zero =>
    intro s w hl hm
    obtain rfl : s = [] := List.eq_nil_of_length_eq_zero (by omega)
    refine fn_of_W2 Try.func73 rfl Try.results73 Try.ntmps73 rfl ?_
    focus
      refine W_seq ?_; refine W_region rfl ?_; refine Wo rfl (opv_assign (v := .pointer _) rfl) ?_; refine Wo rfl (opv_assign (v := .string _) rfl) ?_; refine Wo_nil ?_; refine W_seq ?_; refine W_seq ?_; refine W_region rfl ?_
      refine Wo rfl (opv_move (v := .string _) rfl) ?_; refine Wo rfl (opv_eql_str rfl rfl) ?_; refine Wo_nil ?_; refine W_cond_dec rfl (fun h1 => ?_) (fun h1 => ?_); refine W_seq ?_; refine W_region rfl ?_
      refine Wo rfl (opv_move (v := .string _) rfl) ?_; refine Wo rfl (opv_assign (v := .pointer _) rfl) ?_; refine Wo rfl (opv_assign (v := .string _) rfl) ?_; refine Wo_nil ?_; refine W_ret ?_
      refine at_ret (v := .tuple #[.pointer _, .string _]) rfl ?_; rotate_left; contradiction
    exact ⟨Ext.refl _, by rw [pre_nil]⟩
  | succ m ih =>
    intro s w hl hm
    have hl' := hl
    unfold lim at hl'
    by_cases hs0 : s = []
    · subst hs0
      refine fn_of_W2 Try.func73 rfl Try.results73 Try.ntmps73 rfl ?_
      focus
        refine W_seq ?_; refine W_region rfl ?_; refine Wo rfl (opv_assign (v := .pointer _) rfl) ?_; refine Wo rfl (opv_assign (v := .string _) rfl) ?_; refine Wo_nil ?_; refine W_seq ?_; refine W_seq ?_; refine W_region rfl ?_
        refine Wo rfl (opv_move (v := .string _) rfl) ?_; refine Wo rfl (opv_eql_str rfl rfl) ?_; refine Wo_nil ?_; refine W_cond_dec rfl (fun h1 => ?_) (fun h1 => ?_); refine W_seq ?_; refine W_region rfl ?_
        refine Wo rfl (opv_move (v := .string _) rfl) ?_; refine Wo rfl (opv_assign (v := .pointer _) rfl) ?_; refine Wo rfl (opv_assign (v := .string _) rfl) ?_; refine Wo_nil ?_; refine W_ret ?_
        refine at_ret (v := .tuple #[.pointer _, .string _]) rfl ?_; rotate_left; contradiction
      exact ⟨Ext.refl _, by rw [pre_nil]⟩
    have hlen : 0 < s.length := List.length_pos_iff.2 hs0
    have es : s = s.getD 0 0 :: s.drop 1 := by have := drop_cons hlen; simpa using this
    have hrl : (s.drop 1).length = s.length - 1 := by simp
    generalize hc : s.getD 0 0 = c at es
    have ih1 : ∀ w, Does Try.prog 73 [str (s.drop 1)] w (PartP w (s.drop 1)) := fun w => ih _ w (by unfold lim; omega) (by omega)
    have fin : ∀ (f : Fm) (r : List UInt8), s = f.enc ++ r → s.take ((s.length : Int) - (r.length : Int)).toNat = f.enc := by
      intro f r h
      have : ((s.length : Int) - (r.length : Int)).toNat = f.enc.length := by rw [h]; simp
      rw [this, h]; simp
    by_cases c1 : c = 116
    · subst c1
      have hn : (s.getD 0 0).toNat = 116 := by rw [hc]; rfl
      have hp : pre s = some (.t, s.drop 1) := by rw [es]; simp [pre_t]
      clear es
      refine fn_of_W2 Try.func73 rfl Try.results73 Try.ntmps73 rfl ?_
      focus
        refine W_seq ?_; refine W_region rfl ?_; refine Wo rfl (opv_assign (v := .pointer _) rfl) ?_; refine Wo rfl (opv_assign (v := .string _) rfl) ?_; refine Wo_nil ?_; refine W_seq ?_; refine W_seq ?_; refine W_region rfl ?_
        refine Wo rfl (opv_move (v := .string _) rfl) ?_; refine Wo rfl (opv_eql_str rfl rfl) ?_; refine Wo_nil ?_; refine W_cond_dec rfl (fun h1 => ?_) (fun h1 => ?_); contradiction; refine W_skip ?_; refine W_seq ?_
        refine W_region rfl ?_; refine Wo rfl (opv_move (v := .string _) rfl) ?_; refine Wo rfl (opv_slice_str_lo (l := 1) Try.underlying9 rfl rfl (by omega)) ?_; refine Wo rfl (opv_assign (v := .string _) rfl) ?_; refine Wo_nil ?_
        refine W_seq ?_; refine W_region rfl ?_; refine Wo rfl (opv_move (v := .string _) rfl) ?_; refine Wo rfl (opv_index_str (k := 0) Try.underlying9 rfl rfl (by omega)) ?_
        refine Wo rfl (opv_build (ps := [(0, .int _ _)]) (cs := [_, _, _]) flat78 rfl rfl) ?_; refine Wo_box rfl rfl rfl ?_; rintro b1 w1 hb1 E1 hB1; have hlb1 := hB1.lt; have hs1 := E1.size
        refine Wo rfl (opv_assign (v := .pointer _) rfl) ?_; refine Wo_nil ?_; refine W_seq ?_; refine W_seq ?_; refine W_region rfl ?_; refine Wo rfl (opv_move (v := .string _) rfl) ?_
        refine Wo rfl (opv_index_str (k := 0) Try.underlying9 rfl rfl (by omega)) ?_; refine Wo_nil ?_; refine W_block ?_; refine W_seq ?_; refine W_region rfl ?_; refine Wo rfl (opv_eql rfl rfl) ?_
        refine Wo rfl (opv_assign (v := .bool _) rfl) ?_; refine Wo_nil ?_; refine W_cond_dec rfl (fun h2 => ?_) (fun h2 => ?_); refine W_skip ?_; refine W_seq ?_; refine W_region rfl ?_; refine Wo rfl (opv_move (v := .pointer _) rfl) ?_
        refine Wo rfl (opv_move (v := .string _) rfl) ?_; refine Wo rfl (opv_move (v := .string _) rfl) ?_; refine Wo rfl (opv_len_str Try.underlying9 rfl) ?_; refine Wo rfl (opv_move (v := .string _) rfl) ?_
        refine Wo rfl (opv_len_str Try.underlying9 rfl) ?_; refine Wo rfl (opv_sub rfl rfl (by omega)) ?_; refine Wo rfl (opv_slice_str_hi_z Try.underlying9 rfl rfl (by omega)) ?_; refine Wo rfl (opv_nilCheck rfl) ?_
        refine Wo rfl (opv_fieldAddr Try.underlying78 rfl rfl (by first | exact Try.sizeOf3 | exact Try.sizeOf9) rfl) ?_; refine Wo_st (v := .string _) rfl Try.sizeOf9 rfl rfl rfl hB1 (by simp) (by omega) E1 ?_; rintro w2 E2 hB1 K1 hz1
        simp only [List.set] at hB1; refine Wo_nil ?_; refine W_seq ?_; refine W_region rfl ?_; refine Wo rfl (opv_move (v := .pointer _) rfl) ?_; refine Wo rfl (opv_move (v := .string _) rfl) ?_
        refine Wo rfl (opv_assign (v := .pointer _) rfl) ?_; refine Wo rfl (opv_assign (v := .string _) rfl) ?_; refine Wo_nil ?_; refine W_ret ?_; refine at_ret (v := .tuple #[.pointer _, .string _]) rfl ?_; rotate_left; (exfalso; omega)
      refine ⟨E2, ?_⟩
      rw [hp]
      refine ⟨_, rfl, fun w3 k hs => ⟨b1, rfl, (hB1.keep k hb1).cast ?_⟩⟩
      rw [fin _ _ (pre_some hp), hn]; rfl
    by_cases c2 : c = 33 ∨ c = 83 ∨ c = 65
    · have hn : (s.getD 0 0).toNat = 33 ∨ (s.getD 0 0).toNat = 83 ∨ (s.getD 0 0).toNat = 65 := by rw [hc]; rcases c2 with rfl | rfl | rfl <;> simp
      cases hp : pre (s.drop 1) with
      | none =>
        have ih2 : ∀ w, Does Try.prog 73 [str (s.drop 1)] w (Ret w (.tuple #[.pointer none, str (s.drop 1)])) := fun w =>
          (ih1 w).mono fun v w' ⟨e, h⟩ => ⟨by rw [hp] at h; exact h, e⟩
        have hp' : pre s = none := by rw [es]; exact pre_un_none hp c2
        clear es ih1
        refine fn_of_W2 Try.func73 rfl Try.results73 Try.ntmps73 rfl ?_
        focus
          refine W_seq ?_; refine W_region rfl ?_; refine Wo rfl (opv_assign (v := .pointer _) rfl) ?_; refine Wo rfl (opv_assign (v := .string _) rfl) ?_; refine Wo_nil ?_; refine W_seq ?_; refine W_seq ?_; refine W_region rfl ?_
          refine Wo rfl (opv_move (v := .string _) rfl) ?_; refine Wo rfl (opv_eql_str rfl rfl) ?_; refine Wo_nil ?_; refine W_cond_dec rfl (fun h1 => ?_) (fun h1 => ?_); contradiction; refine W_skip ?_; refine W_seq ?_
          refine W_region rfl ?_; refine Wo rfl (opv_move (v := .string _) rfl) ?_; refine Wo rfl (opv_slice_str_lo (l := 1) Try.underlying9 rfl rfl (by omega)) ?_; refine Wo rfl (opv_assign (v := .string _) rfl) ?_; refine Wo_nil ?_
          refine W_seq ?_; refine W_region rfl ?_; refine Wo rfl (opv_move (v := .string _) rfl) ?_; refine Wo rfl (opv_index_str (k := 0) Try.underlying9 rfl rfl (by omega)) ?_
          refine Wo rfl (opv_build (ps := [(0, .int _ _)]) (cs := [_, _, _]) flat78 rfl rfl) ?_; refine Wo_box rfl rfl rfl ?_; rintro b1 w1 hb1 E1 hB1; have hlb1 := hB1.lt; have hs1 := E1.size
          refine Wo rfl (opv_assign (v := .pointer _) rfl) ?_; refine Wo_nil ?_; refine W_seq ?_; refine W_seq ?_; refine W_region rfl ?_; refine Wo rfl (opv_move (v := .string _) rfl) ?_
          refine Wo rfl (opv_index_str (k := 0) Try.underlying9 rfl rfl (by omega)) ?_; refine Wo_nil ?_; refine W_block ?_; refine W_seq ?_; refine W_region rfl ?_; refine Wo rfl (opv_eql rfl rfl) ?_
          refine Wo rfl (opv_assign (v := .bool _) rfl) ?_; refine Wo_nil ?_; refine W_cond_dec rfl (fun h2 => ?_) (fun h2 => ?_); (exfalso; omega); refine W_seq ?_; refine W_seq ?_; refine W_region rfl ?_; refine Wo rfl (opv_eql rfl rfl) ?_
          refine Wo rfl (opv_assign (v := .bool _) rfl) ?_; refine Wo_nil ?_; refine W_cond_dec rfl (fun h3 => ?_) (fun h3 => ?_); refine W_skip ?_; refine W_cond_dec rfl (fun h4 => ?_) (fun h4 => ?_); refine W_seq ?_; refine W_region rfl ?_
          refine Wo rfl (opv_move (v := .string _) rfl) ?_; refine Wo_call rfl (opc1 (a := .string _) Try.call73 rfl) (ih2 _) ?_; rintro _ w2 ⟨rfl, E2⟩; have hs2 := E2.size; refine Wo rfl (opv_move (v := .tuple _) rfl) ?_
          refine Wo rfl (opv_extract (v := .pointer _) rfl rfl) ?_; refine Wo rfl (opv_extract (v := .string _) rfl rfl) ?_; refine Wo rfl (opv_assign (v := .pointer _) rfl) ?_; refine Wo rfl (opv_assign (v := .string _) rfl) ?_
          refine Wo_nil ?_; refine W_seq ?_; refine W_seq ?_; refine W_region rfl ?_; refine Wo rfl (opv_move (v := .pointer _) rfl) ?_; refine Wo rfl (opv_eql_nil Try.underlying57 rfl rfl) ?_; refine Wo_nil ?_; refine W_cond_true rfl ?_
          refine W_seq ?_; refine W_region rfl ?_; refine Wo rfl (opv_move (v := .string _) rfl) ?_; refine Wo rfl (opv_assign (v := .pointer _) rfl) ?_; refine Wo rfl (opv_assign (v := .string _) rfl) ?_; refine Wo_nil ?_; refine W_ret ?_
          refine at_ret (v := .tuple #[.pointer _, .string _]) rfl ?_; rotate_left; contradiction; refine W_seq ?_; refine W_region rfl ?_; refine Wo rfl (opv_eql rfl rfl) ?_; refine Wo rfl (opv_assign (v := .bool _) rfl) ?_; refine Wo_nil ?_
          refine W_cond_dec rfl (fun h4 => ?_) (fun h4 => ?_); refine W_skip ?_; refine W_cond_dec rfl (fun h5 => ?_) (fun h5 => ?_); refine W_seq ?_; refine W_region rfl ?_; refine Wo rfl (opv_move (v := .string _) rfl) ?_
          refine Wo_call rfl (opc1 (a := .string _) Try.call73 rfl) (ih2 _) ?_; rintro _ w2 ⟨rfl, E2⟩; have hs2 := E2.size; refine Wo rfl (opv_move (v := .tuple _) rfl) ?_; refine Wo rfl (opv_extract (v := .pointer _) rfl rfl) ?_
          refine Wo rfl (opv_extract (v := .string _) rfl rfl) ?_; refine Wo rfl (opv_assign (v := .pointer _) rfl) ?_; refine Wo rfl (opv_assign (v := .string _) rfl) ?_; refine Wo_nil ?_; refine W_seq ?_; refine W_seq ?_
          refine W_region rfl ?_; refine Wo rfl (opv_move (v := .pointer _) rfl) ?_; refine Wo rfl (opv_eql_nil Try.underlying57 rfl rfl) ?_; refine Wo_nil ?_; refine W_cond_true rfl ?_; refine W_seq ?_; refine W_region rfl ?_
          refine Wo rfl (opv_move (v := .string _) rfl) ?_; refine Wo rfl (opv_assign (v := .pointer _) rfl) ?_; refine Wo rfl (opv_assign (v := .string _) rfl) ?_; refine Wo_nil ?_; refine W_ret ?_
          refine at_ret (v := .tuple #[.pointer _, .string _]) rfl ?_; rotate_left; contradiction; refine W_region rfl ?_; refine Wo rfl (opv_eql rfl rfl) ?_; refine Wo rfl (opv_assign (v := .bool _) rfl) ?_; refine Wo_nil ?_
          refine W_cond_dec rfl (fun h5 => ?_) (fun h5 => ?_); refine W_seq ?_; refine W_region rfl ?_; refine Wo rfl (opv_move (v := .string _) rfl) ?_; refine Wo_call rfl (opc1 (a := .string _) Try.call73 rfl) (ih2 _) ?_
          rintro _ w2 ⟨rfl, E2⟩; have hs2 := E2.size; refine Wo rfl (opv_move (v := .tuple _) rfl) ?_; refine Wo rfl (opv_extract (v := .pointer _) rfl rfl) ?_; refine Wo rfl (opv_extract (v := .string _) rfl rfl) ?_
          refine Wo rfl (opv_assign (v := .pointer _) rfl) ?_; refine Wo rfl (opv_assign (v := .string _) rfl) ?_; refine Wo_nil ?_; refine W_seq ?_; refine W_seq ?_; refine W_region rfl ?_; refine Wo rfl (opv_move (v := .pointer _) rfl) ?_
          refine Wo rfl (opv_eql_nil Try.underlying57 rfl rfl) ?_; refine Wo_nil ?_; refine W_cond_true rfl ?_; refine W_seq ?_; refine W_region rfl ?_; refine Wo rfl (opv_move (v := .string _) rfl) ?_
          refine Wo rfl (opv_assign (v := .pointer _) rfl) ?_; refine Wo rfl (opv_assign (v := .string _) rfl) ?_; refine Wo_nil ?_; refine W_ret ?_; refine at_ret (v := .tuple #[.pointer _, .string _]) rfl ?_; rotate_left; (exfalso; omega)
        all_goals exact ⟨E1.trans E2, by rw [hp']⟩
      | some q =>
        obtain ⟨f, r1⟩ := q
        have ih2 : ∀ w, Does Try.prog 73 [str (s.drop 1)] w (RetX w (fun ad => .tuple #[.pointer (some ad), str r1]) fun ad w' => Above w.heap.size EFm w' (.pointer (some ad)) f) := fun w =>
          (ih1 w).mono fun v w' ⟨e, h⟩ => by
            rw [hp] at h
            obtain ⟨u, hv, hu⟩ := h
            obtain ⟨ad, rfl⟩ := hu.here.ptr
            exact ⟨e, ad, hv, hu⟩
        have hl1 : r1.length ≤ s.length - 1 := by have := congrArg List.length (pre_some hp); simp at this; omega
        clear ih1
        have hd : ∃ g : Fm, pre s = some (g, r1) ∧ ∀ (w : World) (b bp : Nat) (u : Value), Blk w b [.int .u8 ((s.getD 0 0).toNat : Int), str g.enc, .slice (some ⟨bp, 0, none⟩) 1 1] → Blk w bp [u] → EFm w u f → EFm w (.pointer (some ⟨b, 0, none⟩)) g := by
          rw [hc]
          rcases c2 with rfl | rfl | rfl
          · exact ⟨.neg f, by rw [es]; exact pre_neg hp, fun w b bp u h1 h2 h3 => ⟨b, bp, u, rfl, h1, h2, h3⟩⟩
          · exact ⟨.S f, by rw [es]; exact pre_S hp, fun w b bp u h1 h2 h3 => ⟨b, bp, u, rfl, h1, h2, h3⟩⟩
          · exact ⟨.A f, by rw [es]; exact pre_A hp, fun w b bp u h1 h2 h3 => ⟨b, bp, u, rfl, h1, h2, h3⟩⟩
        obtain ⟨g, hp', hg⟩ := hd
        clear es
        refine fn_of_W2 Try.func73 rfl Try.results73 Try.ntmps73 rfl ?_
        focus
          refine W_seq ?_; refine W_region rfl ?_; refine Wo rfl (opv_assign (v := .pointer _) rfl) ?_; refine Wo rfl (opv_assign (v := .string _) rfl) ?_; refine Wo_nil ?_; refine W_seq ?_; refine W_seq ?_; refine W_region rfl ?_
          refine Wo rfl (opv_move (v := .string _) rfl) ?_; refine Wo rfl (opv_eql_str rfl rfl) ?_; refine Wo_nil ?_; refine W_cond_dec rfl (fun h1 => ?_) (fun h1 => ?_); contradiction; refine W_skip ?_; refine W_seq ?_
          refine W_region rfl ?_; refine Wo rfl (opv_move (v := .string _) rfl) ?_; refine Wo rfl (opv_slice_str_lo (l := 1) Try.underlying9 rfl rfl (by omega)) ?_; refine Wo rfl (opv_assign (v := .string _) rfl) ?_; refine Wo_nil ?_
          refine W_seq ?_; refine W_region rfl ?_; refine Wo rfl (opv_move (v := .string _) rfl) ?_; refine Wo rfl (opv_index_str (k := 0) Try.underlying9 rfl rfl (by omega)) ?_
          refine Wo rfl (opv_build (ps := [(0, .int _ _)]) (cs := [_, _, _]) flat78 rfl rfl) ?_; refine Wo_box rfl rfl rfl ?_; rintro b1 w1 hb1 E1 hB1; have hlb1 := hB1.lt; have hs1 := E1.size
          refine Wo rfl (opv_assign (v := .pointer _) rfl) ?_; refine Wo_nil ?_; refine W_seq ?_; refine W_seq ?_; refine W_region rfl ?_; refine Wo rfl (opv_move (v := .string _) rfl) ?_
          refine Wo rfl (opv_index_str (k := 0) Try.underlying9 rfl rfl (by omega)) ?_; refine Wo_nil ?_; refine W_block ?_; refine W_seq ?_; refine W_region rfl ?_; refine Wo rfl (opv_eql rfl rfl) ?_
          refine Wo rfl (opv_assign (v := .bool _) rfl) ?_; refine Wo_nil ?_; refine W_cond_dec rfl (fun h2 => ?_) (fun h2 => ?_); (exfalso; omega); refine W_seq ?_; refine W_seq ?_; refine W_region rfl ?_; refine Wo rfl (opv_eql rfl rfl) ?_
          refine Wo rfl (opv_assign (v := .bool _) rfl) ?_; refine Wo_nil ?_; refine W_cond_dec rfl (fun h3 => ?_) (fun h3 => ?_); refine W_skip ?_; refine W_cond_dec rfl (fun h4 => ?_) (fun h4 => ?_); refine W_seq ?_; refine W_region rfl ?_
          refine Wo rfl (opv_move (v := .string _) rfl) ?_; refine Wo_call rfl (opc1 (a := .string _) Try.call73 rfl) (ih2 _) ?_; rintro _ w2 ⟨E2, y1, rfl, hy1⟩; have hs2 := E2.size; refine Wo rfl (opv_move (v := .tuple _) rfl) ?_
          refine Wo rfl (opv_extract (v := .pointer _) rfl rfl) ?_; refine Wo rfl (opv_extract (v := .string _) rfl rfl) ?_; refine Wo rfl (opv_assign (v := .pointer _) rfl) ?_; refine Wo rfl (opv_assign (v := .string _) rfl) ?_
          refine Wo_nil ?_; refine W_seq ?_; refine W_seq ?_; refine W_region rfl ?_; refine Wo rfl (opv_move (v := .pointer _) rfl) ?_; refine Wo rfl (opv_eql_some Try.underlying57 rfl rfl) ?_; refine Wo_nil ?_; refine W_cond_false rfl ?_
          refine W_skip ?_; refine W_seq ?_; refine W_region rfl ?_; refine Wo rfl (opv_move (v := .pointer _) rfl) ?_; refine Wo rfl (opv_move (v := .pointer _) rfl) ?_
          refine Wo_buildSlice (ps := [(0, .pointer _)]) (cs := [_]) rfl Try.underlying76 Try.sizeOf57 Try.zeroValue57 rfl rfl rfl rfl ?_; rintro b2 w3 hb2 E3 hB2; have hlb2 := hB2.lt; have hs3 := E3.size; refine Wo rfl (opv_nilCheck rfl) ?_
          refine Wo rfl (opv_fieldAddr Try.underlying78 rfl rfl (by first | exact Try.sizeOf3 | exact Try.sizeOf9) rfl) ?_
          refine Wo_st (v := .slice _ _ _) rfl Try.sizeOf76 rfl rfl rfl (hB1.ext (E2.trans E3)) (by simp) (by omega) ((E1.trans E2).trans E3) ?_; rintro w4 E4 hB1 K1 hz1; simp only [List.set] at hB1
          have hy1 := (hy1.ext E3).keep (fun k h1 h2 => K1 k (by omega)) (by omega); have hB2 := hB2.of_heap (K1 _ (by omega)); refine Wo_nil ?_; refine W_region rfl ?_; refine Wo rfl (opv_move (v := .string _) rfl) ?_
          refine Wo rfl (opv_assign (v := .string _) rfl) ?_; refine Wo_nil ?_; refine W_seq ?_; refine W_region rfl ?_; refine Wo rfl (opv_move (v := .pointer _) rfl) ?_; refine Wo rfl (opv_move (v := .string _) rfl) ?_
          refine Wo rfl (opv_move (v := .string _) rfl) ?_; refine Wo rfl (opv_len_str Try.underlying9 rfl) ?_; refine Wo rfl (opv_move (v := .string _) rfl) ?_; refine Wo rfl (opv_len_str Try.underlying9 rfl) ?_
          refine Wo rfl (opv_sub rfl rfl (by omega)) ?_; refine Wo rfl (opv_slice_str_hi_z Try.underlying9 rfl rfl (by omega)) ?_; refine Wo rfl (opv_nilCheck rfl) ?_
          refine Wo rfl (opv_fieldAddr Try.underlying78 rfl rfl (by first | exact Try.sizeOf3 | exact Try.sizeOf9) rfl) ?_; refine Wo_st (v := .string _) rfl Try.sizeOf9 rfl rfl rfl hB1 (by simp) (by omega) E4 ?_; rintro w5 E5 hB1 K2 hz2
          simp only [List.set] at hB1; have hy1 := hy1.keep (fun k h1 h2 => K2 k (by omega)) (by omega); have hB2 := hB2.of_heap (K2 _ (by omega)); refine Wo_nil ?_; refine W_seq ?_; refine W_region rfl ?_
          refine Wo rfl (opv_move (v := .pointer _) rfl) ?_; refine Wo rfl (opv_move (v := .string _) rfl) ?_; refine Wo rfl (opv_assign (v := .pointer _) rfl) ?_; refine Wo rfl (opv_assign (v := .string _) rfl) ?_; refine Wo_nil ?_
          refine W_ret ?_; refine at_ret (v := .tuple #[.pointer _, .string _]) rfl ?_; rotate_left; contradiction; refine W_seq ?_; refine W_region rfl ?_; refine Wo rfl (opv_eql rfl rfl) ?_; refine Wo rfl (opv_assign (v := .bool _) rfl) ?_
          refine Wo_nil ?_; refine W_cond_dec rfl (fun h4 => ?_) (fun h4 => ?_); refine W_skip ?_; refine W_cond_dec rfl (fun h5 => ?_) (fun h5 => ?_); refine W_seq ?_; refine W_region rfl ?_; refine Wo rfl (opv_move (v := .string _) rfl) ?_
          refine Wo_call rfl (opc1 (a := .string _) Try.call73 rfl) (ih2 _) ?_; rintro _ w2 ⟨E2, y1, rfl, hy1⟩; have hs2 := E2.size; refine Wo rfl (opv_move (v := .tuple _) rfl) ?_; refine Wo rfl (opv_extract (v := .pointer _) rfl rfl) ?_
          refine Wo rfl (opv_extract (v := .string _) rfl rfl) ?_; refine Wo rfl (opv_assign (v := .pointer _) rfl) ?_; refine Wo rfl (opv_assign (v := .string _) rfl) ?_; refine Wo_nil ?_; refine W_seq ?_; refine W_seq ?_
          refine W_region rfl ?_; refine Wo rfl (opv_move (v := .pointer _) rfl) ?_; refine Wo rfl (opv_eql_some Try.underlying57 rfl rfl) ?_; refine Wo_nil ?_; refine W_cond_false rfl ?_; refine W_skip ?_; refine W_seq ?_
          refine W_region rfl ?_; refine Wo rfl (opv_move (v := .pointer _) rfl) ?_; refine Wo rfl (opv_move (v := .pointer _) rfl) ?_
          refine Wo_buildSlice (ps := [(0, .pointer _)]) (cs := [_]) rfl Try.underlying76 Try.sizeOf57 Try.zeroValue57 rfl rfl rfl rfl ?_; rintro b2 w3 hb2 E3 hB2; have hlb2 := hB2.lt; have hs3 := E3.size; refine Wo rfl (opv_nilCheck rfl) ?_
          refine Wo rfl (opv_fieldAddr Try.underlying78 rfl rfl (by first | exact Try.sizeOf3 | exact Try.sizeOf9) rfl) ?_
          refine Wo_st (v := .slice _ _ _) rfl Try.sizeOf76 rfl rfl rfl (hB1.ext (E2.trans E3)) (by simp) (by omega) ((E1.trans E2).trans E3) ?_; rintro w4 E4 hB1 K1 hz1; simp only [List.set] at hB1
          have hy1 := (hy1.ext E3).keep (fun k h1 h2 => K1 k (by omega)) (by omega); have hB2 := hB2.of_heap (K1 _ (by omega)); refine Wo_nil ?_; refine W_region rfl ?_; refine Wo rfl (opv_move (v := .string _) rfl) ?_
          refine Wo rfl (opv_assign (v := .string _) rfl) ?_; refine Wo_nil ?_; refine W_seq ?_; refine W_region rfl ?_; refine Wo rfl (opv_move (v := .pointer _) rfl) ?_; refine Wo rfl (opv_move (v := .string _) rfl) ?_
          refine Wo rfl (opv_move (v := .string _) rfl) ?_; refine Wo rfl (opv_len_str Try.underlying9 rfl) ?_; refine Wo rfl (opv_move (v := .string _) rfl) ?_; refine Wo rfl (opv_len_str Try.underlying9 rfl) ?_
          refine Wo rfl (opv_sub rfl rfl (by omega)) ?_; refine Wo rfl (opv_slice_str_hi_z Try.underlying9 rfl rfl (by omega)) ?_; refine Wo rfl (opv_nilCheck rfl) ?_
          refine Wo rfl (opv_fieldAddr Try.underlying78 rfl rfl (by first | exact Try.sizeOf3 | exact Try.sizeOf9) rfl) ?_; refine Wo_st (v := .string _) rfl Try.sizeOf9 rfl rfl rfl hB1 (by simp) (by omega) E4 ?_; rintro w5 E5 hB1 K2 hz2
          simp only [List.set] at hB1; have hy1 := hy1.keep (fun k h1 h2 => K2 k (by omega)) (by omega); have hB2 := hB2.of_heap (K2 _ (by omega)); refine Wo_nil ?_; refine W_seq ?_; refine W_region rfl ?_
          refine Wo rfl (opv_move (v := .pointer _) rfl) ?_; refine Wo rfl (opv_move (v := .string _) rfl) ?_; refine Wo rfl (opv_assign (v := .pointer _) rfl) ?_; refine Wo rfl (opv_assign (v := .string _) rfl) ?_; refine Wo_nil ?_
          refine W_ret ?_; refine at_ret (v := .tuple #[.pointer _, .string _]) rfl ?_; rotate_left; contradiction; refine W_region rfl ?_; refine Wo rfl (opv_eql rfl rfl) ?_; refine Wo rfl (opv_assign (v := .bool _) rfl) ?_; refine Wo_nil ?_
          refine W_cond_dec rfl (fun h5 => ?_) (fun h5 => ?_); refine W_seq ?_; refine W_region rfl ?_; refine Wo rfl (opv_move (v := .string _) rfl) ?_; refine Wo_call rfl (opc1 (a := .string _) Try.call73 rfl) (ih2 _) ?_
          rintro _ w2 ⟨E2, y1, rfl, hy1⟩; have hs2 := E2.size; refine Wo rfl (opv_move (v := .tuple _) rfl) ?_; refine Wo rfl (opv_extract (v := .pointer _) rfl rfl) ?_; refine Wo rfl (opv_extract (v := .string _) rfl rfl) ?_
          refine Wo rfl (opv_assign (v := .pointer _) rfl) ?_; refine Wo rfl (opv_assign (v := .string _) rfl) ?_; refine Wo_nil ?_; refine W_seq ?_; refine W_seq ?_; refine W_region rfl ?_; refine Wo rfl (opv_move (v := .pointer _) rfl) ?_
          refine Wo rfl (opv_eql_some Try.underlying57 rfl rfl) ?_; refine Wo_nil ?_; refine W_cond_false rfl ?_; refine W_skip ?_; refine W_seq ?_; refine W_region rfl ?_; refine Wo rfl (opv_move (v := .pointer _) rfl) ?_
          refine Wo rfl (opv_move (v := .pointer _) rfl) ?_; refine Wo_buildSlice (ps := [(0, .pointer _)]) (cs := [_]) rfl Try.underlying76 Try.sizeOf57 Try.zeroValue57 rfl rfl rfl rfl ?_; rintro b2 w3 hb2 E3 hB2; have hlb2 := hB2.lt
          have hs3 := E3.size; refine Wo rfl (opv_nilCheck rfl) ?_; refine Wo rfl (opv_fieldAddr Try.underlying78 rfl rfl (by first | exact Try.sizeOf3 | exact Try.sizeOf9) rfl) ?_
          refine Wo_st (v := .slice _ _ _) rfl Try.sizeOf76 rfl rfl rfl (hB1.ext (E2.trans E3)) (by simp) (by omega) ((E1.trans E2).trans E3) ?_; rintro w4 E4 hB1 K1 hz1; simp only [List.set] at hB1
          have hy1 := (hy1.ext E3).keep (fun k h1 h2 => K1 k (by omega)) (by omega); have hB2 := hB2.of_heap (K1 _ (by omega)); refine Wo_nil ?_; refine W_region rfl ?_; refine Wo rfl (opv_move (v := .string _) rfl) ?_
          refine Wo rfl (opv_assign (v := .string _) rfl) ?_; refine Wo_nil ?_; refine W_seq ?_; refine W_region rfl ?_; refine Wo rfl (opv_move (v := .pointer _) rfl) ?_; refine Wo rfl (opv_move (v := .string _) rfl) ?_
          refine Wo rfl (opv_move (v := .string _) rfl) ?_; refine Wo rfl (opv_len_str Try.underlying9 rfl) ?_; refine Wo rfl (opv_move (v := .string _) rfl) ?_; refine Wo rfl (opv_len_str Try.underlying9 rfl) ?_
          refine Wo rfl (opv_sub rfl rfl (by omega)) ?_; refine Wo rfl (opv_slice_str_hi_z Try.underlying9 rfl rfl (by omega)) ?_; refine Wo rfl (opv_nilCheck rfl) ?_
          refine Wo rfl (opv_fieldAddr Try.underlying78 rfl rfl (by first | exact Try.sizeOf3 | exact Try.sizeOf9) rfl) ?_; refine Wo_st (v := .string _) rfl Try.sizeOf9 rfl rfl rfl hB1 (by simp) (by omega) E4 ?_; rintro w5 E5 hB1 K2 hz2
          simp only [List.set] at hB1; have hy1 := hy1.keep (fun k h1 h2 => K2 k (by omega)) (by omega); have hB2 := hB2.of_heap (K2 _ (by omega)); refine Wo_nil ?_; refine W_seq ?_; refine W_region rfl ?_
          refine Wo rfl (opv_move (v := .pointer _) rfl) ?_; refine Wo rfl (opv_move (v := .string _) rfl) ?_; refine Wo rfl (opv_assign (v := .pointer _) rfl) ?_; refine Wo rfl (opv_assign (v := .string _) rfl) ?_; refine Wo_nil ?_
          refine W_ret ?_; refine at_ret (v := .tuple #[.pointer _, .string _]) rfl ?_; rotate_left; (exfalso; omega)
        all_goals
          refine ⟨by assumption, ?_⟩
          rw [hp']
          refine ⟨_, rfl, fun w6 k hs => hg w6 b1 b2 _ ((hB1.keep k hb1).cast ?_) (hB2.keep k (by omega)) (hy1 w6 (k.mono (by omega)) (by omega))⟩
          rw [fin _ _ (pre_some hp')]
    by_cases c3 : c = 40
    · subst c3
      have hn : (s.getD 0 0).toNat = 40 := by rw [hc]; rfl
      cases hp : pre (s.drop 1) with
      | none =>
        have ih2 : ∀ w, Does Try.prog 73 [str (s.drop 1)] w (Ret w (.tuple #[.pointer none, str (s.drop 1)])) := fun w =>
          (ih1 w).mono fun v w' ⟨e, h⟩ => ⟨by rw [hp] at h; exact h, e⟩
        have hp' : pre s = none := by rw [es]; exact pre_br1 hp
        clear es ih1
        refine fn_of_W2 Try.func73 rfl Try.results73 Try.ntmps73 rfl ?_
        focus
          refine W_seq ?_; refine W_region rfl ?_; refine Wo rfl (opv_assign (v := .pointer _) rfl) ?_; refine Wo rfl (opv_assign (v := .string _) rfl) ?_; refine Wo_nil ?_; refine W_seq ?_; refine W_seq ?_; refine W_region rfl ?_
          refine Wo rfl (opv_move (v := .string _) rfl) ?_; refine Wo rfl (opv_eql_str rfl rfl) ?_; refine Wo_nil ?_; refine W_cond_dec rfl (fun h1 => ?_) (fun h1 => ?_); contradiction; refine W_skip ?_; refine W_seq ?_
          refine W_region rfl ?_; refine Wo rfl (opv_move (v := .string _) rfl) ?_; refine Wo rfl (opv_slice_str_lo (l := 1) Try.underlying9 rfl rfl (by omega)) ?_; refine Wo rfl (opv_assign (v := .string _) rfl) ?_; refine Wo_nil ?_
          refine W_seq ?_; refine W_region rfl ?_; refine Wo rfl (opv_move (v := .string _) rfl) ?_; refine Wo rfl (opv_index_str (k := 0) Try.underlying9 rfl rfl (by omega)) ?_
          refine Wo rfl (opv_build (ps := [(0, .int _ _)]) (cs := [_, _, _]) flat78 rfl rfl) ?_; refine Wo_box rfl rfl rfl ?_; rintro b1 w1 hb1 E1 hB1; have hlb1 := hB1.lt; have hs1 := E1.size
          refine Wo rfl (opv_assign (v := .pointer _) rfl) ?_; refine Wo_nil ?_; refine W_seq ?_; refine W_seq ?_; refine W_region rfl ?_; refine Wo rfl (opv_move (v := .string _) rfl) ?_
          refine Wo rfl (opv_index_str (k := 0) Try.underlying9 rfl rfl (by omega)) ?_; refine Wo_nil ?_; refine W_block ?_; refine W_seq ?_; refine W_region rfl ?_; refine Wo rfl (opv_eql rfl rfl) ?_
          refine Wo rfl (opv_assign (v := .bool _) rfl) ?_; refine Wo_nil ?_; refine W_cond_dec rfl (fun h2 => ?_) (fun h2 => ?_); (exfalso; omega); refine W_seq ?_; refine W_seq ?_; refine W_region rfl ?_; refine Wo rfl (opv_eql rfl rfl) ?_
          refine Wo rfl (opv_assign (v := .bool _) rfl) ?_; refine Wo_nil ?_; refine W_cond_dec rfl (fun h3 => ?_) (fun h3 => ?_); (exfalso; omega); refine W_seq ?_; refine W_region rfl ?_; refine Wo rfl (opv_eql rfl rfl) ?_
          refine Wo rfl (opv_assign (v := .bool _) rfl) ?_; refine Wo_nil ?_; refine W_cond_dec rfl (fun h4 => ?_) (fun h4 => ?_); (exfalso; omega); refine W_region rfl ?_; refine Wo rfl (opv_eql rfl rfl) ?_
          refine Wo rfl (opv_assign (v := .bool _) rfl) ?_; refine Wo_nil ?_; refine W_cond_dec rfl (fun h5 => ?_) (fun h5 => ?_); (exfalso; omega); refine W_seq ?_; refine W_region rfl ?_; refine Wo rfl (opv_eql rfl rfl) ?_
          refine Wo rfl (opv_assign (v := .bool _) rfl) ?_; refine Wo_nil ?_; refine W_cond_dec rfl (fun h6 => ?_) (fun h6 => ?_); refine W_seq ?_; refine W_region rfl ?_; refine Wo rfl (opv_move (v := .string _) rfl) ?_
          refine Wo_call rfl (opc1 (a := .string _) Try.call73 rfl) (ih2 _) ?_; rintro _ w2 ⟨rfl, E2⟩; have hs2 := E2.size; refine Wo rfl (opv_move (v := .tuple _) rfl) ?_; refine Wo rfl (opv_extract (v := .pointer _) rfl rfl) ?_
          refine Wo rfl (opv_extract (v := .string _) rfl rfl) ?_; refine Wo rfl (opv_assign (v := .pointer _) rfl) ?_; refine Wo rfl (opv_assign (v := .string _) rfl) ?_; refine Wo_nil ?_; refine W_seq ?_; refine W_seq ?_
          refine W_region rfl ?_; refine Wo rfl (opv_move (v := .pointer _) rfl) ?_; refine Wo rfl (opv_eql_nil Try.underlying57 rfl rfl) ?_; refine Wo rfl (opv_move (v := .bool _) rfl) ?_; refine Wo_skip rfl ?_; refine Wo_skip rfl ?_
          refine Wo rfl (opv_pick_t (v := .bool _) rfl rfl) ?_; refine Wo rfl (opv_move (v := .bool _) rfl) ?_; refine Wo_skip rfl ?_; refine Wo_skip rfl ?_; refine Wo_skip rfl ?_; refine Wo_skip rfl ?_; refine Wo_skip rfl ?_
          refine Wo_skip rfl ?_; refine Wo_skip rfl ?_; refine Wo_skip rfl ?_; refine Wo rfl (opv_pick_t (v := .bool _) rfl rfl) ?_; refine Wo_nil ?_; refine W_cond_true rfl ?_; refine W_seq ?_; refine W_region rfl ?_
          refine Wo rfl (opv_move (v := .string _) rfl) ?_; refine Wo rfl (opv_assign (v := .pointer _) rfl) ?_; refine Wo rfl (opv_assign (v := .string _) rfl) ?_; refine Wo_nil ?_; refine W_ret ?_
          refine at_ret (v := .tuple #[.pointer _, .string _]) rfl ?_; rotate_left; (exfalso; omega)
        all_goals exact ⟨E1.trans E2, by rw [hp']⟩
      | some q =>
        obtain ⟨f, r1⟩ := q
        have ih2 : ∀ w, Does Try.prog 73 [str (s.drop 1)] w (RetX w (fun ad => .tuple #[.pointer (some ad), str r1]) fun ad w' => Above w.heap.size EFm w' (.pointer (some ad)) f) := fun w =>
          (ih1 w).mono fun v w' ⟨e, h⟩ => by
            rw [hp] at h
            obtain ⟨u, hv, hu⟩ := h
            obtain ⟨ad, rfl⟩ := hu.here.ptr
            exact ⟨e, ad, hv, hu⟩
        have hl1 : r1.length + f.enc.length = s.length - 1 := by have := congrArg List.length (pre_some hp); simp at this; omega
        clear ih1
        by_cases r0 : r1 = []
        · have hp' : pre s = none := by rw [es]; exact pre_br2 hp (by rintro c r2 rfl; cases r0)
          subst r0
          clear es
          refine fn_of_W2 Try.func73 rfl Try.results73 Try.ntmps73 rfl ?_
          focus
            refine W_seq ?_; refine W_region rfl ?_; refine Wo rfl (opv_assign (v := .pointer _) rfl) ?_; refine Wo rfl (opv_assign (v := .string _) rfl) ?_; refine Wo_nil ?_; refine W_seq ?_; refine W_seq ?_; refine W_region rfl ?_
            refine Wo rfl (opv_move (v := .string _) rfl) ?_; refine Wo rfl (opv_eql_str rfl rfl) ?_; refine Wo_nil ?_; refine W_cond_dec rfl (fun h1 => ?_) (fun h1 => ?_); contradiction; refine W_skip ?_; refine W_seq ?_
            refine W_region rfl ?_; refine Wo rfl (opv_move (v := .string _) rfl) ?_; refine Wo rfl (opv_slice_str_lo (l := 1) Try.underlying9 rfl rfl (by omega)) ?_; refine Wo rfl (opv_assign (v := .string _) rfl) ?_; refine Wo_nil ?_
            refine W_seq ?_; refine W_region rfl ?_; refine Wo rfl (opv_move (v := .string _) rfl) ?_; refine Wo rfl (opv_index_str (k := 0) Try.underlying9 rfl rfl (by omega)) ?_
            refine Wo rfl (opv_build (ps := [(0, .int _ _)]) (cs := [_, _, _]) flat78 rfl rfl) ?_; refine Wo_box rfl rfl rfl ?_; rintro b1 w1 hb1 E1 hB1; have hlb1 := hB1.lt; have hs1 := E1.size
            refine Wo rfl (opv_assign (v := .pointer _) rfl) ?_; refine Wo_nil ?_; refine W_seq ?_; refine W_seq ?_; refine W_region rfl ?_; refine Wo rfl (opv_move (v := .string _) rfl) ?_
            refine Wo rfl (opv_index_str (k := 0) Try.underlying9 rfl rfl (by omega)) ?_; refine Wo_nil ?_; refine W_block ?_; refine W_seq ?_; refine W_region rfl ?_; refine Wo rfl (opv_eql rfl rfl) ?_
            refine Wo rfl (opv_assign (v := .bool _) rfl) ?_; refine Wo_nil ?_; refine W_cond_dec rfl (fun h2 => ?_) (fun h2 => ?_); (exfalso; omega); refine W_seq ?_; refine W_seq ?_; refine W_region rfl ?_; refine Wo rfl (opv_eql rfl rfl) ?_
            refine Wo rfl (opv_assign (v := .bool _) rfl) ?_; refine Wo_nil ?_; refine W_cond_dec rfl (fun h3 => ?_) (fun h3 => ?_); (exfalso; omega); refine W_seq ?_; refine W_region rfl ?_; refine Wo rfl (opv_eql rfl rfl) ?_
            refine Wo rfl (opv_assign (v := .bool _) rfl) ?_; refine Wo_nil ?_; refine W_cond_dec rfl (fun h4 => ?_) (fun h4 => ?_); (exfalso; omega); refine W_region rfl ?_; refine Wo rfl (opv_eql rfl rfl) ?_
            refine Wo rfl (opv_assign (v := .bool _) rfl) ?_; refine Wo_nil ?_; refine W_cond_dec rfl (fun h5 => ?_) (fun h5 => ?_); (exfalso; omega); refine W_seq ?_; refine W_region rfl ?_; refine Wo rfl (opv_eql rfl rfl) ?_
            refine Wo rfl (opv_assign (v := .bool _) rfl) ?_; refine Wo_nil ?_; refine W_cond_dec rfl (fun h6 => ?_) (fun h6 => ?_); refine W_seq ?_; refine W_region rfl ?_; refine Wo rfl (opv_move (v := .string _) rfl) ?_
            refine Wo_call rfl (opc1 (a := .string _) Try.call73 rfl) (ih2 _) ?_; rintro _ w2 ⟨E2, y1, rfl, hy1⟩; have hs2 := E2.size; refine Wo rfl (opv_move (v := .tuple _) rfl) ?_; refine Wo rfl (opv_extract (v := .pointer _) rfl rfl) ?_
            refine Wo rfl (opv_extract (v := .string _) rfl rfl) ?_; refine Wo rfl (opv_assign (v := .pointer _) rfl) ?_; refine Wo rfl (opv_assign (v := .string _) rfl) ?_; refine Wo_nil ?_; refine W_seq ?_; refine W_seq ?_
            refine W_region rfl ?_; refine Wo rfl (opv_move (v := .pointer _) rfl) ?_; refine Wo rfl (opv_eql_some Try.underlying57 rfl rfl) ?_; refine Wo rfl (opv_move (v := .bool _) rfl) ?_; refine Wo rfl (opv_move (v := .string _) rfl) ?_
            refine Wo rfl (opv_eql_str rfl rfl) ?_; refine Wo rfl (opv_pick_f (v := .bool _) rfl rfl) ?_; refine Wo_split_dec rfl (opv_move (v := .bool _) rfl) (fun h7 => ?_) (fun h7 => ?_); refine Wo_skip rfl ?_; refine Wo_skip rfl ?_
            refine Wo_skip rfl ?_; refine Wo_skip rfl ?_; refine Wo_skip rfl ?_; refine Wo_skip rfl ?_; refine Wo_skip rfl ?_; refine Wo_skip rfl ?_; refine Wo rfl (opv_pick_t (v := .bool _) rfl rfl) ?_; refine Wo_nil ?_
            refine W_cond_true rfl ?_; refine W_seq ?_; refine W_region rfl ?_; refine Wo rfl (opv_move (v := .string _) rfl) ?_; refine Wo rfl (opv_assign (v := .pointer _) rfl) ?_; refine Wo rfl (opv_assign (v := .string _) rfl) ?_
            refine Wo_nil ?_; refine W_ret ?_; refine at_ret (v := .tuple #[.pointer _, .string _]) rfl ?_; rotate_left; contradiction; (exfalso; omega)
          all_goals exact ⟨E1.trans E2, by rw [hp']⟩
        have hr1 : 0 < r1.length := List.length_pos_iff.2 r0
        have er : r1 = r1.getD 0 0 :: r1.drop 1 := by have := drop_cons hr1; simpa using this
        have hr1l : (r1.drop 1).length = r1.length - 1 := by simp
        generalize hd : r1.getD 0 0 = d at er
        by_cases c4 : d = 38 ∨ d = 124
        · have hn2 : (r1.getD 0 0).toNat = 38 ∨ (r1.getD 0 0).toNat = 124 := by rw [hd]; rcases c4 with rfl | rfl <;> simp
          have ih3 : ∀ w, Does Try.prog 73 [str (r1.drop 1)] w (PartP w (r1.drop 1)) := fun w => ih _ w (by unfold lim; omega) (by omega)
          rw [er] at hp
          cases hp2 : pre (r1.drop 1) with
          | none =>
            have ih4 : ∀ w, Does Try.prog 73 [str (r1.drop 1)] w (Ret w (.tuple #[.pointer none, str (r1.drop 1)])) := fun w =>
              (ih3 w).mono fun v w' ⟨e, h⟩ => ⟨by rw [hp2] at h; exact h, e⟩
            have hp' : pre s = none := by rw [es]; exact pre_br3 hp hp2
            clear es er ih3
            refine fn_of_W2 Try.func73 rfl Try.results73 Try.ntmps73 rfl ?_
            focus
              refine W_seq ?_; refine W_region rfl ?_; refine Wo rfl (opv_assign (v := .pointer _) rfl) ?_; refine Wo rfl (opv_assign (v := .string _) rfl) ?_; refine Wo_nil ?_; refine W_seq ?_; refine W_seq ?_; refine W_region rfl ?_
              refine Wo rfl (opv_move (v := .string _) rfl) ?_; refine Wo rfl (opv_eql_str rfl rfl) ?_; refine Wo_nil ?_; refine W_cond_dec rfl (fun h1 => ?_) (fun h1 => ?_); contradiction; refine W_skip ?_; refine W_seq ?_
              refine W_region rfl ?_; refine Wo rfl (opv_move (v := .string _) rfl) ?_; refine Wo rfl (opv_slice_str_lo (l := 1) Try.underlying9 rfl rfl (by omega)) ?_; refine Wo rfl (opv_assign (v := .string _) rfl) ?_; refine Wo_nil ?_
              refine W_seq ?_; refine W_region rfl ?_; refine Wo rfl (opv_move (v := .string _) rfl) ?_; refine Wo rfl (opv_index_str (k := 0) Try.underlying9 rfl rfl (by omega)) ?_
              refine Wo rfl (opv_build (ps := [(0, .int _ _)]) (cs := [_, _, _]) flat78 rfl rfl) ?_; refine Wo_box rfl rfl rfl ?_; rintro b1 w1 hb1 E1 hB1; have hlb1 := hB1.lt; have hs1 := E1.size
              refine Wo rfl (opv_assign (v := .pointer _) rfl) ?_; refine Wo_nil ?_; refine W_seq ?_; refine W_seq ?_; refine W_region rfl ?_; refine Wo rfl (opv_move (v := .string _) rfl) ?_
              refine Wo rfl (opv_index_str (k := 0) Try.underlying9 rfl rfl (by omega)) ?_; refine Wo_nil ?_; refine W_block ?_; refine W_seq ?_; refine W_region rfl ?_; refine Wo rfl (opv_eql rfl rfl) ?_
              refine Wo rfl (opv_assign (v := .bool _) rfl) ?_; refine Wo_nil ?_; refine W_cond_dec rfl (fun h2 => ?_) (fun h2 => ?_); (exfalso; omega); refine W_seq ?_; refine W_seq ?_; refine W_region rfl ?_; refine Wo rfl (opv_eql rfl rfl) ?_
              refine Wo rfl (opv_assign (v := .bool _) rfl) ?_; refine Wo_nil ?_; refine W_cond_dec rfl (fun h3 => ?_) (fun h3 => ?_); (exfalso; omega); refine W_seq ?_; refine W_region rfl ?_; refine Wo rfl (opv_eql rfl rfl) ?_
              refine Wo rfl (opv_assign (v := .bool _) rfl) ?_; refine Wo_nil ?_; refine W_cond_dec rfl (fun h4 => ?_) (fun h4 => ?_); (exfalso; omega); refine W_region rfl ?_; refine Wo rfl (opv_eql rfl rfl) ?_
              refine Wo rfl (opv_assign (v := .bool _) rfl) ?_; refine Wo_nil ?_; refine W_cond_dec rfl (fun h5 => ?_) (fun h5 => ?_); (exfalso; omega); refine W_seq ?_; refine W_region rfl ?_; refine Wo rfl (opv_eql rfl rfl) ?_
              refine Wo rfl (opv_assign (v := .bool _) rfl) ?_; refine Wo_nil ?_; refine W_cond_dec rfl (fun h6 => ?_) (fun h6 => ?_); refine W_seq ?_; refine W_region rfl ?_; refine Wo rfl (opv_move (v := .string _) rfl) ?_
              refine Wo_call rfl (opc1 (a := .string _) Try.call73 rfl) (ih2 _) ?_; rintro _ w2 ⟨E2, y1, rfl, hy1⟩; have hs2 := E2.size; refine Wo rfl (opv_move (v := .tuple _) rfl) ?_; refine Wo rfl (opv_extract (v := .pointer _) rfl rfl) ?_
              refine Wo rfl (opv_extract (v := .string _) rfl rfl) ?_; refine Wo rfl (opv_assign (v := .pointer _) rfl) ?_; refine Wo rfl (opv_assign (v := .string _) rfl) ?_; refine Wo_nil ?_; refine W_seq ?_; refine W_seq ?_
              refine W_region rfl ?_; refine Wo rfl (opv_move (v := .pointer _) rfl) ?_; refine Wo rfl (opv_eql_some Try.underlying57 rfl rfl) ?_; refine Wo rfl (opv_move (v := .bool _) rfl) ?_; refine Wo rfl (opv_move (v := .string _) rfl) ?_
              refine Wo rfl (opv_eql_str rfl rfl) ?_; refine Wo rfl (opv_pick_f (v := .bool _) rfl rfl) ?_; refine Wo_split_dec rfl (opv_move (v := .bool _) rfl) (fun h7 => ?_) (fun h7 => ?_); contradiction
              refine Wo rfl (opv_move (v := .string _) rfl) ?_; refine Wo rfl (opv_index_str (k := 0) Try.underlying9 rfl rfl (by omega)) ?_; refine Wo rfl (opv_neq rfl rfl) ?_
              refine Wo_split_ndec rfl (opv_move (v := .bool _) rfl) (fun h8 => ?_) (fun h8 => ?_); refine Wo rfl (opv_move (v := .string _) rfl) ?_; refine Wo rfl (opv_index_str (k := 0) Try.underlying9 rfl rfl (by omega)) ?_
              refine Wo rfl (opv_neq rfl rfl) ?_; refine Wo rfl (opv_pick_t (v := .bool _) rfl rfl) ?_; refine Wo rfl (opv_pick_f (v := .bool _) rfl rfl) ?_; refine Wo_nil ?_; refine W_cond_ndec rfl (fun h9 => ?_) (fun h9 => ?_); (exfalso; omega)
              refine W_skip ?_; refine W_seq ?_; refine W_region rfl ?_; refine Wo rfl (opv_move (v := .string _) rfl) ?_; refine Wo rfl (opv_slice_str_lo (l := 1) Try.underlying9 rfl rfl (by omega)) ?_
              refine Wo_call rfl (opc1 (a := .string _) Try.call73 rfl) (ih4 _) ?_; rintro _ w3 ⟨rfl, E3⟩; have hs3 := E3.size; refine Wo rfl (opv_move (v := .tuple _) rfl) ?_; refine Wo rfl (opv_extract (v := .pointer _) rfl rfl) ?_
              refine Wo rfl (opv_extract (v := .string _) rfl rfl) ?_; refine Wo rfl (opv_assign (v := .pointer _) rfl) ?_; refine Wo rfl (opv_assign (v := .string _) rfl) ?_; refine Wo_nil ?_; refine W_seq ?_; refine W_seq ?_
              refine W_region rfl ?_; refine Wo rfl (opv_move (v := .pointer _) rfl) ?_; refine Wo rfl (opv_eql_nil Try.underlying57 rfl rfl) ?_; refine Wo rfl (opv_move (v := .bool _) rfl) ?_; refine Wo_skip rfl ?_; refine Wo_skip rfl ?_
              refine Wo rfl (opv_pick_t (v := .bool _) rfl rfl) ?_; refine Wo rfl (opv_move (v := .bool _) rfl) ?_; refine Wo_skip rfl ?_; refine Wo_skip rfl ?_; refine Wo_skip rfl ?_; refine Wo rfl (opv_pick_t (v := .bool _) rfl rfl) ?_
              refine Wo_nil ?_; refine W_cond_true rfl ?_; refine W_seq ?_; refine W_region rfl ?_; refine Wo rfl (opv_move (v := .string _) rfl) ?_; refine Wo rfl (opv_assign (v := .pointer _) rfl) ?_
              refine Wo rfl (opv_assign (v := .string _) rfl) ?_; refine Wo_nil ?_; refine W_ret ?_; refine at_ret (v := .tuple #[.pointer _, .string _]) rfl ?_; rotate_left; refine Wo_skip rfl ?_; refine Wo_skip rfl ?_; refine Wo_skip rfl ?_
              refine Wo rfl (opv_pick_f (v := .bool _) rfl rfl) ?_; refine Wo rfl (opv_pick_f (v := .bool _) rfl rfl) ?_; refine Wo_nil ?_; refine W_cond_false rfl ?_; refine W_skip ?_; refine W_seq ?_; refine W_region rfl ?_
              refine Wo rfl (opv_move (v := .string _) rfl) ?_; refine Wo rfl (opv_slice_str_lo (l := 1) Try.underlying9 rfl rfl (by omega)) ?_; refine Wo_call rfl (opc1 (a := .string _) Try.call73 rfl) (ih4 _) ?_; rintro _ w3 ⟨rfl, E3⟩
              have hs3 := E3.size; refine Wo rfl (opv_move (v := .tuple _) rfl) ?_; refine Wo rfl (opv_extract (v := .pointer _) rfl rfl) ?_; refine Wo rfl (opv_extract (v := .string _) rfl rfl) ?_
              refine Wo rfl (opv_assign (v := .pointer _) rfl) ?_; refine Wo rfl (opv_assign (v := .string _) rfl) ?_; refine Wo_nil ?_; refine W_seq ?_; refine W_seq ?_; refine W_region rfl ?_; refine Wo rfl (opv_move (v := .pointer _) rfl) ?_
              refine Wo rfl (opv_eql_nil Try.underlying57 rfl rfl) ?_; refine Wo rfl (opv_move (v := .bool _) rfl) ?_; refine Wo_skip rfl ?_; refine Wo_skip rfl ?_; refine Wo rfl (opv_pick_t (v := .bool _) rfl rfl) ?_
              refine Wo rfl (opv_move (v := .bool _) rfl) ?_; refine Wo_skip rfl ?_; refine Wo_skip rfl ?_; refine Wo_skip rfl ?_; refine Wo rfl (opv_pick_t (v := .bool _) rfl rfl) ?_; refine Wo_nil ?_; refine W_cond_true rfl ?_; refine W_seq ?_
              refine W_region rfl ?_; refine Wo rfl (opv_move (v := .string _) rfl) ?_; refine Wo rfl (opv_assign (v := .pointer _) rfl) ?_; refine Wo rfl (opv_assign (v := .string _) rfl) ?_; refine Wo_nil ?_; refine W_ret ?_
              refine at_ret (v := .tuple #[.pointer _, .string _]) rfl ?_; rotate_left; (exfalso; omega)
            all_goals exact ⟨(E1.trans E2).trans E3, by rw [hp']⟩
          | some q2 =>
            obtain ⟨g, r3⟩ := q2
            have ih4 : ∀ w, Does Try.prog 73 [str (r1.drop 1)] w (RetX w (fun ad => .tuple #[.pointer (some ad), str r3]) fun ad w' => Above w.heap.size EFm w' (.pointer (some ad)) g) := fun w =>
              (ih3 w).mono fun v w' ⟨e, h⟩ => by
                rw [hp2] at h
                obtain ⟨u, hv, hu⟩ := h
                obtain ⟨ad, rfl⟩ := hu.here.ptr
                exact ⟨e, ad, hv, hu⟩
            have hl3 : r3.length + g.enc.length = r1.length - 1 := by have := congrArg List.length (pre_some hp2); simp at this; omega
            clear ih3
            by_cases r0' : r3 = []
            · have hp' : pre s = none := by rw [es]; exact pre_br4 hp hp2 (by rintro r4 rfl; cases r0')
              subst r0'
              clear es er
              refine fn_of_W2 Try.func73 rfl Try.results73 Try.ntmps73 rfl ?_
              focus
                refine W_seq ?_; refine W_region rfl ?_; refine Wo rfl (opv_assign (v := .pointer _) rfl) ?_; refine Wo rfl (opv_assign (v := .string _) rfl) ?_; refine Wo_nil ?_; refine W_seq ?_; refine W_seq ?_; refine W_region rfl ?_
                refine Wo rfl (opv_move (v := .string _) rfl) ?_; refine Wo rfl (opv_eql_str rfl rfl) ?_; refine Wo_nil ?_; refine W_cond_dec rfl (fun h1 => ?_) (fun h1 => ?_); contradiction; refine W_skip ?_; refine W_seq ?_
                refine W_region rfl ?_; refine Wo rfl (opv_move (v := .string _) rfl) ?_; refine Wo rfl (opv_slice_str_lo (l := 1) Try.underlying9 rfl rfl (by omega)) ?_; refine Wo rfl (opv_assign (v := .string _) rfl) ?_; refine Wo_nil ?_
                refine W_seq ?_; refine W_region rfl ?_; refine Wo rfl (opv_move (v := .string _) rfl) ?_; refine Wo rfl (opv_index_str (k := 0) Try.underlying9 rfl rfl (by omega)) ?_
                refine Wo rfl (opv_build (ps := [(0, .int _ _)]) (cs := [_, _, _]) flat78 rfl rfl) ?_; refine Wo_box rfl rfl rfl ?_; rintro b1 w1 hb1 E1 hB1; have hlb1 := hB1.lt; have hs1 := E1.size
                refine Wo rfl (opv_assign (v := .pointer _) rfl) ?_; refine Wo_nil ?_; refine W_seq ?_; refine W_seq ?_; refine W_region rfl ?_; refine Wo rfl (opv_move (v := .string _) rfl) ?_
                refine Wo rfl (opv_index_str (k := 0) Try.underlying9 rfl rfl (by omega)) ?_; refine Wo_nil ?_; refine W_block ?_; refine W_seq ?_; refine W_region rfl ?_; refine Wo rfl (opv_eql rfl rfl) ?_
                refine Wo rfl (opv_assign (v := .bool _) rfl) ?_; refine Wo_nil ?_; refine W_cond_dec rfl (fun h2 => ?_) (fun h2 => ?_); (exfalso; omega); refine W_seq ?_; refine W_seq ?_; refine W_region rfl ?_; refine Wo rfl (opv_eql rfl rfl) ?_
                refine Wo rfl (opv_assign (v := .bool _) rfl) ?_; refine Wo_nil ?_; refine W_cond_dec rfl (fun h3 => ?_) (fun h3 => ?_); (exfalso; omega); refine W_seq ?_; refine W_region rfl ?_; refine Wo rfl (opv_eql rfl rfl) ?_
                refine Wo rfl (opv_assign (v := .bool _) rfl) ?_; refine Wo_nil ?_; refine W_cond_dec rfl (fun h4 => ?_) (fun h4 => ?_); (exfalso; omega); refine W_region rfl ?_; refine Wo rfl (opv_eql rfl rfl) ?_
                refine Wo rfl (opv_assign (v := .bool _) rfl) ?_; refine Wo_nil ?_; refine W_cond_dec rfl (fun h5 => ?_) (fun h5 => ?_); (exfalso; omega); refine W_seq ?_; refine W_region rfl ?_; refine Wo rfl (opv_eql rfl rfl) ?_
                refine Wo rfl (opv_assign (v := .bool _) rfl) ?_; refine Wo_nil ?_; refine W_cond_dec rfl (fun h6 => ?_) (fun h6 => ?_); refine W_seq ?_; refine W_region rfl ?_; refine Wo rfl (opv_move (v := .string _) rfl) ?_
                refine Wo_call rfl (opc1 (a := .string _) Try.call73 rfl) (ih2 _) ?_; rintro _ w2 ⟨E2, y1, rfl, hy1⟩; have hs2 := E2.size; refine Wo rfl (opv_move (v := .tuple _) rfl) ?_; refine Wo rfl (opv_extract (v := .pointer _) rfl rfl) ?_
                refine Wo rfl (opv_extract (v := .string _) rfl rfl) ?_; refine Wo rfl (opv_assign (v := .pointer _) rfl) ?_; refine Wo rfl (opv_assign (v := .string _) rfl) ?_; refine Wo_nil ?_; refine W_seq ?_; refine W_seq ?_
                refine W_region rfl ?_; refine Wo rfl (opv_move (v := .pointer _) rfl) ?_; refine Wo rfl (opv_eql_some Try.underlying57 rfl rfl) ?_; refine Wo rfl (opv_move (v := .bool _) rfl) ?_; refine Wo rfl (opv_move (v := .string _) rfl) ?_
                refine Wo rfl (opv_eql_str rfl rfl) ?_; refine Wo rfl (opv_pick_f (v := .bool _) rfl rfl) ?_; refine Wo_split_dec rfl (opv_move (v := .bool _) rfl) (fun h7 => ?_) (fun h7 => ?_); contradiction
                refine Wo rfl (opv_move (v := .string _) rfl) ?_; refine Wo rfl (opv_index_str (k := 0) Try.underlying9 rfl rfl (by omega)) ?_; refine Wo rfl (opv_neq rfl rfl) ?_
                refine Wo_split_ndec rfl (opv_move (v := .bool _) rfl) (fun h8 => ?_) (fun h8 => ?_); refine Wo rfl (opv_move (v := .string _) rfl) ?_; refine Wo rfl (opv_index_str (k := 0) Try.underlying9 rfl rfl (by omega)) ?_
                refine Wo rfl (opv_neq rfl rfl) ?_; refine Wo rfl (opv_pick_t (v := .bool _) rfl rfl) ?_; refine Wo rfl (opv_pick_f (v := .bool _) rfl rfl) ?_; refine Wo_nil ?_; refine W_cond_ndec rfl (fun h9 => ?_) (fun h9 => ?_); (exfalso; omega)
                refine W_skip ?_; refine W_seq ?_; refine W_region rfl ?_; refine Wo rfl (opv_move (v := .string _) rfl) ?_; refine Wo rfl (opv_slice_str_lo (l := 1) Try.underlying9 rfl rfl (by omega)) ?_
                refine Wo_call rfl (opc1 (a := .string _) Try.call73 rfl) (ih4 _) ?_; rintro _ w3 ⟨E3, y2, rfl, hy2⟩; have hs3 := E3.size; refine Wo rfl (opv_move (v := .tuple _) rfl) ?_; refine Wo rfl (opv_extract (v := .pointer _) rfl rfl) ?_
                refine Wo rfl (opv_extract (v := .string _) rfl rfl) ?_; refine Wo rfl (opv_assign (v := .pointer _) rfl) ?_; refine Wo rfl (opv_assign (v := .string _) rfl) ?_; refine Wo_nil ?_; refine W_seq ?_; refine W_seq ?_
                refine W_region rfl ?_; refine Wo rfl (opv_move (v := .pointer _) rfl) ?_; refine Wo rfl (opv_eql_some Try.underlying57 rfl rfl) ?_; refine Wo rfl (opv_move (v := .bool _) rfl) ?_; refine Wo rfl (opv_move (v := .string _) rfl) ?_
                refine Wo rfl (opv_eql_str rfl rfl) ?_; refine Wo rfl (opv_pick_f (v := .bool _) rfl rfl) ?_; refine Wo_split_dec rfl (opv_move (v := .bool _) rfl) (fun h10 => ?_) (fun h10 => ?_); refine Wo_skip rfl ?_; refine Wo_skip rfl ?_
                refine Wo_skip rfl ?_; refine Wo rfl (opv_pick_t (v := .bool _) rfl rfl) ?_; refine Wo_nil ?_; refine W_cond_true rfl ?_; refine W_seq ?_; refine W_region rfl ?_; refine Wo rfl (opv_move (v := .string _) rfl) ?_
                refine Wo rfl (opv_assign (v := .pointer _) rfl) ?_; refine Wo rfl (opv_assign (v := .string _) rfl) ?_; refine Wo_nil ?_; refine W_ret ?_; refine at_ret (v := .tuple #[.pointer _, .string _]) rfl ?_; rotate_left; contradiction
                refine Wo_skip rfl ?_; refine Wo_skip rfl ?_; refine Wo_skip rfl ?_; refine Wo rfl (opv_pick_f (v := .bool _) rfl rfl) ?_; refine Wo rfl (opv_pick_f (v := .bool _) rfl rfl) ?_; refine Wo_nil ?_; refine W_cond_false rfl ?_
                refine W_skip ?_; refine W_seq ?_; refine W_region rfl ?_; refine Wo rfl (opv_move (v := .string _) rfl) ?_; refine Wo rfl (opv_slice_str_lo (l := 1) Try.underlying9 rfl rfl (by omega)) ?_
                refine Wo_call rfl (opc1 (a := .string _) Try.call73 rfl) (ih4 _) ?_; rintro _ w3 ⟨E3, y2, rfl, hy2⟩; have hs3 := E3.size; refine Wo rfl (opv_move (v := .tuple _) rfl) ?_; refine Wo rfl (opv_extract (v := .pointer _) rfl rfl) ?_
                refine Wo rfl (opv_extract (v := .string _) rfl rfl) ?_; refine Wo rfl (opv_assign (v := .pointer _) rfl) ?_; refine Wo rfl (opv_assign (v := .string _) rfl) ?_; refine Wo_nil ?_; refine W_seq ?_; refine W_seq ?_
                refine W_region rfl ?_; refine Wo rfl (opv_move (v := .pointer _) rfl) ?_; refine Wo rfl (opv_eql_some Try.underlying57 rfl rfl) ?_; refine Wo rfl (opv_move (v := .bool _) rfl) ?_; refine Wo rfl (opv_move (v := .string _) rfl) ?_
                refine Wo rfl (opv_eql_str rfl rfl) ?_; refine Wo rfl (opv_pick_f (v := .bool _) rfl rfl) ?_; refine Wo_split_dec rfl (opv_move (v := .bool _) rfl) (fun h9 => ?_) (fun h9 => ?_); refine Wo_skip rfl ?_; refine Wo_skip rfl ?_
                refine Wo_skip rfl ?_; refine Wo rfl (opv_pick_t (v := .bool _) rfl rfl) ?_; refine Wo_nil ?_; refine W_cond_true rfl ?_; refine W_seq ?_; refine W_region rfl ?_; refine Wo rfl (opv_move (v := .string _) rfl) ?_
                refine Wo rfl (opv_assign (v := .pointer _) rfl) ?_; refine Wo rfl (opv_assign (v := .string _) rfl) ?_; refine Wo_nil ?_; refine W_ret ?_; refine at_ret (v := .tuple #[.pointer _, .string _]) rfl ?_; rotate_left; contradiction
                (exfalso; omega)
              all_goals exact ⟨(E1.trans E2).trans E3, by rw [hp']⟩
            have hr3 : 0 < r3.length := List.length_pos_iff.2 r0'
            have er3 : r3 = r3.getD 0 0 :: r3.drop 1 := by have := drop_cons hr3; simpa using this
            have hr3l : (r3.drop 1).length = r3.length - 1 := by simp
            generalize hd3 : r3.getD 0 0 = d3 at er3
            by_cases c5 : d3 = 41
            · have hn3 : (r3.getD 0 0).toNat = 41 := by rw [hd3, c5]; rfl
              have hh : ∃ k : Fm, pre s = some (k, r3.drop 1) ∧ ∀ (w : World) (b bp : Nat) (u u' : Value), Blk w b [.int .u8 ((r1.getD 0 0).toNat : Int), str k.enc, .slice (some ⟨bp, 0, none⟩) 2 2] → Blk w bp [u, u'] → EFm w u f → EFm w u' g → EFm w (.pointer (some ⟨b, 0, none⟩)) k := by
                rw [hd]
                rw [er3, c5] at hp2
                rcases c4 with rfl | rfl
                · exact ⟨.and f g, by rw [es]; exact pre_and hp hp2, fun w b bp u u' h1 h2 h3 h4 => ⟨b, bp, u, u', rfl, h1, h2, h3, h4⟩⟩
                · exact ⟨.or f g, by rw [es]; exact pre_or hp hp2, fun w b bp u u' h1 h2 h3 h4 => ⟨b, bp, u, u', rfl, h1, h2, h3, h4⟩⟩
              obtain ⟨k, hp', hg⟩ := hh
              clear es er er3 c5
              refine fn_of_W2 Try.func73 rfl Try.results73 Try.ntmps73 rfl ?_
              focus
                refine W_seq ?_; refine W_region rfl ?_; refine Wo rfl (opv_assign (v := .pointer _) rfl) ?_; refine Wo rfl (opv_assign (v := .string _) rfl) ?_; refine Wo_nil ?_; refine W_seq ?_; refine W_seq ?_; refine W_region rfl ?_
                refine Wo rfl (opv_move (v := .string _) rfl) ?_; refine Wo rfl (opv_eql_str rfl rfl) ?_; refine Wo_nil ?_; refine W_cond_dec rfl (fun h1 => ?_) (fun h1 => ?_); contradiction; refine W_skip ?_; refine W_seq ?_
                refine W_region rfl ?_; refine Wo rfl (opv_move (v := .string _) rfl) ?_; refine Wo rfl (opv_slice_str_lo (l := 1) Try.underlying9 rfl rfl (by omega)) ?_; refine Wo rfl (opv_assign (v := .string _) rfl) ?_; refine Wo_nil ?_
                refine W_seq ?_; refine W_region rfl ?_; refine Wo rfl (opv_move (v := .string _) rfl) ?_; refine Wo rfl (opv_index_str (k := 0) Try.underlying9 rfl rfl (by omega)) ?_
                refine Wo rfl (opv_build (ps := [(0, .int _ _)]) (cs := [_, _, _]) flat78 rfl rfl) ?_; refine Wo_box rfl rfl rfl ?_; rintro b1 w1 hb1 E1 hB1; have hlb1 := hB1.lt; have hs1 := E1.size
                refine Wo rfl (opv_assign (v := .pointer _) rfl) ?_; refine Wo_nil ?_; refine W_seq ?_; refine W_seq ?_; refine W_region rfl ?_; refine Wo rfl (opv_move (v := .string _) rfl) ?_
                refine Wo rfl (opv_index_str (k := 0) Try.underlying9 rfl rfl (by omega)) ?_; refine Wo_nil ?_; refine W_block ?_; refine W_seq ?_; refine W_region rfl ?_; refine Wo rfl (opv_eql rfl rfl) ?_
                refine Wo rfl (opv_assign (v := .bool _) rfl) ?_; refine Wo_nil ?_; refine W_cond_dec rfl (fun h2 => ?_) (fun h2 => ?_); (exfalso; omega); refine W_seq ?_; refine W_seq ?_; refine W_region rfl ?_; refine Wo rfl (opv_eql rfl rfl) ?_
                refine Wo rfl (opv_assign (v := .bool _) rfl) ?_; refine Wo_nil ?_; refine W_cond_dec rfl (fun h3 => ?_) (fun h3 => ?_); (exfalso; omega); refine W_seq ?_; refine W_region rfl ?_; refine Wo rfl (opv_eql rfl rfl) ?_
                refine Wo rfl (opv_assign (v := .bool _) rfl) ?_; refine Wo_nil ?_; refine W_cond_dec rfl (fun h4 => ?_) (fun h4 => ?_); (exfalso; omega); refine W_region rfl ?_; refine Wo rfl (opv_eql rfl rfl) ?_
                refine Wo rfl (opv_assign (v := .bool _) rfl) ?_; refine Wo_nil ?_; refine W_cond_dec rfl (fun h5 => ?_) (fun h5 => ?_); (exfalso; omega); refine W_seq ?_; refine W_region rfl ?_; refine Wo rfl (opv_eql rfl rfl) ?_
                refine Wo rfl (opv_assign (v := .bool _) rfl) ?_; refine Wo_nil ?_; refine W_cond_dec rfl (fun h6 => ?_) (fun h6 => ?_); refine W_seq ?_; refine W_region rfl ?_; refine Wo rfl (opv_move (v := .string _) rfl) ?_
                refine Wo_call rfl (opc1 (a := .string _) Try.call73 rfl) (ih2 _) ?_; rintro _ w2 ⟨E2, y1, rfl, hy1⟩; have hs2 := E2.size; refine Wo rfl (opv_move (v := .tuple _) rfl) ?_; refine Wo rfl (opv_extract (v := .pointer _) rfl rfl) ?_
                refine Wo rfl (opv_extract (v := .string _) rfl rfl) ?_; refine Wo rfl (opv_assign (v := .pointer _) rfl) ?_; refine Wo rfl (opv_assign (v := .string _) rfl) ?_; refine Wo_nil ?_; refine W_seq ?_; refine W_seq ?_
                refine W_region rfl ?_; refine Wo rfl (opv_move (v := .pointer _) rfl) ?_; refine Wo rfl (opv_eql_some Try.underlying57 rfl rfl) ?_; refine Wo rfl (opv_move (v := .bool _) rfl) ?_; refine Wo rfl (opv_move (v := .string _) rfl) ?_
                refine Wo rfl (opv_eql_str rfl rfl) ?_; refine Wo rfl (opv_pick_f (v := .bool _) rfl rfl) ?_; refine Wo_split_dec rfl (opv_move (v := .bool _) rfl) (fun h7 => ?_) (fun h7 => ?_); contradiction
                refine Wo rfl (opv_move (v := .string _) rfl) ?_; refine Wo rfl (opv_index_str (k := 0) Try.underlying9 rfl rfl (by omega)) ?_; refine Wo rfl (opv_neq rfl rfl) ?_
                refine Wo_split_ndec rfl (opv_move (v := .bool _) rfl) (fun h8 => ?_) (fun h8 => ?_); refine Wo rfl (opv_move (v := .string _) rfl) ?_; refine Wo rfl (opv_index_str (k := 0) Try.underlying9 rfl rfl (by omega)) ?_
                refine Wo rfl (opv_neq rfl rfl) ?_; refine Wo rfl (opv_pick_t (v := .bool _) rfl rfl) ?_; refine Wo rfl (opv_pick_f (v := .bool _) rfl rfl) ?_; refine Wo_nil ?_; refine W_cond_ndec rfl (fun h9 => ?_) (fun h9 => ?_); (exfalso; omega)
                refine W_skip ?_; refine W_seq ?_; refine W_region rfl ?_; refine Wo rfl (opv_move (v := .string _) rfl) ?_; refine Wo rfl (opv_slice_str_lo (l := 1) Try.underlying9 rfl rfl (by omega)) ?_
                refine Wo_call rfl (opc1 (a := .string _) Try.call73 rfl) (ih4 _) ?_; rintro _ w3 ⟨E3, y2, rfl, hy2⟩; have hs3 := E3.size; refine Wo rfl (opv_move (v := .tuple _) rfl) ?_; refine Wo rfl (opv_extract (v := .pointer _) rfl rfl) ?_
                refine Wo rfl (opv_extract (v := .string _) rfl rfl) ?_; refine Wo rfl (opv_assign (v := .pointer _) rfl) ?_; refine Wo rfl (opv_assign (v := .string _) rfl) ?_; refine Wo_nil ?_; refine W_seq ?_; refine W_seq ?_
                refine W_region rfl ?_; refine Wo rfl (opv_move (v := .pointer _) rfl) ?_; refine Wo rfl (opv_eql_some Try.underlying57 rfl rfl) ?_; refine Wo rfl (opv_move (v := .bool _) rfl) ?_; refine Wo rfl (opv_move (v := .string _) rfl) ?_
                refine Wo rfl (opv_eql_str rfl rfl) ?_; refine Wo rfl (opv_pick_f (v := .bool _) rfl rfl) ?_; refine Wo_split_dec rfl (opv_move (v := .bool _) rfl) (fun h10 => ?_) (fun h10 => ?_); contradiction
                refine Wo rfl (opv_move (v := .string _) rfl) ?_; refine Wo rfl (opv_index_str (k := 0) Try.underlying9 rfl rfl (by omega)) ?_; refine Wo rfl (opv_neq rfl rfl) ?_; refine Wo rfl (opv_pick_f (v := .bool _) rfl rfl) ?_
                refine Wo_nil ?_; refine W_cond_ndec rfl (fun h11 => ?_) (fun h11 => ?_); (exfalso; omega); refine W_skip ?_; refine W_seq ?_; refine W_region rfl ?_; refine Wo rfl (opv_move (v := .pointer _) rfl) ?_
                refine Wo rfl (opv_move (v := .string _) rfl) ?_; refine Wo rfl (opv_index_str (k := 0) Try.underlying9 rfl rfl (by omega)) ?_; refine Wo rfl (opv_nilCheck rfl) ?_
                refine Wo rfl (opv_fieldAddr Try.underlying78 rfl rfl (by first | exact Try.sizeOf3 | exact Try.sizeOf9) rfl) ?_
                refine Wo_st (v := .int _ _) rfl Try.sizeOf5 rfl rfl rfl (hB1.ext (E2.trans E3)) (by simp) (by omega) ((E1.trans E2).trans E3) ?_; rintro w4 E4 hB1 K1 hz1; simp only [List.set] at hB1
                have hy1 := (hy1.ext E3).keep (fun k h1 h2 => K1 k (by omega)) (by omega); have hy2 := hy2.keep (fun k h1 h2 => K1 k (by omega)) (by omega); refine Wo_nil ?_; refine W_seq ?_; refine W_region rfl ?_
                refine Wo rfl (opv_move (v := .pointer _) rfl) ?_; refine Wo rfl (opv_move (v := .pointer _) rfl) ?_; refine Wo rfl (opv_move (v := .pointer _) rfl) ?_
                refine Wo_buildSlice (ps := [(0, .pointer _), (1, .pointer _)]) (cs := [_, _]) rfl Try.underlying76 Try.sizeOf57 Try.zeroValue57 rfl rfl rfl rfl ?_; rintro b2 w5 hb2 E5 hB2; have hlb2 := hB2.lt; have hs4 := E5.size
                refine Wo rfl (opv_nilCheck rfl) ?_; refine Wo rfl (opv_fieldAddr Try.underlying78 rfl rfl (by first | exact Try.sizeOf3 | exact Try.sizeOf9) rfl) ?_
                refine Wo_st (v := .slice _ _ _) rfl Try.sizeOf76 rfl rfl rfl (hB1.ext E5) (by simp) (by omega) (E4.trans E5) ?_; rintro w6 E6 hB1 K2 hz2; simp only [List.set] at hB1
                have hy1 := (hy1.ext E5).keep (fun k h1 h2 => K2 k (by omega)) (by omega); have hy2 := (hy2.ext E5).keep (fun k h1 h2 => K2 k (by omega)) (by omega); have hB2 := hB2.of_heap (K2 _ (by omega)); refine Wo_nil ?_
                refine W_region rfl ?_; refine Wo rfl (opv_move (v := .string _) rfl) ?_; refine Wo rfl (opv_slice_str_lo (l := 1) Try.underlying9 rfl rfl (by omega)) ?_; refine Wo rfl (opv_assign (v := .string _) rfl) ?_; refine Wo_nil ?_
                refine W_seq ?_; refine W_region rfl ?_; refine Wo rfl (opv_move (v := .pointer _) rfl) ?_; refine Wo rfl (opv_move (v := .string _) rfl) ?_; refine Wo rfl (opv_move (v := .string _) rfl) ?_
                refine Wo rfl (opv_len_str Try.underlying9 rfl) ?_; refine Wo rfl (opv_move (v := .string _) rfl) ?_; refine Wo rfl (opv_len_str Try.underlying9 rfl) ?_; refine Wo rfl (opv_sub rfl rfl (by omega)) ?_
                refine Wo rfl (opv_slice_str_hi_z Try.underlying9 rfl rfl (by omega)) ?_; refine Wo rfl (opv_nilCheck rfl) ?_; refine Wo rfl (opv_fieldAddr Try.underlying78 rfl rfl (by first | exact Try.sizeOf3 | exact Try.sizeOf9) rfl) ?_
                refine Wo_st (v := .string _) rfl Try.sizeOf9 rfl rfl rfl hB1 (by simp) (by omega) E6 ?_; rintro w7 E7 hB1 K3 hz3; simp only [List.set] at hB1; have hy1 := hy1.keep (fun k h1 h2 => K3 k (by omega)) (by omega)
                have hy2 := hy2.keep (fun k h1 h2 => K3 k (by omega)) (by omega); have hB2 := hB2.of_heap (K3 _ (by omega)); refine Wo_nil ?_; refine W_seq ?_; refine W_region rfl ?_; refine Wo rfl (opv_move (v := .pointer _) rfl) ?_
                refine Wo rfl (opv_move (v := .string _) rfl) ?_; refine Wo rfl (opv_assign (v := .pointer _) rfl) ?_; refine Wo rfl (opv_assign (v := .string _) rfl) ?_; refine Wo_nil ?_; refine W_ret ?_
                refine at_ret (v := .tuple #[.pointer _, .string _]) rfl ?_; rotate_left; refine Wo_skip rfl ?_; refine Wo_skip rfl ?_; refine Wo_skip rfl ?_; refine Wo rfl (opv_pick_f (v := .bool _) rfl rfl) ?_
                refine Wo rfl (opv_pick_f (v := .bool _) rfl rfl) ?_; refine Wo_nil ?_; refine W_cond_false rfl ?_; refine W_skip ?_; refine W_seq ?_; refine W_region rfl ?_; refine Wo rfl (opv_move (v := .string _) rfl) ?_
                refine Wo rfl (opv_slice_str_lo (l := 1) Try.underlying9 rfl rfl (by omega)) ?_; refine Wo_call rfl (opc1 (a := .string _) Try.call73 rfl) (ih4 _) ?_; rintro _ w3 ⟨E3, y2, rfl, hy2⟩; have hs3 := E3.size
                refine Wo rfl (opv_move (v := .tuple _) rfl) ?_; refine Wo rfl (opv_extract (v := .pointer _) rfl rfl) ?_; refine Wo rfl (opv_extract (v := .string _) rfl rfl) ?_; refine Wo rfl (opv_assign (v := .pointer _) rfl) ?_
                refine Wo rfl (opv_assign (v := .string _) rfl) ?_; refine Wo_nil ?_; refine W_seq ?_; refine W_seq ?_; refine W_region rfl ?_; refine Wo rfl (opv_move (v := .pointer _) rfl) ?_
                refine Wo rfl (opv_eql_some Try.underlying57 rfl rfl) ?_; refine Wo rfl (opv_move (v := .bool _) rfl) ?_; refine Wo rfl (opv_move (v := .string _) rfl) ?_; refine Wo rfl (opv_eql_str rfl rfl) ?_
                refine Wo rfl (opv_pick_f (v := .bool _) rfl rfl) ?_; refine Wo_split_dec rfl (opv_move (v := .bool _) rfl) (fun h9 => ?_) (fun h9 => ?_); contradiction; refine Wo rfl (opv_move (v := .string _) rfl) ?_
                refine Wo rfl (opv_index_str (k := 0) Try.underlying9 rfl rfl (by omega)) ?_; refine Wo rfl (opv_neq rfl rfl) ?_; refine Wo rfl (opv_pick_f (v := .bool _) rfl rfl) ?_; refine Wo_nil ?_
                refine W_cond_ndec rfl (fun h10 => ?_) (fun h10 => ?_); (exfalso; omega); refine W_skip ?_; refine W_seq ?_; refine W_region rfl ?_; refine Wo rfl (opv_move (v := .pointer _) rfl) ?_; refine Wo rfl (opv_move (v := .string _) rfl) ?_
                refine Wo rfl (opv_index_str (k := 0) Try.underlying9 rfl rfl (by omega)) ?_; refine Wo rfl (opv_nilCheck rfl) ?_; refine Wo rfl (opv_fieldAddr Try.underlying78 rfl rfl (by first | exact Try.sizeOf3 | exact Try.sizeOf9) rfl) ?_
                refine Wo_st (v := .int _ _) rfl Try.sizeOf5 rfl rfl rfl (hB1.ext (E2.trans E3)) (by simp) (by omega) ((E1.trans E2).trans E3) ?_; rintro w4 E4 hB1 K1 hz1; simp only [List.set] at hB1
                have hy1 := (hy1.ext E3).keep (fun k h1 h2 => K1 k (by omega)) (by omega); have hy2 := hy2.keep (fun k h1 h2 => K1 k (by omega)) (by omega); refine Wo_nil ?_; refine W_seq ?_; refine W_region rfl ?_
                refine Wo rfl (opv_move (v := .pointer _) rfl) ?_; refine Wo rfl (opv_move (v := .pointer _) rfl) ?_; refine Wo rfl (opv_move (v := .pointer _) rfl) ?_
                refine Wo_buildSlice (ps := [(0, .pointer _), (1, .pointer _)]) (cs := [_, _]) rfl Try.underlying76 Try.sizeOf57 Try.zeroValue57 rfl rfl rfl rfl ?_; rintro b2 w5 hb2 E5 hB2; have hlb2 := hB2.lt; have hs4 := E5.size
                refine Wo rfl (opv_nilCheck rfl) ?_; refine Wo rfl (opv_fieldAddr Try.underlying78 rfl rfl (by first | exact Try.sizeOf3 | exact Try.sizeOf9) rfl) ?_
                refine Wo_st (v := .slice _ _ _) rfl Try.sizeOf76 rfl rfl rfl (hB1.ext E5) (by simp) (by omega) (E4.trans E5) ?_; rintro w6 E6 hB1 K2 hz2; simp only [List.set] at hB1
                have hy1 := (hy1.ext E5).keep (fun k h1 h2 => K2 k (by omega)) (by omega); have hy2 := (hy2.ext E5).keep (fun k h1 h2 => K2 k (by omega)) (by omega); have hB2 := hB2.of_heap (K2 _ (by omega)); refine Wo_nil ?_
                refine W_region rfl ?_; refine Wo rfl (opv_move (v := .string _) rfl) ?_; refine Wo rfl (opv_slice_str_lo (l := 1) Try.underlying9 rfl rfl (by omega)) ?_; refine Wo rfl (opv_assign (v := .string _) rfl) ?_; refine Wo_nil ?_
                refine W_seq ?_; refine W_region rfl ?_; refine Wo rfl (opv_move (v := .pointer _) rfl) ?_; refine Wo rfl (opv_move (v := .string _) rfl) ?_; refine Wo rfl (opv_move (v := .string _) rfl) ?_
                refine Wo rfl (opv_len_str Try.underlying9 rfl) ?_; refine Wo rfl (opv_move (v := .string _) rfl) ?_; refine Wo rfl (opv_len_str Try.underlying9 rfl) ?_; refine Wo rfl (opv_sub rfl rfl (by omega)) ?_
                refine Wo rfl (opv_slice_str_hi_z Try.underlying9 rfl rfl (by omega)) ?_; refine Wo rfl (opv_nilCheck rfl) ?_; refine Wo rfl (opv_fieldAddr Try.underlying78 rfl rfl (by first | exact Try.sizeOf3 | exact Try.sizeOf9) rfl) ?_
                refine Wo_st (v := .string _) rfl Try.sizeOf9 rfl rfl rfl hB1 (by simp) (by omega) E6 ?_; rintro w7 E7 hB1 K3 hz3; simp only [List.set] at hB1; have hy1 := hy1.keep (fun k h1 h2 => K3 k (by omega)) (by omega)
                have hy2 := hy2.keep (fun k h1 h2 => K3 k (by omega)) (by omega); have hB2 := hB2.of_heap (K3 _ (by omega)); refine Wo_nil ?_; refine W_seq ?_; refine W_region rfl ?_; refine Wo rfl (opv_move (v := .pointer _) rfl) ?_
                refine Wo rfl (opv_move (v := .string _) rfl) ?_; refine Wo rfl (opv_assign (v := .pointer _) rfl) ?_; refine Wo rfl (opv_assign (v := .string _) rfl) ?_; refine Wo_nil ?_; refine W_ret ?_
                refine at_ret (v := .tuple #[.pointer _, .string _]) rfl ?_; rotate_left; (exfalso; omega)
              all_goals
                refine ⟨by assumption, ?_⟩
                rw [hp']
                refine ⟨_, rfl, fun w9 q hs => hg w9 b1 b2 _ _ ((hB1.keep q hb1).cast ?_) (hB2.keep q (by omega)) (hy1 w9 (q.mono (by omega)) (by omega)) (hy2 w9 (q.mono (by omega)) (by omega))⟩
                rw [fin _ _ (pre_some hp')]
            · have hn3 : (r3.getD 0 0).toNat ≠ 41 := by rw [hd3]; exact fun h => c5 (UInt8.toNat_inj.1 h)
              have hp' : pre s = none := by rw [es]; exact pre_br4 hp hp2 (by intro r4 h; rw [h] at er3; exact c5 (List.cons.inj er3).1.symm)
              clear es er er3
              refine fn_of_W2 Try.func73 rfl Try.results73 Try.ntmps73 rfl ?_
              focus
                refine W_seq ?_; refine W_region rfl ?_; refine Wo rfl (opv_assign (v := .pointer _) rfl) ?_; refine Wo rfl (opv_assign (v := .string _) rfl) ?_; refine Wo_nil ?_; refine W_seq ?_; refine W_seq ?_; refine W_region rfl ?_
                refine Wo rfl (opv_move (v := .string _) rfl) ?_; refine Wo rfl (opv_eql_str rfl rfl) ?_; refine Wo_nil ?_; refine W_cond_dec rfl (fun h1 => ?_) (fun h1 => ?_); contradiction; refine W_skip ?_; refine W_seq ?_
                refine W_region rfl ?_; refine Wo rfl (opv_move (v := .string _) rfl) ?_; refine Wo rfl (opv_slice_str_lo (l := 1) Try.underlying9 rfl rfl (by omega)) ?_; refine Wo rfl (opv_assign (v := .string _) rfl) ?_; refine Wo_nil ?_
                refine W_seq ?_; refine W_region rfl ?_; refine Wo rfl (opv_move (v := .string _) rfl) ?_; refine Wo rfl (opv_index_str (k := 0) Try.underlying9 rfl rfl (by omega)) ?_
                refine Wo rfl (opv_build (ps := [(0, .int _ _)]) (cs := [_, _, _]) flat78 rfl rfl) ?_; refine Wo_box rfl rfl rfl ?_; rintro b1 w1 hb1 E1 hB1; have hlb1 := hB1.lt; have hs1 := E1.size
                refine Wo rfl (opv_assign (v := .pointer _) rfl) ?_; refine Wo_nil ?_; refine W_seq ?_; refine W_seq ?_; refine W_region rfl ?_; refine Wo rfl (opv_move (v := .string _) rfl) ?_
                refine Wo rfl (opv_index_str (k := 0) Try.underlying9 rfl rfl (by omega)) ?_; refine Wo_nil ?_; refine W_block ?_; refine W_seq ?_; refine W_region rfl ?_; refine Wo rfl (opv_eql rfl rfl) ?_
                refine Wo rfl (opv_assign (v := .bool _) rfl) ?_; refine Wo_nil ?_; refine W_cond_dec rfl (fun h2 => ?_) (fun h2 => ?_); (exfalso; omega); refine W_seq ?_; refine W_seq ?_; refine W_region rfl ?_; refine Wo rfl (opv_eql rfl rfl) ?_
                refine Wo rfl (opv_assign (v := .bool _) rfl) ?_; refine Wo_nil ?_; refine W_cond_dec rfl (fun h3 => ?_) (fun h3 => ?_); (exfalso; omega); refine W_seq ?_; refine W_region rfl ?_; refine Wo rfl (opv_eql rfl rfl) ?_
                refine Wo rfl (opv_assign (v := .bool _) rfl) ?_; refine Wo_nil ?_; refine W_cond_dec rfl (fun h4 => ?_) (fun h4 => ?_); (exfalso; omega); refine W_region rfl ?_; refine Wo rfl (opv_eql rfl rfl) ?_
                refine Wo rfl (opv_assign (v := .bool _) rfl) ?_; refine Wo_nil ?_; refine W_cond_dec rfl (fun h5 => ?_) (fun h5 => ?_); (exfalso; omega); refine W_seq ?_; refine W_region rfl ?_; refine Wo rfl (opv_eql rfl rfl) ?_
                refine Wo rfl (opv_assign (v := .bool _) rfl) ?_; refine Wo_nil ?_; refine W_cond_dec rfl (fun h6 => ?_) (fun h6 => ?_); refine W_seq ?_; refine W_region rfl ?_; refine Wo rfl (opv_move (v := .string _) rfl) ?_
                refine Wo_call rfl (opc1 (a := .string _) Try.call73 rfl) (ih2 _) ?_; rintro _ w2 ⟨E2, y1, rfl, hy1⟩; have hs2 := E2.size; refine Wo rfl (opv_move (v := .tuple _) rfl) ?_; refine Wo rfl (opv_extract (v := .pointer _) rfl rfl) ?_
                refine Wo rfl (opv_extract (v := .string _) rfl rfl) ?_; refine Wo rfl (opv_assign (v := .pointer _) rfl) ?_; refine Wo rfl (opv_assign (v := .string _) rfl) ?_; refine Wo_nil ?_; refine W_seq ?_; refine W_seq ?_
                refine W_region rfl ?_; refine Wo rfl (opv_move (v := .pointer _) rfl) ?_; refine Wo rfl (opv_eql_some Try.underlying57 rfl rfl) ?_; refine Wo rfl (opv_move (v := .bool _) rfl) ?_; refine Wo rfl (opv_move (v := .string _) rfl) ?_
                refine Wo rfl (opv_eql_str rfl rfl) ?_; refine Wo rfl (opv_pick_f (v := .bool _) rfl rfl) ?_; refine Wo_split_dec rfl (opv_move (v := .bool _) rfl) (fun h7 => ?_) (fun h7 => ?_); contradiction
                refine Wo rfl (opv_move (v := .string _) rfl) ?_; refine Wo rfl (opv_index_str (k := 0) Try.underlying9 rfl rfl (by omega)) ?_; refine Wo rfl (opv_neq rfl rfl) ?_
                refine Wo_split_ndec rfl (opv_move (v := .bool _) rfl) (fun h8 => ?_) (fun h8 => ?_); refine Wo rfl (opv_move (v := .string _) rfl) ?_; refine Wo rfl (opv_index_str (k := 0) Try.underlying9 rfl rfl (by omega)) ?_
                refine Wo rfl (opv_neq rfl rfl) ?_; refine Wo rfl (opv_pick_t (v := .bool _) rfl rfl) ?_; refine Wo rfl (opv_pick_f (v := .bool _) rfl rfl) ?_; refine Wo_nil ?_; refine W_cond_ndec rfl (fun h9 => ?_) (fun h9 => ?_); (exfalso; omega)
                refine W_skip ?_; refine W_seq ?_; refine W_region rfl ?_; refine Wo rfl (opv_move (v := .string _) rfl) ?_; refine Wo rfl (opv_slice_str_lo (l := 1) Try.underlying9 rfl rfl (by omega)) ?_
                refine Wo_call rfl (opc1 (a := .string _) Try.call73 rfl) (ih4 _) ?_; rintro _ w3 ⟨E3, y2, rfl, hy2⟩; have hs3 := E3.size; refine Wo rfl (opv_move (v := .tuple _) rfl) ?_; refine Wo rfl (opv_extract (v := .pointer _) rfl rfl) ?_
                refine Wo rfl (opv_extract (v := .string _) rfl rfl) ?_; refine Wo rfl (opv_assign (v := .pointer _) rfl) ?_; refine Wo rfl (opv_assign (v := .string _) rfl) ?_; refine Wo_nil ?_; refine W_seq ?_; refine W_seq ?_
                refine W_region rfl ?_; refine Wo rfl (opv_move (v := .pointer _) rfl) ?_; refine Wo rfl (opv_eql_some Try.underlying57 rfl rfl) ?_; refine Wo rfl (opv_move (v := .bool _) rfl) ?_; refine Wo rfl (opv_move (v := .string _) rfl) ?_
                refine Wo rfl (opv_eql_str rfl rfl) ?_; refine Wo rfl (opv_pick_f (v := .bool _) rfl rfl) ?_; refine Wo_split_dec rfl (opv_move (v := .bool _) rfl) (fun h10 => ?_) (fun h10 => ?_); contradiction
                refine Wo rfl (opv_move (v := .string _) rfl) ?_; refine Wo rfl (opv_index_str (k := 0) Try.underlying9 rfl rfl (by omega)) ?_; refine Wo rfl (opv_neq rfl rfl) ?_; refine Wo rfl (opv_pick_f (v := .bool _) rfl rfl) ?_
                refine Wo_nil ?_; refine W_cond_ndec rfl (fun h11 => ?_) (fun h11 => ?_); refine W_seq ?_; refine W_region rfl ?_; refine Wo rfl (opv_move (v := .string _) rfl) ?_; refine Wo rfl (opv_assign (v := .pointer _) rfl) ?_
                refine Wo rfl (opv_assign (v := .string _) rfl) ?_; refine Wo_nil ?_; refine W_ret ?_; refine at_ret (v := .tuple #[.pointer _, .string _]) rfl ?_; rotate_left; (exfalso; omega); refine Wo_skip rfl ?_; refine Wo_skip rfl ?_
                refine Wo_skip rfl ?_; refine Wo rfl (opv_pick_f (v := .bool _) rfl rfl) ?_; refine Wo rfl (opv_pick_f (v := .bool _) rfl rfl) ?_; refine Wo_nil ?_; refine W_cond_false rfl ?_; refine W_skip ?_; refine W_seq ?_
                refine W_region rfl ?_; refine Wo rfl (opv_move (v := .string _) rfl) ?_; refine Wo rfl (opv_slice_str_lo (l := 1) Try.underlying9 rfl rfl (by omega)) ?_; refine Wo_call rfl (opc1 (a := .string _) Try.call73 rfl) (ih4 _) ?_
                rintro _ w3 ⟨E3, y2, rfl, hy2⟩; have hs3 := E3.size; refine Wo rfl (opv_move (v := .tuple _) rfl) ?_; refine Wo rfl (opv_extract (v := .pointer _) rfl rfl) ?_; refine Wo rfl (opv_extract (v := .string _) rfl rfl) ?_
                refine Wo rfl (opv_assign (v := .pointer _) rfl) ?_; refine Wo rfl (opv_assign (v := .string _) rfl) ?_; refine Wo_nil ?_; refine W_seq ?_; refine W_seq ?_; refine W_region rfl ?_; refine Wo rfl (opv_move (v := .pointer _) rfl) ?_
                refine Wo rfl (opv_eql_some Try.underlying57 rfl rfl) ?_; refine Wo rfl (opv_move (v := .bool _) rfl) ?_; refine Wo rfl (opv_move (v := .string _) rfl) ?_; refine Wo rfl (opv_eql_str rfl rfl) ?_
                refine Wo rfl (opv_pick_f (v := .bool _) rfl rfl) ?_; refine Wo_split_dec rfl (opv_move (v := .bool _) rfl) (fun h9 => ?_) (fun h9 => ?_); contradiction; refine Wo rfl (opv_move (v := .string _) rfl) ?_
                refine Wo rfl (opv_index_str (k := 0) Try.underlying9 rfl rfl (by omega)) ?_; refine Wo rfl (opv_neq rfl rfl) ?_; refine Wo rfl (opv_pick_f (v := .bool _) rfl rfl) ?_; refine Wo_nil ?_
                refine W_cond_ndec rfl (fun h10 => ?_) (fun h10 => ?_); refine W_seq ?_; refine W_region rfl ?_; refine Wo rfl (opv_move (v := .string _) rfl) ?_; refine Wo rfl (opv_assign (v := .pointer _) rfl) ?_
                refine Wo rfl (opv_assign (v := .string _) rfl) ?_; refine Wo_nil ?_; refine W_ret ?_; refine at_ret (v := .tuple #[.pointer _, .string _]) rfl ?_; rotate_left; (exfalso; omega); (exfalso; omega)
              all_goals exact ⟨(E1.trans E2).trans E3, by rw [hp']⟩
        · have hn2 : (r1.getD 0 0).toNat ≠ 38 ∧ (r1.getD 0 0).toNat ≠ 124 := by
            rw [hd]; exact ⟨fun h => c4 (.inl (UInt8.toNat_inj.1 h)), fun h => c4 (.inr (UInt8.toNat_inj.1 h))⟩
          have hp' : pre s = none := by
            rw [es]
            refine pre_br2 hp ?_
            intro c r2 h
            rw [h] at er
            obtain ⟨rfl, _⟩ := List.cons.inj er
            exact ⟨fun h => c4 (.inl h), fun h => c4 (.inr h)⟩
          clear es er
          refine fn_of_W2 Try.func73 rfl Try.results73 Try.ntmps73 rfl ?_
          focus
            refine W_seq ?_; refine W_region rfl ?_; refine Wo rfl (opv_assign (v := .pointer _) rfl) ?_; refine Wo rfl (opv_assign (v := .string _) rfl) ?_; refine Wo_nil ?_; refine W_seq ?_; refine W_seq ?_; refine W_region rfl ?_
            refine Wo rfl (opv_move (v := .string _) rfl) ?_; refine Wo rfl (opv_eql_str rfl rfl) ?_; refine Wo_nil ?_; refine W_cond_dec rfl (fun h1 => ?_) (fun h1 => ?_); contradiction; refine W_skip ?_; refine W_seq ?_
            refine W_region rfl ?_; refine Wo rfl (opv_move (v := .string _) rfl) ?_; refine Wo rfl (opv_slice_str_lo (l := 1) Try.underlying9 rfl rfl (by omega)) ?_; refine Wo rfl (opv_assign (v := .string _) rfl) ?_; refine Wo_nil ?_
            refine W_seq ?_; refine W_region rfl ?_; refine Wo rfl (opv_move (v := .string _) rfl) ?_; refine Wo rfl (opv_index_str (k := 0) Try.underlying9 rfl rfl (by omega)) ?_
            refine Wo rfl (opv_build (ps := [(0, .int _ _)]) (cs := [_, _, _]) flat78 rfl rfl) ?_; refine Wo_box rfl rfl rfl ?_; rintro b1 w1 hb1 E1 hB1; have hlb1 := hB1.lt; have hs1 := E1.size
            refine Wo rfl (opv_assign (v := .pointer _) rfl) ?_; refine Wo_nil ?_; refine W_seq ?_; refine W_seq ?_; refine W_region rfl ?_; refine Wo rfl (opv_move (v := .string _) rfl) ?_
            refine Wo rfl (opv_index_str (k := 0) Try.underlying9 rfl rfl (by omega)) ?_; refine Wo_nil ?_; refine W_block ?_; refine W_seq ?_; refine W_region rfl ?_; refine Wo rfl (opv_eql rfl rfl) ?_
            refine Wo rfl (opv_assign (v := .bool _) rfl) ?_; refine Wo_nil ?_; refine W_cond_dec rfl (fun h2 => ?_) (fun h2 => ?_); (exfalso; omega); refine W_seq ?_; refine W_seq ?_; refine W_region rfl ?_; refine Wo rfl (opv_eql rfl rfl) ?_
            refine Wo rfl (opv_assign (v := .bool _) rfl) ?_; refine Wo_nil ?_; refine W_cond_dec rfl (fun h3 => ?_) (fun h3 => ?_); (exfalso; omega); refine W_seq ?_; refine W_region rfl ?_; refine Wo rfl (opv_eql rfl rfl) ?_
            refine Wo rfl (opv_assign (v := .bool _) rfl) ?_; refine Wo_nil ?_; refine W_cond_dec rfl (fun h4 => ?_) (fun h4 => ?_); (exfalso; omega); refine W_region rfl ?_; refine Wo rfl (opv_eql rfl rfl) ?_
            refine Wo rfl (opv_assign (v := .bool _) rfl) ?_; refine Wo_nil ?_; refine W_cond_dec rfl (fun h5 => ?_) (fun h5 => ?_); (exfalso; omega); refine W_seq ?_; refine W_region rfl ?_; refine Wo rfl (opv_eql rfl rfl) ?_
            refine Wo rfl (opv_assign (v := .bool _) rfl) ?_; refine Wo_nil ?_; refine W_cond_dec rfl (fun h6 => ?_) (fun h6 => ?_); refine W_seq ?_; refine W_region rfl ?_; refine Wo rfl (opv_move (v := .string _) rfl) ?_
            refine Wo_call rfl (opc1 (a := .string _) Try.call73 rfl) (ih2 _) ?_; rintro _ w2 ⟨E2, y1, rfl, hy1⟩; have hs2 := E2.size; refine Wo rfl (opv_move (v := .tuple _) rfl) ?_; refine Wo rfl (opv_extract (v := .pointer _) rfl rfl) ?_
            refine Wo rfl (opv_extract (v := .string _) rfl rfl) ?_; refine Wo rfl (opv_assign (v := .pointer _) rfl) ?_; refine Wo rfl (opv_assign (v := .string _) rfl) ?_; refine Wo_nil ?_; refine W_seq ?_; refine W_seq ?_
            refine W_region rfl ?_; refine Wo rfl (opv_move (v := .pointer _) rfl) ?_; refine Wo rfl (opv_eql_some Try.underlying57 rfl rfl) ?_; refine Wo rfl (opv_move (v := .bool _) rfl) ?_; refine Wo rfl (opv_move (v := .string _) rfl) ?_
            refine Wo rfl (opv_eql_str rfl rfl) ?_; refine Wo rfl (opv_pick_f (v := .bool _) rfl rfl) ?_; refine Wo_split_dec rfl (opv_move (v := .bool _) rfl) (fun h7 => ?_) (fun h7 => ?_); contradiction
            refine Wo rfl (opv_move (v := .string _) rfl) ?_; refine Wo rfl (opv_index_str (k := 0) Try.underlying9 rfl rfl (by omega)) ?_; refine Wo rfl (opv_neq rfl rfl) ?_
            refine Wo_split_ndec rfl (opv_move (v := .bool _) rfl) (fun h8 => ?_) (fun h8 => ?_); refine Wo rfl (opv_move (v := .string _) rfl) ?_; refine Wo rfl (opv_index_str (k := 0) Try.underlying9 rfl rfl (by omega)) ?_
            refine Wo rfl (opv_neq rfl rfl) ?_; refine Wo rfl (opv_pick_t (v := .bool _) rfl rfl) ?_; refine Wo rfl (opv_pick_f (v := .bool _) rfl rfl) ?_; refine Wo_nil ?_; refine W_cond_ndec rfl (fun h9 => ?_) (fun h9 => ?_); refine W_seq ?_
            refine W_region rfl ?_; refine Wo rfl (opv_move (v := .string _) rfl) ?_; refine Wo rfl (opv_assign (v := .pointer _) rfl) ?_; refine Wo rfl (opv_assign (v := .string _) rfl) ?_; refine Wo_nil ?_; refine W_ret ?_
            refine at_ret (v := .tuple #[.pointer _, .string _]) rfl ?_; rotate_left; (exfalso; omega); (exfalso; omega); (exfalso; omega)
          all_goals exact ⟨E1.trans E2, by rw [hp']⟩
    · have hn : (s.getD 0 0).toNat ≠ 116 ∧ (s.getD 0 0).toNat ≠ 33 ∧ (s.getD 0 0).toNat ≠ 83 ∧ (s.getD 0 0).toNat ≠ 65 ∧ (s.getD 0 0).toNat ≠ 40 := by
        rw [hc]
        refine ⟨fun h => c1 (UInt8.toNat_inj.1 h), fun h => c2 (.inl (UInt8.toNat_inj.1 h)), fun h => c2 (.inr (.inl (UInt8.toNat_inj.1 h))), fun h => c2 (.inr (.inr (UInt8.toNat_inj.1 h))), fun h => c3 (UInt8.toNat_inj.1 h)⟩
      have hp' : pre s = none := by
        rw [es]; exact pre_other ⟨c1, fun h => c2 (.inl h), fun h => c2 (.inr (.inl h)), fun h => c2 (.inr (.inr h)), c3⟩
      clear es
      refine fn_of_W2 Try.func73 rfl Try.results73 Try.ntmps73 rfl ?_
      focus
        refine W_seq ?_; refine W_region rfl ?_; refine Wo rfl (opv_assign (v := .pointer _) rfl) ?_; refine Wo rfl (opv_assign (v := .string _) rfl) ?_; refine Wo_nil ?_; refine W_seq ?_; refine W_seq ?_; refine W_region rfl ?_
        refine Wo rfl (opv_move (v := .string _) rfl) ?_; refine Wo rfl (opv_eql_str rfl rfl) ?_; refine Wo_nil ?_; refine W_cond_dec rfl (fun h1 => ?_) (fun h1 => ?_); contradiction; refine W_skip ?_; refine W_seq ?_
        refine W_region rfl ?_; refine Wo rfl (opv_move (v := .string _) rfl) ?_; refine Wo rfl (opv_slice_str_lo (l := 1) Try.underlying9 rfl rfl (by omega)) ?_; refine Wo rfl (opv_assign (v := .string _) rfl) ?_; refine Wo_nil ?_
        refine W_seq ?_; refine W_region rfl ?_; refine Wo rfl (opv_move (v := .string _) rfl) ?_; refine Wo rfl (opv_index_str (k := 0) Try.underlying9 rfl rfl (by omega)) ?_
        refine Wo rfl (opv_build (ps := [(0, .int _ _)]) (cs := [_, _, _]) flat78 rfl rfl) ?_; refine Wo_box rfl rfl rfl ?_; rintro b1 w1 hb1 E1 hB1; have hlb1 := hB1.lt; have hs1 := E1.size
        refine Wo rfl (opv_assign (v := .pointer _) rfl) ?_; refine Wo_nil ?_; refine W_seq ?_; refine W_seq ?_; refine W_region rfl ?_; refine Wo rfl (opv_move (v := .string _) rfl) ?_
        refine Wo rfl (opv_index_str (k := 0) Try.underlying9 rfl rfl (by omega)) ?_; refine Wo_nil ?_; refine W_block ?_; refine W_seq ?_; refine W_region rfl ?_; refine Wo rfl (opv_eql rfl rfl) ?_
        refine Wo rfl (opv_assign (v := .bool _) rfl) ?_; refine Wo_nil ?_; refine W_cond_dec rfl (fun h2 => ?_) (fun h2 => ?_); (exfalso; omega); refine W_seq ?_; refine W_seq ?_; refine W_region rfl ?_; refine Wo rfl (opv_eql rfl rfl) ?_
        refine Wo rfl (opv_assign (v := .bool _) rfl) ?_; refine Wo_nil ?_; refine W_cond_dec rfl (fun h3 => ?_) (fun h3 => ?_); (exfalso; omega); refine W_seq ?_; refine W_region rfl ?_; refine Wo rfl (opv_eql rfl rfl) ?_
        refine Wo rfl (opv_assign (v := .bool _) rfl) ?_; refine Wo_nil ?_; refine W_cond_dec rfl (fun h4 => ?_) (fun h4 => ?_); (exfalso; omega); refine W_region rfl ?_; refine Wo rfl (opv_eql rfl rfl) ?_
        refine Wo rfl (opv_assign (v := .bool _) rfl) ?_; refine Wo_nil ?_; refine W_cond_dec rfl (fun h5 => ?_) (fun h5 => ?_); (exfalso; omega); refine W_seq ?_; refine W_region rfl ?_; refine Wo rfl (opv_eql rfl rfl) ?_
        refine Wo rfl (opv_assign (v := .bool _) rfl) ?_; refine Wo_nil ?_; refine W_cond_dec rfl (fun h6 => ?_) (fun h6 => ?_); (exfalso; omega); refine W_seq ?_; refine W_region rfl ?_; refine Wo rfl (opv_move (v := .string _) rfl) ?_
        refine Wo rfl (opv_assign (v := .pointer _) rfl) ?_; refine Wo rfl (opv_assign (v := .string _) rfl) ?_; refine Wo_nil ?_; refine W_ret ?_; refine at_ret (v := .tuple #[.pointer _, .string _]) rfl ?_
      exact ⟨E1, by rw [hp']⟩
end Go.Proofs.Ytjdfnngmbaojjaa
