/- Walks: FormulaDeep and OppositeOf on both sides. -/
import Derived.Test.YtjdfnngmbaojjaaHsWFm3
namespace Go.Proofs.Ytjdfnngmbaojjaa
open Go.Hs
set_option maxRecDepth 10000
set_option maxHeartbeats 4000000
set_option linter.unusedVariables false

def Fm.subs : Fm → List Fm
  | .t => []
  | .neg f => [f]
  | .S f => [f]
  | .A f => [f]
  | .and f g => [f, g]
  | .or f g => [f, g]
def Fm.opc : Fm → Int
  | .t => 116
  | .neg _ => 33
  | .S _ => 83
  | .A _ => 65
  | .and _ _ => 38
  | .or _ _ => 124
theorem EFm.open {w : World} {v : Value} {f : Fm} (h : EFm w v f) : ∃ b pv, v = .pointer (some ⟨b, 0, none⟩) ∧ Blk w b [.int .u8 (Fm.opc f), str f.enc, pv] ∧ ESl EFm w pv (Fm.subs f) := by
  have one : ∀ (bp : Nat) (u : Value) (g : Fm), Blk w bp [u] → EFm w u g → ESl EFm w (.slice (some ⟨bp, 0, none⟩) 1 1) [g] := fun bp u g h1 h2 =>
    h1.slice (xs := [g]) rfl (by simp) (fun i h3 h4 => by obtain rfl : i = 0 := by simpa using h4
                                                          exact h2)
  have two : ∀ (bp : Nat) (u u' : Value) (g g' : Fm), Blk w bp [u, u'] → EFm w u g → EFm w u' g' → ESl EFm w (.slice (some ⟨bp, 0, none⟩) 2 2) [g, g'] := fun bp u u' g g' h1 h2 h2' =>
    h1.slice (xs := [g, g']) rfl (by simp) (fun i h3 h4 => by
      simp at h4
      have : i = 0 ∨ i = 1 := by omega
      rcases this with rfl | rfl
      · exact h2
      · exact h2')
  cases f with
  | t => obtain ⟨b, rfl, h⟩ := h; exact ⟨b, _, rfl, h, none, 0, rfl, RSl.nil⟩
  | neg f => obtain ⟨b, bp, u, rfl, h1, h2, h3⟩ := h; exact ⟨b, _, rfl, h1, one _ _ _ h2 h3⟩
  | S f => obtain ⟨b, bp, u, rfl, h1, h2, h3⟩ := h; exact ⟨b, _, rfl, h1, one _ _ _ h2 h3⟩
  | A f => obtain ⟨b, bp, u, rfl, h1, h2, h3⟩ := h; exact ⟨b, _, rfl, h1, one _ _ _ h2 h3⟩
  | and f g => obtain ⟨b, bp, u, u', rfl, h1, h2, h3, h4⟩ := h; exact ⟨b, _, rfl, h1, two _ _ _ _ _ h2 h3 h4⟩
  | or f g => obtain ⟨b, bp, u, u', rfl, h1, h2, h3, h4⟩ := h; exact ⟨b, _, rfl, h1, two _ _ _ _ _ h2 h3 h4⟩
theorem Fm.subs_lt {f g : Fm} (h : g ∈ Fm.subs f) : g.enc.length < f.enc.length := by
  cases f <;> simp [Fm.subs, Fm.enc] at h ⊢ <;> (try subst h) <;> (try (rcases h with rfl | rfl)) <;> omega
theorem Fm.subs_len (f : Fm) : (Fm.subs f).length ≤ 2 := by cases f <;> simp [Fm.subs]
def deepL (l : List Fm) : Nat := l.foldl (fun a x => max a x.deep) 0
theorem deepL_snoc (l : List Fm) (x : Fm) : deepL (l ++ [x]) = max (deepL l) x.deep := by simp [deepL]
theorem take_snoc' {α : Type} (l : List α) (k : Nat) (h : k < l.length) : l.take (k + 1) = l.take k ++ [l[k]] := by
  rw [List.take_succ_eq_append_getElem h]
theorem deep_eq (f : Fm) : f.deep = deepL (Fm.subs f) + (if Fm.opc f = 83 ∨ Fm.opc f = 65 then 1 else 0) := by
  cases f <;> simp [Fm.deep, Fm.subs, Fm.opc, deepL]


theorem deep_ok : ∀ (m : Nat) (f : Fm), f.enc.length ≤ m → ∀ (w : World) (v : Value), EFm w v f → f.enc.length ≤ 1000 → Does Try.prog 51 [v] w (Ret w (.int .i64 (f.deep : Int))) := by
  intro m
  induction m with
  | zero => intro f h; have := f.enc_pos; omega
  | succ m ih =>
    intro f hm w v hf h1000
    obtain ⟨b, pv, rfl, hB, hP⟩ := hf.open
    have hsl := Fm.subs_len f
    have hD : ∀ g ∈ Fm.subs f, g.deep ≤ 1000 := fun g hg => by have := Fm.subs_lt hg; have := g.deep_lt; omega
    have hDL : ∀ k, deepL ((Fm.subs f).take k) ≤ 1000 := by
      have := f.deep_lt
      have h2 := deep_eq f
      intro k
      have : ∀ (l : List Fm) (a : Nat), (∀ g ∈ l, g.deep ≤ 1000) → a ≤ 1000 → l.foldl (fun a x => max a x.deep) a ≤ 1000 := by
        intro l
        induction l with
        | nil => intro a _ h; exact h
        | cons x l ihl => intro a h1 h2; exact ihl _ (fun g hg => h1 g (List.mem_cons_of_mem _ hg)) (Nat.max_le.2 ⟨h2, h1 x (List.mem_cons_self ..)⟩)
      exact this _ 0 (fun g hg => hD g (List.mem_of_mem_take hg)) (by omega)
    have hde := deep_eq f
    have ih' : ∀ (g : Fm) (w : World) (v : Value), EFm w v g → g ∈ Fm.subs f → Does Try.prog 51 [v] w (Ret w (.int .i64 (g.deep : Int))) := fun g w v h hg => ih g (by have := Fm.subs_lt hg; omega) w v h (by have := Fm.subs_lt hg; omega)
    clear ih
    refine fn_of_W1 Try.func51 rfl Try.results51 Try.ntmps51 rfl ?_
    focus
      refine W_seq ?_; refine W_region rfl ?_; refine Wo rfl (opv_assign (v := .int _ _) rfl) ?_; refine Wo_nil ?_; refine W_seq ?_; refine W_region rfl ?_; refine Wo rfl (opv_assign (v := .int _ _) rfl) ?_; refine Wo_nil ?_
      refine W_seq ?_; refine W_seq ?_; refine W_region rfl ?_; refine Wo rfl (opv_move (v := .pointer _) rfl) ?_; refine Wo rfl (opv_nilCheck rfl) ?_
      refine Wo rfl (opv_fieldAddr Try.underlying78 rfl rfl (by first | exact Try.sizeOf3 | exact Try.sizeOf9) rfl) ?_; refine Wo (v := pv) rfl (opv_load Try.isAgg76 rfl (hB.cell rfl)) ?_
      refine Wo rfl (opv_len Try.underlying76 rfl hP) ?_; refine Wo rfl (opv_move (v := .int _ _) rfl) ?_; refine Wo_nil ?_; refine W_block ?_
    refine W_loop [3, 5, 11, 12, 13, 14, 15, 16, 17, 18, 19] (fun (k, d) => [(11, .int .i64 (k : Nat)), (3, .int .i64 (d : Int))]) (fun (k, d) w' => Ext w w' ∧ k ≤ (Fm.subs f).length ∧ d = (deepL ((Fm.subs f).take k) : Nat)) (fun x => (Fm.subs f).length - x.1) (0, 0) (by repeat (first | exact trivial | refine And.intro rfl ?_)) ?_ ?_
    · exact ⟨Ext.refl _, Nat.zero_le _, by simp [deepL]⟩
    rintro ⟨k, d⟩ ρj w1 ⟨E1, hk, rfl⟩
    have hdk := hDL k
    by_cases hlt : k < (Fm.subs f).length
    · have ihk := fun w v (h : EFm w v (Fm.subs f)[k]) => ih' (Fm.subs f)[k] w v h (List.getElem_mem hlt)
      have hgk := hD _ (List.getElem_mem hlt)
      focus
        have szE1 := E1.size; refine W_seq ?_; refine W_region rfl ?_; refine Wo rfl (opv_lss rfl rfl) ?_; refine Wo_nil ?_; refine W_seq ?_; refine W_cond_dec rfl (fun h1 => ?_) (fun h1 => ?_); refine W_skip ?_; refine W_seq ?_
        refine W_block ?_; refine W_seq ?_; refine W_region rfl ?_; refine Wo_get Try.underlying76 Try.sizeOf57 Try.isAgg57 rfl (fun _ => rfl) rfl hP E1 rfl (by first | omega | (simp <;> omega)) ?_; rintro _ u1 hu1
        refine Wo rfl (opv_assign (v := u1) rfl) ?_; refine Wo_nil ?_; refine W_region rfl ?_; refine Wo rfl (opv_move (v := .int _ _) rfl) ?_; refine Wo rfl (opv_move (v := u1) rfl) ?_
        refine Wo_call rfl (opc1 (a := u1) Try.call51 rfl) (ihk _ _ ((Mono.mono E1 hu1))) ?_; rintro _ w2 ⟨rfl, E2⟩; have hs1 := E2.size; refine Wo rfl (opv_max rfl rfl) ?_; refine Wo rfl (opv_assign (v := .int _ _) rfl) ?_
        refine Wo_nil ?_; refine W_region rfl ?_; refine Wo rfl (opv_add rfl rfl (by omega)) ?_; refine Wo rfl (opv_move (v := .int _ _) rfl) ?_; refine Wo_nil ?_; rotate_left; (exfalso; omega)
      refine ⟨((k + 1, _)), by repeat (first | exact trivial | refine And.intro rfl ?_), by repeat (first | with_reducible exact Same.refl | refine Same.upd rfl ?_ | refine Same.upds rfl ?_ | refine Same.mix rfl ?_), ?_, ?_⟩
      · refine ⟨E1.trans E2, by omega, ?_⟩
        rw [take_snoc' _ _ hlt, deepL_snoc]; omega
      · simp only; omega
    · obtain rfl : k = (Fm.subs f).length := by omega
      focus
        have szE1 := E1.size; refine W_seq ?_; refine W_region rfl ?_; refine Wo rfl (opv_lss rfl rfl) ?_; refine Wo_nil ?_; refine W_seq ?_; refine W_cond_dec rfl (fun h1 => ?_) (fun h1 => ?_); (exfalso; omega); refine W_exit ?_
        refine exitX_same ?_; refine W_seq ?_; refine W_seq ?_; refine W_region rfl ?_; refine Wo rfl (opv_move (v := .pointer _) rfl) ?_; refine Wo rfl (opv_nilCheck rfl) ?_
        refine Wo rfl (opv_fieldAddr Try.underlying78 rfl rfl (by first | exact Try.sizeOf3 | exact Try.sizeOf9) rfl) ?_; refine Wo (v := .int _ _) rfl (opv_load Try.isAgg5 rfl ((hB.ext E1).cell rfl)) ?_; refine Wo rfl (opv_eql rfl rfl) ?_
        refine Wo_split_dec rfl (opv_move (v := .bool _) rfl) (fun h2 => ?_) (fun h2 => ?_); refine Wo_skip rfl ?_; refine Wo_skip rfl ?_; refine Wo_skip rfl ?_; refine Wo_skip rfl ?_; refine Wo_skip rfl ?_
        refine Wo rfl (opv_pick_t (v := .bool _) rfl rfl) ?_; refine Wo_nil ?_; refine W_cond_true rfl ?_; refine W_region rfl ?_; refine Wo rfl (opv_move (v := .int _ _) rfl) ?_; refine Wo rfl (opv_add rfl rfl (by omega)) ?_
        refine Wo rfl (opv_assign (v := .int _ _) rfl) ?_; refine Wo_nil ?_; refine W_seq ?_; refine W_region rfl ?_; refine Wo rfl (opv_move (v := .int _ _) rfl) ?_; refine Wo rfl (opv_assign (v := .int _ _) rfl) ?_; refine Wo_nil ?_
        refine W_ret ?_; refine at_ret (v := .int _ _) rfl ?_; refine ⟨congrArg (Value.int .i64) ?_, E1⟩; rotate_left; refine Wo rfl (opv_move (v := .pointer _) rfl) ?_; refine Wo rfl (opv_nilCheck rfl) ?_
        refine Wo rfl (opv_fieldAddr Try.underlying78 rfl rfl (by first | exact Try.sizeOf3 | exact Try.sizeOf9) rfl) ?_; refine Wo (v := .int _ _) rfl (opv_load Try.isAgg5 rfl ((hB.ext E1).cell rfl)) ?_; refine Wo rfl (opv_eql rfl rfl) ?_
        refine Wo rfl (opv_pick_f (v := .bool _) rfl rfl) ?_; refine Wo_nil ?_; refine W_cond_dec rfl (fun h3 => ?_) (fun h3 => ?_); refine W_region rfl ?_; refine Wo rfl (opv_move (v := .int _ _) rfl) ?_
        refine Wo rfl (opv_add rfl rfl (by omega)) ?_; refine Wo rfl (opv_assign (v := .int _ _) rfl) ?_; refine Wo_nil ?_; refine W_seq ?_; refine W_region rfl ?_; refine Wo rfl (opv_move (v := .int _ _) rfl) ?_
        refine Wo rfl (opv_assign (v := .int _ _) rfl) ?_; refine Wo_nil ?_; refine W_ret ?_; refine at_ret (v := .int _ _) rfl ?_; refine ⟨congrArg (Value.int .i64) ?_, E1⟩; rotate_left; refine W_skip ?_; refine W_seq ?_
        refine W_region rfl ?_; refine Wo rfl (opv_move (v := .int _ _) rfl) ?_; refine Wo rfl (opv_assign (v := .int _ _) rfl) ?_; refine Wo_nil ?_; refine W_ret ?_; refine at_ret (v := .int _ _) rfl ?_
        refine ⟨congrArg (Value.int .i64) ?_, E1⟩; rotate_left
      · rw [hde, List.take_length, if_pos (by omega)]; rfl
      · rw [hde, List.take_length, if_pos (by omega)]; rfl
      · rw [hde, List.take_length, if_neg (by omega)]; rfl

theorem opp_len (f : Fm) : f.opp.enc.length ≤ 2 * f.enc.length := by
  induction f <;> simp_all [Fm.opp, Fm.enc] <;> omega


theorem opposite_ok : ∀ (f : Fm) (w : World) (v : Value), EFm w v f → f.enc.length ≤ 1000 → Does Try.prog 55 [v] w (Ret w (str f.opp.enc)) := by
  have un : ∀ (f g : Fm) (c d : UInt8), (∀ (w : World) (v : Value), EFm w v f → ∃ b bp u, v = .pointer (some ⟨b, 0, none⟩) ∧ Blk w b [.int .u8 (c.toNat : Int), str f.enc, .slice (some ⟨bp, 0, none⟩) 1 1] ∧ Blk w bp [u] ∧ EFm w u g) →
      f.opp.enc = d :: g.opp.enc → (c = 83 ∧ d = 65 ∨ c = 65 ∧ d = 83) → g.enc.length ≤ 1000 → (∀ (w : World) (v : Value), EFm w v g → Does Try.prog 55 [v] w (Ret w (str g.opp.enc))) →
      ∀ (w : World) (v : Value), EFm w v f → Does Try.prog 55 [v] w (Ret w (str f.opp.enc)) := by
    intro f g c d hop he hcd hl ih w v hf
    obtain ⟨b, bp, u, rfl, hB, hBp, hu⟩ := hop w v hf
    have hP := hBp.vals (c := 1) (by simp)
    have hol := opp_len g
    rw [he]
    have h1 : (c.toNat = 83 ∧ d = 65) ∨ (c.toNat = 65 ∧ d = 83) := by rcases hcd with ⟨rfl, rfl⟩ | ⟨rfl, rfl⟩ <;> simp
    clear he hcd hf hop
    rcases h1 with ⟨hc, rfl⟩ | ⟨hc, rfl⟩
    · refine fn_of_W1 Try.func55 rfl Try.results55 Try.ntmps55 rfl ?_
      focus
        refine W_seq ?_; refine W_region rfl ?_; refine Wo rfl (opv_assign (v := .string _) rfl) ?_; refine Wo_nil ?_; refine W_seq ?_; refine W_seq ?_; refine W_region rfl ?_; refine Wo rfl (opv_move (v := .pointer _) rfl) ?_
        refine Wo rfl (opv_nilCheck rfl) ?_; refine Wo rfl (opv_fieldAddr Try.underlying78 rfl rfl (by first | exact Try.sizeOf3 | exact Try.sizeOf9) rfl) ?_; refine Wo (v := .int _ _) rfl (opv_load Try.isAgg5 rfl (hB.cell rfl)) ?_
        refine Wo_nil ?_; refine W_block ?_; refine W_seq ?_; refine W_region rfl ?_; refine Wo rfl (opv_eql rfl rfl) ?_; refine Wo rfl (opv_assign (v := .bool _) rfl) ?_; refine Wo_nil ?_
        refine W_cond_dec rfl (fun h1 => ?_) (fun h1 => ?_); (exfalso; omega); refine W_seq ?_; refine W_region rfl ?_; refine Wo rfl (opv_eql rfl rfl) ?_; refine Wo rfl (opv_assign (v := .bool _) rfl) ?_; refine Wo_nil ?_
        refine W_cond_dec rfl (fun h2 => ?_) (fun h2 => ?_); refine W_seq ?_; refine W_region rfl ?_; refine Wo rfl (opv_move (v := .pointer _) rfl) ?_; refine Wo rfl (opv_nilCheck rfl) ?_
        refine Wo rfl (opv_fieldAddr Try.underlying78 rfl rfl (by first | exact Try.sizeOf3 | exact Try.sizeOf9) rfl) ?_; refine Wo (v := .slice _ _ _) rfl (opv_load Try.isAgg76 rfl (hB.cell rfl)) ?_
        refine Wo_get (k := 0) Try.underlying76 Try.sizeOf57 Try.isAgg57 rfl (fun _ => rfl) rfl hP (Ext.refl _) rfl (by first | omega | (simp <;> omega)) ?_; rintro _ _ rfl; refine Wo_call rfl (opc1 Try.call55 rfl) (ih _ _ (hu)) ?_
        rintro _ w1 ⟨rfl, E1⟩; have hs1 := E1.size; refine Wo rfl (opv_add_str rfl rfl (by simp <;> omega)) ?_; refine Wo rfl (opv_assign (v := .string _) rfl) ?_; refine Wo_nil ?_; refine W_ret ?_; exact ⟨rfl, E1⟩; (exfalso; omega)
    · refine fn_of_W1 Try.func55 rfl Try.results55 Try.ntmps55 rfl ?_
      focus
        refine W_seq ?_; refine W_region rfl ?_; refine Wo rfl (opv_assign (v := .string _) rfl) ?_; refine Wo_nil ?_; refine W_seq ?_; refine W_seq ?_; refine W_region rfl ?_; refine Wo rfl (opv_move (v := .pointer _) rfl) ?_
        refine Wo rfl (opv_nilCheck rfl) ?_; refine Wo rfl (opv_fieldAddr Try.underlying78 rfl rfl (by first | exact Try.sizeOf3 | exact Try.sizeOf9) rfl) ?_; refine Wo (v := .int _ _) rfl (opv_load Try.isAgg5 rfl (hB.cell rfl)) ?_
        refine Wo_nil ?_; refine W_block ?_; refine W_seq ?_; refine W_region rfl ?_; refine Wo rfl (opv_eql rfl rfl) ?_; refine Wo rfl (opv_assign (v := .bool _) rfl) ?_; refine Wo_nil ?_
        refine W_cond_dec rfl (fun h1 => ?_) (fun h1 => ?_); (exfalso; omega); refine W_seq ?_; refine W_region rfl ?_; refine Wo rfl (opv_eql rfl rfl) ?_; refine Wo rfl (opv_assign (v := .bool _) rfl) ?_; refine Wo_nil ?_
        refine W_cond_dec rfl (fun h2 => ?_) (fun h2 => ?_); (exfalso; omega); refine W_seq ?_; refine W_region rfl ?_; refine Wo rfl (opv_eql rfl rfl) ?_; refine Wo rfl (opv_assign (v := .bool _) rfl) ?_; refine Wo_nil ?_
        refine W_cond_dec rfl (fun h3 => ?_) (fun h3 => ?_); refine W_seq ?_; refine W_region rfl ?_; refine Wo rfl (opv_move (v := .pointer _) rfl) ?_; refine Wo rfl (opv_nilCheck rfl) ?_
        refine Wo rfl (opv_fieldAddr Try.underlying78 rfl rfl (by first | exact Try.sizeOf3 | exact Try.sizeOf9) rfl) ?_; refine Wo (v := .slice _ _ _) rfl (opv_load Try.isAgg76 rfl (hB.cell rfl)) ?_
        refine Wo_get (k := 0) Try.underlying76 Try.sizeOf57 Try.isAgg57 rfl (fun _ => rfl) rfl hP (Ext.refl _) rfl (by first | omega | (simp <;> omega)) ?_; rintro _ _ rfl; refine Wo_call rfl (opc1 Try.call55 rfl) (ih _ _ (hu)) ?_
        rintro _ w1 ⟨rfl, E1⟩; have hs1 := E1.size; refine Wo rfl (opv_add_str rfl rfl (by simp <;> omega)) ?_; refine Wo rfl (opv_assign (v := .string _) rfl) ?_; refine Wo_nil ?_; refine W_ret ?_; exact ⟨rfl, E1⟩; (exfalso; omega)
  have bin : ∀ (f g g' : Fm) (c d : UInt8), (∀ (w : World) (v : Value), EFm w v f → ∃ b bp u u', v = .pointer (some ⟨b, 0, none⟩) ∧ Blk w b [.int .u8 (c.toNat : Int), str f.enc, .slice (some ⟨bp, 0, none⟩) 2 2] ∧ Blk w bp [u, u'] ∧ EFm w u g ∧ EFm w u' g') →
      f.opp.enc = ([40] ++ g.opp.enc ++ [d]) ++ g'.opp.enc ++ [41] → (c = 38 ∧ d = 124 ∨ c = 124 ∧ d = 38) → g.enc.length ≤ 1000 → g'.enc.length ≤ 1000 →
      (∀ (w : World) (v : Value), EFm w v g → Does Try.prog 55 [v] w (Ret w (str g.opp.enc))) →
      (∀ (w : World) (v : Value), EFm w v g' → Does Try.prog 55 [v] w (Ret w (str g'.opp.enc))) →
      ∀ (w : World) (v : Value), EFm w v f → Does Try.prog 55 [v] w (Ret w (str f.opp.enc)) := by
    intro f g g' c d hop he hcd hl hl' ih ih' w v hf
    obtain ⟨b, bp, u, u', rfl, hB, hBp, hu, hu'⟩ := hop w v hf
    have hP := hBp.vals (c := 2) (by simp)
    have hol := opp_len g
    have hol' := opp_len g'
    rw [he]
    have h1 : (c.toNat = 38 ∧ d = 124) ∨ (c.toNat = 124 ∧ d = 38) := by rcases hcd with ⟨rfl, rfl⟩ | ⟨rfl, rfl⟩ <;> simp
    clear he hcd hf hop
    rcases h1 with ⟨hc, rfl⟩ | ⟨hc, rfl⟩
    · refine fn_of_W1 Try.func55 rfl Try.results55 Try.ntmps55 rfl ?_
      focus
        refine W_seq ?_; refine W_region rfl ?_; refine Wo rfl (opv_assign (v := .string _) rfl) ?_; refine Wo_nil ?_; refine W_seq ?_; refine W_seq ?_; refine W_region rfl ?_; refine Wo rfl (opv_move (v := .pointer _) rfl) ?_
        refine Wo rfl (opv_nilCheck rfl) ?_; refine Wo rfl (opv_fieldAddr Try.underlying78 rfl rfl (by first | exact Try.sizeOf3 | exact Try.sizeOf9) rfl) ?_; refine Wo (v := .int _ _) rfl (opv_load Try.isAgg5 rfl (hB.cell rfl)) ?_
        refine Wo_nil ?_; refine W_block ?_; refine W_seq ?_; refine W_region rfl ?_; refine Wo rfl (opv_eql rfl rfl) ?_; refine Wo rfl (opv_assign (v := .bool _) rfl) ?_; refine Wo_nil ?_
        refine W_cond_dec rfl (fun h1 => ?_) (fun h1 => ?_); (exfalso; omega); refine W_seq ?_; refine W_region rfl ?_; refine Wo rfl (opv_eql rfl rfl) ?_; refine Wo rfl (opv_assign (v := .bool _) rfl) ?_; refine Wo_nil ?_
        refine W_cond_dec rfl (fun h2 => ?_) (fun h2 => ?_); (exfalso; omega); refine W_seq ?_; refine W_region rfl ?_; refine Wo rfl (opv_eql rfl rfl) ?_; refine Wo rfl (opv_assign (v := .bool _) rfl) ?_; refine Wo_nil ?_
        refine W_cond_dec rfl (fun h3 => ?_) (fun h3 => ?_); (exfalso; omega); refine W_seq ?_; refine W_region rfl ?_; refine Wo rfl (opv_eql rfl rfl) ?_; refine Wo rfl (opv_assign (v := .bool _) rfl) ?_; refine Wo_nil ?_
        refine W_cond_dec rfl (fun h4 => ?_) (fun h4 => ?_); refine W_seq ?_; refine W_draw mixed (by kernel_rfl) rfl ?_; refine Wq_o rfl (fun _ _ => opv_move (v := .pointer _) rfl) ?_; refine Wq_o rfl (fun _ _ => opv_nilCheck rfl) ?_
        refine Wq_o rfl (fun _ _ => opv_fieldAddr Try.underlying78 rfl rfl (by first | exact Try.sizeOf3 | exact Try.sizeOf9) rfl) ?_; refine Wq_o (v := .slice _ _ _) rfl (fun w' hw' => opv_load Try.isAgg76 rfl ((hB.ext hw').cell rfl)) ?_
        refine Wq_get (k := 0) Try.underlying76 Try.sizeOf57 Try.isAgg57 rfl (fun _ => rfl) rfl hP (Ext.refl _) rfl (by first | omega | (simp <;> omega)) ?_; rintro _ _ rfl
        refine Wq_call rfl (fun _ _ => opc1 Try.call55 rfl) (fun w' hw' => (ih _ _ ((Mono.mono hw' hu)))) ?_; refine Wq_o rfl (fun _ _ => opv_add_str rfl rfl (by simp <;> omega)) ?_
        refine Wq_o rfl (fun _ _ => opv_add_str rfl rfl (by simp <;> omega)) ?_; refine Wq_o rfl (fun _ _ => opv_move (v := .pointer _) rfl) ?_; refine Wq_o rfl (fun _ _ => opv_nilCheck rfl) ?_
        refine Wq_o rfl (fun _ _ => opv_fieldAddr Try.underlying78 rfl rfl (by first | exact Try.sizeOf3 | exact Try.sizeOf9) rfl) ?_; refine Wq_o (v := .slice _ _ _) rfl (fun w' hw' => opv_load Try.isAgg76 rfl ((hB.ext hw').cell rfl)) ?_
        refine Wq_get (k := 1) Try.underlying76 Try.sizeOf57 Try.isAgg57 rfl (fun _ => rfl) rfl hP (Ext.refl _) rfl (by first | omega | (simp <;> omega)) ?_; rintro _ _ rfl
        refine Wq_call rfl (fun _ _ => opc1 Try.call55 rfl) (fun w' hw' => (ih' _ _ ((Mono.mono hw' hu')))) ?_; refine Wq_o rfl (fun _ _ => opv_add_str rfl rfl (by simp <;> omega)) ?_
        refine Wq_o rfl (fun _ _ => opv_add_str rfl rfl (by simp <;> omega)) ?_; refine Wq_o rfl (fun _ _ => opv_assign (v := .string _) rfl) ?_; refine Wq_nil (fun w1 E1 => ?_); have hs1 := E1.size; refine W_ret ?_; exact ⟨rfl, E1⟩
        (exfalso; omega)
    · refine fn_of_W1 Try.func55 rfl Try.results55 Try.ntmps55 rfl ?_
      focus
        refine W_seq ?_; refine W_region rfl ?_; refine Wo rfl (opv_assign (v := .string _) rfl) ?_; refine Wo_nil ?_; refine W_seq ?_; refine W_seq ?_; refine W_region rfl ?_; refine Wo rfl (opv_move (v := .pointer _) rfl) ?_
        refine Wo rfl (opv_nilCheck rfl) ?_; refine Wo rfl (opv_fieldAddr Try.underlying78 rfl rfl (by first | exact Try.sizeOf3 | exact Try.sizeOf9) rfl) ?_; refine Wo (v := .int _ _) rfl (opv_load Try.isAgg5 rfl (hB.cell rfl)) ?_
        refine Wo_nil ?_; refine W_block ?_; refine W_seq ?_; refine W_region rfl ?_; refine Wo rfl (opv_eql rfl rfl) ?_; refine Wo rfl (opv_assign (v := .bool _) rfl) ?_; refine Wo_nil ?_
        refine W_cond_dec rfl (fun h1 => ?_) (fun h1 => ?_); (exfalso; omega); refine W_seq ?_; refine W_region rfl ?_; refine Wo rfl (opv_eql rfl rfl) ?_; refine Wo rfl (opv_assign (v := .bool _) rfl) ?_; refine Wo_nil ?_
        refine W_cond_dec rfl (fun h2 => ?_) (fun h2 => ?_); (exfalso; omega); refine W_seq ?_; refine W_region rfl ?_; refine Wo rfl (opv_eql rfl rfl) ?_; refine Wo rfl (opv_assign (v := .bool _) rfl) ?_; refine Wo_nil ?_
        refine W_cond_dec rfl (fun h3 => ?_) (fun h3 => ?_); (exfalso; omega); refine W_seq ?_; refine W_region rfl ?_; refine Wo rfl (opv_eql rfl rfl) ?_; refine Wo rfl (opv_assign (v := .bool _) rfl) ?_; refine Wo_nil ?_
        refine W_cond_dec rfl (fun h4 => ?_) (fun h4 => ?_); (exfalso; omega); refine W_seq ?_; refine W_region rfl ?_; refine Wo rfl (opv_eql rfl rfl) ?_; refine Wo rfl (opv_assign (v := .bool _) rfl) ?_; refine Wo_nil ?_
        refine W_cond_dec rfl (fun h5 => ?_) (fun h5 => ?_); refine W_seq ?_; refine W_draw mixed (by kernel_rfl) rfl ?_; refine Wq_o rfl (fun _ _ => opv_move (v := .pointer _) rfl) ?_; refine Wq_o rfl (fun _ _ => opv_nilCheck rfl) ?_
        refine Wq_o rfl (fun _ _ => opv_fieldAddr Try.underlying78 rfl rfl (by first | exact Try.sizeOf3 | exact Try.sizeOf9) rfl) ?_; refine Wq_o (v := .slice _ _ _) rfl (fun w' hw' => opv_load Try.isAgg76 rfl ((hB.ext hw').cell rfl)) ?_
        refine Wq_get (k := 0) Try.underlying76 Try.sizeOf57 Try.isAgg57 rfl (fun _ => rfl) rfl hP (Ext.refl _) rfl (by first | omega | (simp <;> omega)) ?_; rintro _ _ rfl
        refine Wq_call rfl (fun _ _ => opc1 Try.call55 rfl) (fun w' hw' => (ih _ _ ((Mono.mono hw' hu)))) ?_; refine Wq_o rfl (fun _ _ => opv_add_str rfl rfl (by simp <;> omega)) ?_
        refine Wq_o rfl (fun _ _ => opv_add_str rfl rfl (by simp <;> omega)) ?_; refine Wq_o rfl (fun _ _ => opv_move (v := .pointer _) rfl) ?_; refine Wq_o rfl (fun _ _ => opv_nilCheck rfl) ?_
        refine Wq_o rfl (fun _ _ => opv_fieldAddr Try.underlying78 rfl rfl (by first | exact Try.sizeOf3 | exact Try.sizeOf9) rfl) ?_; refine Wq_o (v := .slice _ _ _) rfl (fun w' hw' => opv_load Try.isAgg76 rfl ((hB.ext hw').cell rfl)) ?_
        refine Wq_get (k := 1) Try.underlying76 Try.sizeOf57 Try.isAgg57 rfl (fun _ => rfl) rfl hP (Ext.refl _) rfl (by first | omega | (simp <;> omega)) ?_; rintro _ _ rfl
        refine Wq_call rfl (fun _ _ => opc1 Try.call55 rfl) (fun w' hw' => (ih' _ _ ((Mono.mono hw' hu')))) ?_; refine Wq_o rfl (fun _ _ => opv_add_str rfl rfl (by simp <;> omega)) ?_
        refine Wq_o rfl (fun _ _ => opv_add_str rfl rfl (by simp <;> omega)) ?_; refine Wq_o rfl (fun _ _ => opv_assign (v := .string _) rfl) ?_; refine Wq_nil (fun w1 E1 => ?_); have hs1 := E1.size; refine W_ret ?_; exact ⟨rfl, E1⟩
        (exfalso; omega)
  intro f
  induction f with
  | t =>
    intro w v hf hl
    obtain ⟨b, rfl, hB⟩ := hf
    refine fn_of_W1 Try.func55 rfl Try.results55 Try.ntmps55 rfl ?_
    focus
      refine W_seq ?_; refine W_region rfl ?_; refine Wo rfl (opv_assign (v := .string _) rfl) ?_; refine Wo_nil ?_; refine W_seq ?_; refine W_seq ?_; refine W_region rfl ?_; refine Wo rfl (opv_move (v := .pointer _) rfl) ?_
      refine Wo rfl (opv_nilCheck rfl) ?_; refine Wo rfl (opv_fieldAddr Try.underlying78 rfl rfl (by first | exact Try.sizeOf3 | exact Try.sizeOf9) rfl) ?_; refine Wo (v := .int _ _) rfl (opv_load Try.isAgg5 rfl (hB.cell rfl)) ?_
      refine Wo_nil ?_; refine W_block ?_; refine W_seq ?_; refine W_region rfl ?_; refine Wo rfl (opv_eql rfl rfl) ?_; refine Wo rfl (opv_assign (v := .bool _) rfl) ?_; refine Wo_nil ?_
      refine W_cond_dec rfl (fun h1 => ?_) (fun h1 => ?_); contradiction; refine W_seq ?_; refine W_region rfl ?_; refine Wo rfl (opv_eql rfl rfl) ?_; refine Wo rfl (opv_assign (v := .bool _) rfl) ?_; refine Wo_nil ?_
      refine W_cond_dec rfl (fun h2 => ?_) (fun h2 => ?_); contradiction; refine W_seq ?_; refine W_region rfl ?_; refine Wo rfl (opv_eql rfl rfl) ?_; refine Wo rfl (opv_assign (v := .bool _) rfl) ?_; refine Wo_nil ?_
      refine W_cond_dec rfl (fun h3 => ?_) (fun h3 => ?_); contradiction; refine W_seq ?_; refine W_region rfl ?_; refine Wo rfl (opv_eql rfl rfl) ?_; refine Wo rfl (opv_assign (v := .bool _) rfl) ?_; refine Wo_nil ?_
      refine W_cond_dec rfl (fun h4 => ?_) (fun h4 => ?_); contradiction; refine W_seq ?_; refine W_region rfl ?_; refine Wo rfl (opv_eql rfl rfl) ?_; refine Wo rfl (opv_assign (v := .bool _) rfl) ?_; refine Wo_nil ?_
      refine W_cond_dec rfl (fun h5 => ?_) (fun h5 => ?_); contradiction; refine W_skip ?_; refine W_seq ?_; refine W_region rfl ?_; refine Wo rfl (opv_assign (v := .string _) rfl) ?_; refine Wo_nil ?_; refine W_ret ?_
      exact ⟨rfl, (Ext.refl _)⟩
  | neg f ih =>
    intro w v hf hl
    obtain ⟨b, bp, u, rfl, hB, hBp, hu⟩ := hf
    obtain ⟨b', pv', rfl, hB', _⟩ := hu.open
    have hP := hBp.vals (c := 1) (by simp)
    refine fn_of_W1 Try.func55 rfl Try.results55 Try.ntmps55 rfl ?_
    focus
      refine W_seq ?_; refine W_region rfl ?_; refine Wo rfl (opv_assign (v := .string _) rfl) ?_; refine Wo_nil ?_; refine W_seq ?_; refine W_seq ?_; refine W_region rfl ?_; refine Wo rfl (opv_move (v := .pointer _) rfl) ?_
      refine Wo rfl (opv_nilCheck rfl) ?_; refine Wo rfl (opv_fieldAddr Try.underlying78 rfl rfl (by first | exact Try.sizeOf3 | exact Try.sizeOf9) rfl) ?_; refine Wo (v := .int _ _) rfl (opv_load Try.isAgg5 rfl (hB.cell rfl)) ?_
      refine Wo_nil ?_; refine W_block ?_; refine W_seq ?_; refine W_region rfl ?_; refine Wo rfl (opv_eql rfl rfl) ?_; refine Wo rfl (opv_assign (v := .bool _) rfl) ?_; refine Wo_nil ?_
      refine W_cond_dec rfl (fun h1 => ?_) (fun h1 => ?_); refine W_seq ?_; refine W_region rfl ?_; refine Wo rfl (opv_move (v := .pointer _) rfl) ?_; refine Wo rfl (opv_nilCheck rfl) ?_
      refine Wo rfl (opv_fieldAddr Try.underlying78 rfl rfl (by first | exact Try.sizeOf3 | exact Try.sizeOf9) rfl) ?_; refine Wo (v := .slice _ _ _) rfl (opv_load Try.isAgg76 rfl (hB.cell rfl)) ?_
      refine Wo_get (k := 0) Try.underlying76 Try.sizeOf57 Try.isAgg57 rfl (fun _ => rfl) rfl hP (Ext.refl _) rfl (by first | omega | (simp <;> omega)) ?_; rintro _ _ rfl; refine Wo rfl (opv_nilCheck rfl) ?_
      refine Wo rfl (opv_fieldAddr Try.underlying78 rfl rfl (by first | exact Try.sizeOf3 | exact Try.sizeOf9) rfl) ?_; refine Wo (v := .string _) rfl (opv_load Try.isAgg9 rfl (hB'.cell rfl)) ?_
      refine Wo rfl (opv_assign (v := .string _) rfl) ?_; refine Wo_nil ?_; refine W_ret ?_; exact ⟨rfl, (Ext.refl _)⟩; contradiction
  | S f ih => intro w v hf hl; simp only [Fm.enc, List.length_cons] at hl; exact un (.S f) f 83 65 (fun w v h => h) rfl (.inl ⟨rfl, rfl⟩) (by omega) (fun w v h => ih w v h (by omega)) w v hf
  | A f ih => intro w v hf hl; simp only [Fm.enc, List.length_cons] at hl; exact un (.A f) f 65 83 (fun w v h => h) rfl (.inr ⟨rfl, rfl⟩) (by omega) (fun w v h => ih w v h (by omega)) w v hf
  | and f g ih1 ih2 => intro w v hf hl; simp [Fm.enc] at hl; exact bin (.and f g) f g 38 124 (fun w v h => h) (by simp [Fm.opp, Fm.enc]) (.inl ⟨rfl, rfl⟩) (by omega) (by omega) (fun w v h => ih1 w v h (by omega)) (fun w v h => ih2 w v h (by omega)) w v hf
  | or f g ih1 ih2 => intro w v hf hl; simp [Fm.enc] at hl; exact bin (.or f g) f g 124 38 (fun w v h => h) (by simp [Fm.opp, Fm.enc]) (.inr ⟨rfl, rfl⟩) (by omega) (by omega) (fun w v h => ih1 w v h (by omega)) (fun w v h => ih2 w v h (by omega)) w v hf


noncomputable def deepV (s : List UInt8) : Int := match theF s with
  | some f => (f.deep : Int)
  | none => -1
theorem deepV_some {s : List UInt8} {f : Fm} (h : theF s = some f) : deepV s = (f.deep : Int) := by unfold deepV; rw [h]
theorem deepV_none {s : List UInt8} (h : theF s = none) : deepV s = -1 := by unfold deepV; rw [h]


theorem impl_FormulaDeep_ok (s : List UInt8) (w : World) (hl : s.length ≤ lim) : Does Try.prog 18 [str s] w (Ret w (.int .i64 (deepV s))) := by
  cases h : theF s with
  | none =>
    rw [deepV_none h]
    refine fn_of_W1 Try.func18 rfl Try.results18 Try.ntmps18 rfl ?_
    focus
      refine W_seq ?_; refine W_region rfl ?_; refine Wo rfl (opv_assign (v := .int _ _) rfl) ?_; refine Wo_nil ?_; refine W_seq ?_; refine W_region rfl ?_; refine Wo rfl (opv_move (v := .string _) rfl) ?_
      refine Wo_call rfl (opc1 (a := .string _) Try.call50 rfl) (readFormula_none _ _ (by assumption) (by assumption)) ?_; rintro _ w1 ⟨rfl, E1⟩; have hs1 := E1.size; refine Wo rfl (opv_assign (v := .pointer _) rfl) ?_; refine Wo_nil ?_
      refine W_seq ?_; refine W_seq ?_; refine W_region rfl ?_; refine Wo rfl (opv_move (v := .pointer _) rfl) ?_; refine Wo rfl (opv_eql_nil Try.underlying57 rfl rfl) ?_; refine Wo_nil ?_; refine W_cond_true rfl ?_; refine W_seq ?_
      refine W_region rfl ?_; refine Wo rfl (opv_assign (v := .int _ _) rfl) ?_; refine Wo_nil ?_; refine W_ret ?_; exact ⟨rfl, E1⟩
  | some f =>
    rw [deepV_some h]
    have hf := theF_some.1 h
    have hd : ∀ (w : World) (v : Value), EFm w v f → Does Try.prog 51 [v] w (Ret w (.int .i64 (f.deep : Int))) := fun w v hv => deep_ok _ f (Nat.le_refl _) w v hv (by rw [← hf.1]; omega)
    refine fn_of_W1 Try.func18 rfl Try.results18 Try.ntmps18 rfl ?_
    focus
      refine W_seq ?_; refine W_region rfl ?_; refine Wo rfl (opv_assign (v := .int _ _) rfl) ?_; refine Wo_nil ?_; refine W_seq ?_; refine W_region rfl ?_; refine Wo rfl (opv_move (v := .string _) rfl) ?_
      refine Wo_call rfl (opc1 (a := .string _) Try.call50 rfl) (readFormula_some _ _ _ (by assumption)) ?_; rintro _ w1 ⟨E1, y1, rfl, hy1⟩; have hs1 := E1.size; refine Wo rfl (opv_assign (v := .pointer _) rfl) ?_; refine Wo_nil ?_
      refine W_seq ?_; refine W_seq ?_; refine W_region rfl ?_; refine Wo rfl (opv_move (v := .pointer _) rfl) ?_; refine Wo rfl (opv_eql_some Try.underlying57 rfl rfl) ?_; refine Wo_nil ?_; refine W_cond_false rfl ?_; refine W_skip ?_
      refine W_seq ?_; refine W_region rfl ?_; refine Wo rfl (opv_move (v := .pointer _) rfl) ?_; refine Wo_call rfl (opc1 (a := .pointer _) Try.call51 rfl) (hd _ _ ((Above.here hy1))) ?_; rintro _ w2 ⟨rfl, E2⟩; have hs2 := E2.size
      refine Wo rfl (opv_assign (v := .int _ _) rfl) ?_; refine Wo_nil ?_; refine W_ret ?_; exact ⟨rfl, (E1.trans E2)⟩


theorem okF_enc {f : Fm} (h : f.enc.length ≤ 60) : okF f.enc = true := by rw [okF, theF_enc h]; rfl
theorem spec_FormulaDeep_ok1 : ∀ (f : Fm), f.enc.length ≤ 60 → ∀ w : World, Does Try.prog 17 [str f.enc] w (Ret w (.int .i64 (f.deep : Int))) := by
  have hok : ∀ (f : Fm), f.enc.length ≤ 60 → ∀ w : World, Does Try.prog 15 [str f.enc] w (Ret w (.bool true)) := fun f h w => by
    have := spec_FormulaOk_ok f.enc w (by unfold lim; omega)
    rw [okF_enc h] at this
    exact this
  have bin : ∀ (f g : Fm) (c : UInt8) (h : Fm), h.enc = 40 :: (f.enc ++ c :: (g.enc ++ [41])) → c = 38 ∨ c = 124 → h.deep = max f.deep g.deep →
      (f.enc.length ≤ 60 → ∀ w : World, Does Try.prog 17 [str f.enc] w (Ret w (.int .i64 (f.deep : Int)))) →
      (g.enc.length ≤ 60 → ∀ w : World, Does Try.prog 17 [str g.enc] w (Ret w (.int .i64 (g.deep : Int)))) →
      h.enc.length ≤ 60 → ∀ w : World, Does Try.prog 17 [str h.enc] w (Ret w (.int .i64 (h.deep : Int))) := by
    intro f g c h he hc hdp ih1 ih2 h60 w
    have hs := hok h h60
    have hlen : h.enc.length = f.enc.length + g.enc.length + 3 := by rw [he]; simp; omega
    have hn : (h.enc.getD 0 0).toNat = 40 := by rw [he]; rfl
    have hend : ∀ w, Does Try.prog 49 [str h.enc, .int .i64 1] w (Ret w (.int .i64 ((f.enc.length + 1 : Nat) : Int))) := fun w => by
      have := l10End_ok _ h.enc 1 w (by unfold lim; omega) (Nat.le_refl _)
      have e : endV (h.enc.drop 1) h.enc.length = ((f.enc.length + 1 : Nat) : Int) := by
        rw [endV, pre_eq (l := h.enc.drop 1) (f := f) (r := c :: (g.enc ++ [41])) (by rw [he]; rfl)]
        simp only [List.length_cons, List.length_append, List.length_nil]
        omega
      rw [e] at this
      exact this
    have e1 : (h.enc.drop 1).take (f.enc.length + 1 - 1) = f.enc := by rw [he]; simp
    have e2 : (h.enc.drop (((f.enc.length + 1 : Nat) : Int) + 1).toNat).take (((h.enc.length : Int) - 1).toNat - (((f.enc.length + 1 : Nat) : Int) + 1).toNat) = g.enc := by
      have a1 : (((f.enc.length + 1 : Nat) : Int) + 1).toNat = f.enc.length + 2 := by omega
      have a2 : ((h.enc.length : Int) - 1).toNat = f.enc.length + g.enc.length + 2 := by omega
      have a3 : f.enc.length + g.enc.length + 2 - (f.enc.length + 2) = g.enc.length := by omega
      rw [a1, a2, a3, he]
      have : f.enc.length + 2 = (f.enc.length + 1) + 1 := rfl
      rw [this, List.drop_succ_cons, List.drop_append, List.drop_eq_nil_of_le (by omega)]
      simp
    have i1 : ∀ w, Does Try.prog 17 [str ((h.enc.drop 1).take (f.enc.length + 1 - 1))] w (Ret w (.int .i64 (f.deep : Int))) := fun w => by rw [e1]; exact ih1 (by omega) w
    have i2 : ∀ w, Does Try.prog 17 [str ((h.enc.drop (((f.enc.length + 1 : Nat) : Int) + 1).toNat).take (((h.enc.length : Int) - 1).toNat - (((f.enc.length + 1 : Nat) : Int) + 1).toNat))] w (Ret w (.int .i64 (g.deep : Int))) :=
      fun w => by rw [e2]; exact ih2 (by omega) w
    clear e1 e2 ih1 ih2 hok
    have hmx : (h.deep : Int) = max (f.deep : Int) (g.deep : Int) := by omega
    rw [hmx]
    clear hmx hdp
    generalize f.enc.length = m1 at *
    refine fn_of_W1 Try.func17 rfl Try.results17 Try.ntmps17 rfl ?_
    focus
      refine W_seq ?_; refine W_region rfl ?_; refine Wo rfl (opv_assign (v := .int _ _) rfl) ?_; refine Wo_nil ?_; refine W_seq ?_; refine W_seq ?_; refine W_region rfl ?_; refine Wo rfl (opv_move (v := .string _) rfl) ?_
      refine Wo_call rfl (opc1 (a := .string _) Try.call15 rfl) (hs _) ?_; rintro _ w1 ⟨rfl, E1⟩; have hs1 := E1.size; refine Wo rfl (opv_not rfl) ?_; refine Wo_nil ?_; refine W_cond rfl (fun h1 => ?_) (fun h1 => ?_); contradiction
      refine W_skip ?_; refine W_seq ?_; refine W_seq ?_; refine W_region rfl ?_; refine Wo rfl (opv_move (v := .string _) rfl) ?_; refine Wo rfl (opv_index_str (k := 0) Try.underlying9 rfl rfl (by omega)) ?_; refine Wo_nil ?_
      refine W_block ?_; refine W_seq ?_; refine W_region rfl ?_; refine Wo rfl (opv_eql rfl rfl) ?_; refine Wo rfl (opv_assign (v := .bool _) rfl) ?_; refine Wo_nil ?_; refine W_cond_dec rfl (fun h2 => ?_) (fun h2 => ?_)
      (exfalso; omega); refine W_seq ?_; refine W_region rfl ?_; refine Wo rfl (opv_eql rfl rfl) ?_; refine Wo rfl (opv_assign (v := .bool _) rfl) ?_; refine Wo_nil ?_; refine W_cond_dec rfl (fun h3 => ?_) (fun h3 => ?_); (exfalso; omega)
      refine W_seq ?_; refine W_seq ?_; refine W_region rfl ?_; refine Wo rfl (opv_eql rfl rfl) ?_; refine Wo rfl (opv_assign (v := .bool _) rfl) ?_; refine Wo_nil ?_; refine W_cond_dec rfl (fun h4 => ?_) (fun h4 => ?_); (exfalso; omega)
      refine W_region rfl ?_; refine Wo rfl (opv_eql rfl rfl) ?_; refine Wo rfl (opv_assign (v := .bool _) rfl) ?_; refine Wo_nil ?_; refine W_cond_dec rfl (fun h5 => ?_) (fun h5 => ?_); (exfalso; omega); refine W_skip ?_; refine W_seq ?_
      refine W_region rfl ?_; refine Wo rfl (opv_move (v := .string _) rfl) ?_; refine Wo_call rfl (opc2 (a := .string _) (b := .int _ _) Try.call49 rfl rfl) (hend _) ?_; rintro _ w2 ⟨rfl, E2⟩; have hs2 := E2.size
      refine Wo rfl (opv_assign (v := .int _ _) rfl) ?_; refine Wo_nil ?_; refine W_seq ?_; refine W_draw mixed (by kernel_rfl) rfl ?_; refine Wq_o rfl (fun _ _ => opv_move (v := .string _) rfl) ?_
      refine Wq_o rfl (fun _ _ => opv_move (v := .int _ _) rfl) ?_; refine Wq_o rfl (fun _ _ => opv_slice_str (l := 1) Try.underlying9 rfl rfl rfl (by omega)) ?_
      refine Wq_call rfl (fun _ _ => opc1 (a := .string _) Try.call17 rfl) (fun w' hw' => (i1 _)) ?_; refine Wq_o rfl (fun _ _ => opv_move (v := .string _) rfl) ?_; refine Wq_o rfl (fun _ _ => opv_move (v := .int _ _) rfl) ?_
      refine Wq_o rfl (fun _ _ => opv_add rfl rfl (by omega)) ?_; refine Wq_o rfl (fun _ _ => opv_move (v := .string _) rfl) ?_; refine Wq_o rfl (fun _ _ => opv_len_str Try.underlying9 rfl) ?_
      refine Wq_o rfl (fun _ _ => opv_sub rfl rfl (by omega)) ?_; refine Wq_o rfl (fun _ _ => opv_slice_str_z Try.underlying9 rfl rfl rfl (by omega)) ?_
      refine Wq_call rfl (fun _ _ => opc1 (a := .string _) Try.call17 rfl) (fun w' hw' => (i2 _)) ?_; refine Wq_o rfl (fun _ _ => opv_max rfl rfl) ?_; refine Wq_o rfl (fun _ _ => opv_assign (v := .int _ _) rfl) ?_
      refine Wq_nil (fun w3 E3 => ?_); have hs3 := E3.size; refine W_ret ?_; exact ⟨rfl, ((E1.trans E2).trans E3)⟩
  intro f
  induction f with
  | t =>
    intro h60 w
    have hs := hok .t h60
    have hn : ((Fm.enc .t).getD 0 0).toNat = 116 := rfl
    have hl : (Fm.enc .t).length = 1 := rfl
    refine fn_of_W1 Try.func17 rfl Try.results17 Try.ntmps17 rfl ?_
    focus
      refine W_seq ?_; refine W_region rfl ?_; refine Wo rfl (opv_assign (v := .int _ _) rfl) ?_; refine Wo_nil ?_; refine W_seq ?_; refine W_seq ?_; refine W_region rfl ?_; refine Wo rfl (opv_move (v := .string _) rfl) ?_
      refine Wo_call rfl (opc1 (a := .string _) Try.call15 rfl) (hs _) ?_; rintro _ w1 ⟨rfl, E1⟩; have hs1 := E1.size; refine Wo rfl (opv_not rfl) ?_; refine Wo_nil ?_; refine W_cond rfl (fun h1 => ?_) (fun h1 => ?_); contradiction
      refine W_skip ?_; refine W_seq ?_; refine W_seq ?_; refine W_region rfl ?_; refine Wo rfl (opv_move (v := .string _) rfl) ?_; refine Wo rfl (opv_index_str (k := 0) Try.underlying9 rfl rfl (by omega)) ?_; refine Wo_nil ?_
      refine W_block ?_; refine W_seq ?_; refine W_region rfl ?_; refine Wo rfl (opv_eql rfl rfl) ?_; refine Wo rfl (opv_assign (v := .bool _) rfl) ?_; refine Wo_nil ?_; refine W_cond_dec rfl (fun h2 => ?_) (fun h2 => ?_); refine W_seq ?_
      refine W_region rfl ?_; refine Wo rfl (opv_assign (v := .int _ _) rfl) ?_; refine Wo_nil ?_; refine W_ret ?_; exact ⟨rfl, E1⟩; contradiction
  | neg f ih =>
    intro h60 w
    have hs := hok _ h60
    have hn : ((Fm.enc (.neg f)).getD 0 0).toNat = 33 := rfl
    have hl : (Fm.enc (.neg f)).length = f.enc.length + 1 := rfl
    have i1 : ∀ w, Does Try.prog 17 [str ((Fm.enc (.neg f)).drop 1)] w (Ret w (.int .i64 (f.deep : Int))) := ih (by omega)
    refine fn_of_W1 Try.func17 rfl Try.results17 Try.ntmps17 rfl ?_
    focus
      refine W_seq ?_; refine W_region rfl ?_; refine Wo rfl (opv_assign (v := .int _ _) rfl) ?_; refine Wo_nil ?_; refine W_seq ?_; refine W_seq ?_; refine W_region rfl ?_; refine Wo rfl (opv_move (v := .string _) rfl) ?_
      refine Wo_call rfl (opc1 (a := .string _) Try.call15 rfl) (hs _) ?_; rintro _ w1 ⟨rfl, E1⟩; have hs1 := E1.size; refine Wo rfl (opv_not rfl) ?_; refine Wo_nil ?_; refine W_cond rfl (fun h1 => ?_) (fun h1 => ?_); contradiction
      refine W_skip ?_; refine W_seq ?_; refine W_seq ?_; refine W_region rfl ?_; refine Wo rfl (opv_move (v := .string _) rfl) ?_; refine Wo rfl (opv_index_str (k := 0) Try.underlying9 rfl rfl (by omega)) ?_; refine Wo_nil ?_
      refine W_block ?_; refine W_seq ?_; refine W_region rfl ?_; refine Wo rfl (opv_eql rfl rfl) ?_; refine Wo rfl (opv_assign (v := .bool _) rfl) ?_; refine Wo_nil ?_; refine W_cond_dec rfl (fun h2 => ?_) (fun h2 => ?_)
      (exfalso; omega); refine W_seq ?_; refine W_region rfl ?_; refine Wo rfl (opv_eql rfl rfl) ?_; refine Wo rfl (opv_assign (v := .bool _) rfl) ?_; refine Wo_nil ?_; refine W_cond_dec rfl (fun h3 => ?_) (fun h3 => ?_); refine W_seq ?_
      refine W_region rfl ?_; refine Wo rfl (opv_move (v := .string _) rfl) ?_; refine Wo rfl (opv_slice_str_lo (l := 1) Try.underlying9 rfl rfl (by omega)) ?_; refine Wo_call rfl (opc1 (a := .string _) Try.call17 rfl) (i1 _) ?_
      rintro _ w2 ⟨rfl, E2⟩; have hs2 := E2.size; refine Wo rfl (opv_assign (v := .int _ _) rfl) ?_; refine Wo_nil ?_; refine W_ret ?_; exact ⟨rfl, (E1.trans E2)⟩; contradiction
  | S f ih =>
    intro h60 w
    have hs := hok _ h60
    have hn : ((Fm.enc (.S f)).getD 0 0).toNat = 83 := rfl
    have hl : (Fm.enc (.S f)).length = f.enc.length + 1 := rfl
    have hd := f.deep_lt
    have i1 : ∀ w, Does Try.prog 17 [str ((Fm.enc (.S f)).drop 1)] w (Ret w (.int .i64 (f.deep : Int))) := ih (by omega)
    refine fn_of_W1 Try.func17 rfl Try.results17 Try.ntmps17 rfl ?_
    focus
      refine W_seq ?_; refine W_region rfl ?_; refine Wo rfl (opv_assign (v := .int _ _) rfl) ?_; refine Wo_nil ?_; refine W_seq ?_; refine W_seq ?_; refine W_region rfl ?_; refine Wo rfl (opv_move (v := .string _) rfl) ?_
      refine Wo_call rfl (opc1 (a := .string _) Try.call15 rfl) (hs _) ?_; rintro _ w1 ⟨rfl, E1⟩; have hs1 := E1.size; refine Wo rfl (opv_not rfl) ?_; refine Wo_nil ?_; refine W_cond rfl (fun h1 => ?_) (fun h1 => ?_); contradiction
      refine W_skip ?_; refine W_seq ?_; refine W_seq ?_; refine W_region rfl ?_; refine Wo rfl (opv_move (v := .string _) rfl) ?_; refine Wo rfl (opv_index_str (k := 0) Try.underlying9 rfl rfl (by omega)) ?_; refine Wo_nil ?_
      refine W_block ?_; refine W_seq ?_; refine W_region rfl ?_; refine Wo rfl (opv_eql rfl rfl) ?_; refine Wo rfl (opv_assign (v := .bool _) rfl) ?_; refine Wo_nil ?_; refine W_cond_dec rfl (fun h2 => ?_) (fun h2 => ?_)
      (exfalso; omega); refine W_seq ?_; refine W_region rfl ?_; refine Wo rfl (opv_eql rfl rfl) ?_; refine Wo rfl (opv_assign (v := .bool _) rfl) ?_; refine Wo_nil ?_; refine W_cond_dec rfl (fun h3 => ?_) (fun h3 => ?_); (exfalso; omega)
      refine W_seq ?_; refine W_seq ?_; refine W_region rfl ?_; refine Wo rfl (opv_eql rfl rfl) ?_; refine Wo rfl (opv_assign (v := .bool _) rfl) ?_; refine Wo_nil ?_; refine W_cond_dec rfl (fun h4 => ?_) (fun h4 => ?_); refine W_skip ?_
      refine W_cond_dec rfl (fun h5 => ?_) (fun h5 => ?_); refine W_seq ?_; refine W_region rfl ?_; refine Wo rfl (opv_move (v := .string _) rfl) ?_; refine Wo rfl (opv_slice_str_lo (l := 1) Try.underlying9 rfl rfl (by omega)) ?_
      refine Wo_call rfl (opc1 (a := .string _) Try.call17 rfl) (i1 _) ?_; rintro _ w2 ⟨rfl, E2⟩; have hs2 := E2.size; refine Wo rfl (opv_add rfl rfl (by omega)) ?_; refine Wo rfl (opv_assign (v := .int _ _) rfl) ?_; refine Wo_nil ?_
      refine W_ret ?_; exact ⟨rfl, (E1.trans E2)⟩; contradiction; contradiction
  | A f ih =>
    intro h60 w
    have hs := hok _ h60
    have hn : ((Fm.enc (.A f)).getD 0 0).toNat = 65 := rfl
    have hl : (Fm.enc (.A f)).length = f.enc.length + 1 := rfl
    have hd := f.deep_lt
    have i1 : ∀ w, Does Try.prog 17 [str ((Fm.enc (.A f)).drop 1)] w (Ret w (.int .i64 (f.deep : Int))) := ih (by omega)
    refine fn_of_W1 Try.func17 rfl Try.results17 Try.ntmps17 rfl ?_
    focus
      refine W_seq ?_; refine W_region rfl ?_; refine Wo rfl (opv_assign (v := .int _ _) rfl) ?_; refine Wo_nil ?_; refine W_seq ?_; refine W_seq ?_; refine W_region rfl ?_; refine Wo rfl (opv_move (v := .string _) rfl) ?_
      refine Wo_call rfl (opc1 (a := .string _) Try.call15 rfl) (hs _) ?_; rintro _ w1 ⟨rfl, E1⟩; have hs1 := E1.size; refine Wo rfl (opv_not rfl) ?_; refine Wo_nil ?_; refine W_cond rfl (fun h1 => ?_) (fun h1 => ?_); contradiction
      refine W_skip ?_; refine W_seq ?_; refine W_seq ?_; refine W_region rfl ?_; refine Wo rfl (opv_move (v := .string _) rfl) ?_; refine Wo rfl (opv_index_str (k := 0) Try.underlying9 rfl rfl (by omega)) ?_; refine Wo_nil ?_
      refine W_block ?_; refine W_seq ?_; refine W_region rfl ?_; refine Wo rfl (opv_eql rfl rfl) ?_; refine Wo rfl (opv_assign (v := .bool _) rfl) ?_; refine Wo_nil ?_; refine W_cond_dec rfl (fun h2 => ?_) (fun h2 => ?_)
      (exfalso; omega); refine W_seq ?_; refine W_region rfl ?_; refine Wo rfl (opv_eql rfl rfl) ?_; refine Wo rfl (opv_assign (v := .bool _) rfl) ?_; refine Wo_nil ?_; refine W_cond_dec rfl (fun h3 => ?_) (fun h3 => ?_); (exfalso; omega)
      refine W_seq ?_; refine W_seq ?_; refine W_region rfl ?_; refine Wo rfl (opv_eql rfl rfl) ?_; refine Wo rfl (opv_assign (v := .bool _) rfl) ?_; refine Wo_nil ?_; refine W_cond_dec rfl (fun h4 => ?_) (fun h4 => ?_); (exfalso; omega)
      refine W_region rfl ?_; refine Wo rfl (opv_eql rfl rfl) ?_; refine Wo rfl (opv_assign (v := .bool _) rfl) ?_; refine Wo_nil ?_; refine W_cond_dec rfl (fun h5 => ?_) (fun h5 => ?_); refine W_seq ?_; refine W_region rfl ?_
      refine Wo rfl (opv_move (v := .string _) rfl) ?_; refine Wo rfl (opv_slice_str_lo (l := 1) Try.underlying9 rfl rfl (by omega)) ?_; refine Wo_call rfl (opc1 (a := .string _) Try.call17 rfl) (i1 _) ?_; rintro _ w2 ⟨rfl, E2⟩
      have hs2 := E2.size; refine Wo rfl (opv_add rfl rfl (by omega)) ?_; refine Wo rfl (opv_assign (v := .int _ _) rfl) ?_; refine Wo_nil ?_; refine W_ret ?_; exact ⟨rfl, (E1.trans E2)⟩; contradiction
  | and f g ih1 ih2 => exact bin f g 38 (.and f g) rfl (.inl rfl) rfl ih1 ih2
  | or f g ih1 ih2 => exact bin f g 124 (.or f g) rfl (.inr rfl) rfl ih1 ih2

theorem spec_FormulaDeep_ok (s : List UInt8) (w : World) (hl : s.length ≤ lim) : Does Try.prog 17 [str s] w (Ret w (.int .i64 (deepV s))) := by
  cases h : theF s with
  | none =>
    rw [deepV_none h]
    have hs : ∀ w, Does Try.prog 15 [str s] w (Ret w (.bool false)) := fun w => by
      have := spec_FormulaOk_ok s w hl
      rw [okF, h] at this
      exact this
    refine fn_of_W1 Try.func17 rfl Try.results17 Try.ntmps17 rfl ?_
    focus
      refine W_seq ?_; refine W_region rfl ?_; refine Wo rfl (opv_assign (v := .int _ _) rfl) ?_; refine Wo_nil ?_; refine W_seq ?_; refine W_seq ?_; refine W_region rfl ?_; refine Wo rfl (opv_move (v := .string _) rfl) ?_
      refine Wo_call rfl (opc1 (a := .string _) Try.call15 rfl) (hs _) ?_; rintro _ w1 ⟨rfl, E1⟩; have hs1 := E1.size; refine Wo rfl (opv_not rfl) ?_; refine Wo_nil ?_; refine W_cond rfl (fun h1 => ?_) (fun h1 => ?_); refine W_seq ?_
      refine W_region rfl ?_; refine Wo rfl (opv_assign (v := .int _ _) rfl) ?_; refine Wo_nil ?_; refine W_ret ?_; exact ⟨rfl, E1⟩; contradiction
  | some f =>
    rw [deepV_some h]
    obtain ⟨rfl, h60⟩ := theF_some.1 h
    exact spec_FormulaDeep_ok1 f h60 w
end Go.Proofs.Ytjdfnngmbaojjaa
