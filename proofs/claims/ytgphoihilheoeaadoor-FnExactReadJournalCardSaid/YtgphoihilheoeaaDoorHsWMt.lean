/- Walks: marks of texts and of deeds. -/
import Derived.Test.YtgphoihilheoeaaDoorHsWJr
import Derived.Test.YtgphoihilheoeaaDoorHsByt
namespace Go.Proofs.YtgphoihilheoeaaDoor
open Go.Hs
set_option maxRecDepth 10000
set_option maxHeartbeats 4000000
set_option linter.unusedVariables false
set_option linter.unusedSimpArgs false
def mDig (n : Nat) (o : List UInt8) : List UInt8 := if h : n = 0 then o else mDig (n / 10) (UInt8.ofNat (48 + n % 10) :: o)
termination_by n
decreasing_by omega
theorem mDig_zero (o : List UInt8) : mDig 0 o = o := by rw [mDig]; simp
theorem mDig_pos {n : Nat} (h : 0 < n) (o : List UInt8) : mDig n o = mDig (n / 10) (UInt8.ofNat (48 + n % 10) :: o) := by
  rw [mDig, dif_neg (by omega)]
/-- the text of a mark -/
def mtx (k : Int) : List UInt8 := if k ≤ 0 then [109, 48] else 109 :: mDig k.toNat []
theorem mDig_len : ∀ (n m : Nat) (o : List UInt8), n ≤ m → (mDig n o).length ≤ o.length + n := by
  intro n m
  induction m generalizing n with
  | zero => intro o h; obtain rfl : n = 0 := by omega
            rw [mDig_zero]; omega
  | succ m ih =>
    intro o h
    rcases Nat.eq_zero_or_pos n with rfl | hp
    · rw [mDig_zero]; omega
    · rw [mDig_pos hp]
      have := ih (n / 10) (UInt8.ofNat (48 + n % 10) :: o) (by omega)
      simp only [List.length_cons] at this; omega
theorem mtx_len {k : Int} (h : k ≤ 9223372036854) : (mtx k).length ≤ 9223372036855 := by
  unfold mtx
  split
  · simp
  · have := mDig_len k.toNat _ [] (Nat.le_refl _)
    simp only [List.length_nil, Nat.zero_add] at this
    simp only [List.length_cons]; omega
theorem rjV_many (s : List UInt8) : (rjV s).1.length ≤ s.length := by
  obtain ⟨h1, h2, h3⟩ := rjV_ok _ s (Nat.le_refl _)
  have e := congrArg List.length h3
  have key : ∀ (l : List Deed), l.length ≤ (l.flatMap fun a => dtV a ++ [10]).length := by
    intro l
    induction l with
    | nil => simp
    | cons a l ih => simp only [List.flatMap_cons, List.length_append, List.length_cons, List.length_nil]; omega
  have := key (rjV s).1
  rw [← e] at this
  simp at this; omega

theorem markText_ok (w : World) (k : Int) (hk : k ≤ 9223372036854) : Does Tryd.prog 49 [.int .i64 k] w (Ret w (str (mtx k))) := by
  by_cases h0 : k ≤ 0
  · refine fn_of_W1 Tryd.func49 rfl Tryd.results49 Tryd.ntmps49 rfl ?_
    focus
      refine W_seq ?_; refine W_region rfl ?_; refine Wo rfl (opv_assign (v := .string _) rfl) ?_; refine Wo_nil ?_; refine W_seq ?_; refine W_seq ?_; refine W_region rfl ?_; refine Wo rfl (opv_move (v := .int _ _) rfl) ?_
      refine Wo rfl (opv_leq rfl rfl) ?_; refine Wo_nil ?_; refine W_cond_dec rfl (fun h1 => ?_) (fun h1 => ?_); refine W_seq ?_; refine W_region rfl ?_; refine Wo rfl (opv_assign (v := .string _) rfl) ?_; refine Wo_nil ?_
      refine W_ret ?_; refine at_ret (v := .string _) rfl ?_; refine ⟨congrArg str ?_, (Ext.refl _)⟩; rotate_left; contradiction
    rw [mtx, if_pos (by assumption)]
  obtain ⟨K, rfl⟩ := Int.eq_ofNat_of_zero_le (show 0 ≤ k by omega)
  refine fn_of_W1 Tryd.func49 rfl Tryd.results49 Tryd.ntmps49 rfl ?_
  focus
    refine W_seq ?_; refine W_region rfl ?_; refine Wo rfl (opv_assign (v := .string _) rfl) ?_; refine Wo_nil ?_; refine W_seq ?_; refine W_seq ?_; refine W_region rfl ?_; refine Wo rfl (opv_move (v := .int _ _) rfl) ?_
    refine Wo rfl (opv_leq rfl rfl) ?_; refine Wo_nil ?_; refine W_cond_dec rfl (fun h1 => ?_) (fun h1 => ?_); contradiction; refine W_skip ?_; refine W_seq ?_; refine W_region rfl ?_; refine Wo rfl (opv_assign (v := .string _) rfl) ?_
    refine Wo_nil ?_; refine W_seq ?_; refine W_block ?_
  refine W_loop [0, 3, 6, 7, 8, 9, 10, 11, 12, 13, 14, 15, 16, 17] (fun ((n, o) : Nat × List UInt8) => [(0, .int .i64 (n : Nat)), (3, str o)]) (fun (n, o) w' => Ext w w' ∧ o.length + n ≤ K ∧ mDig n o = mDig K []) (fun x => x.1) (K, []) (by repeat (first | exact trivial | refine And.intro rfl ?_)) ?_ ?_
  · exact ⟨by first | assumption | exact Ext.refl _, by simp, rfl⟩
  rintro ⟨n, o⟩ ρj w2 ⟨E2, hlen, hm⟩
  by_cases hn : 0 < n
  · focus
      have szE2 := E2.size; refine W_seq ?_; refine W_seq ?_; refine W_region rfl ?_; refine Wo rfl (opv_move (v := .int _ _) rfl) ?_; refine Wo rfl (opv_gtr rfl rfl) ?_; refine Wo_nil ?_
      refine W_cond_dec rfl (fun h2 => ?_) (fun h2 => ?_); refine W_skip ?_; refine W_block ?_; refine W_seq ?_; refine W_region rfl ?_; refine Wo rfl (opv_move (v := .int _ _) rfl) ?_; refine Wo rfl (opv_rem rfl rfl (by omega)) ?_
      refine Wo rfl (opv_add rfl rfl (by omega)) ?_; refine Wo rfl (opv_conv_u8 Tryd.underlying3 Tryd.underlying5 rfl (by omega)) ?_
      refine Wo_buildSliceH (ps := [(0, .int _ _)]) (cs := [_]) rfl Tryd.underlying43 Tryd.sizeOf5 Tryd.zeroValue5 rfl rfl rfl rfl ?_; rintro b1 w1 hb1 E1 hB1 hHb1; have hlb1 := hB1.lt; have hs1 := E1.size
      refine Wo rfl (opv_conv_b1 Tryd.underlying43 Tryd.underlying5 Tryd.underlying9 rfl (by assumption)) ?_; refine Wo rfl (opv_move (v := .string _) rfl) ?_; refine Wo rfl (opv_add_str rfl rfl (by simp <;> omega)) ?_
      refine Wo rfl (opv_assign (v := .string _) rfl) ?_; refine Wo_nil ?_; refine W_region rfl ?_; refine Wo rfl (opv_move (v := .int _ _) rfl) ?_; refine Wo rfl (opv_quo rfl rfl (by omega)) ?_
      refine Wo rfl (opv_assign (v := .int _ _) rfl) ?_; refine Wo_nil ?_; rotate_left; (exfalso; omega)
    refine ⟨((n / 10, UInt8.ofNat (48 + n % 10) :: o)), by repeat (first | exact trivial | refine And.intro rfl ?_), by repeat (first | with_reducible exact Same.refl | refine Same.upd rfl ?_ | refine Same.upds rfl ?_ | refine Same.mix rfl ?_), ?_, ?_⟩
    · refine ⟨E2.trans (by assumption), by simp; omega, ?_⟩
      rw [← mDig_pos hn, hm]
    · simp only; omega
  · focus
      have szE2 := E2.size; refine W_seq ?_; refine W_seq ?_; refine W_region rfl ?_; refine Wo rfl (opv_move (v := .int _ _) rfl) ?_; refine Wo rfl (opv_gtr rfl rfl) ?_; refine Wo_nil ?_
      refine W_cond_dec rfl (fun h2 => ?_) (fun h2 => ?_); (exfalso; omega); refine W_exit ?_; refine exitX_same ?_; refine W_seq ?_; refine W_region rfl ?_; refine Wo rfl (opv_move (v := .string _) rfl) ?_
      refine Wo rfl (opv_add_str rfl rfl (by simp <;> omega)) ?_; refine Wo rfl (opv_assign (v := .string _) rfl) ?_; refine Wo_nil ?_; refine W_ret ?_; refine at_ret (v := .string _) rfl ?_; refine ⟨congrArg str ?_, E2⟩
    obtain rfl : n = 0 := by omega
    rw [mtx, if_neg h0, Int.toNat_natCast, ← hm, mDig_zero]
    rfl

/-- deeds, marked -/
def mkD (k0 : Int) (n : Nat) : List Deed := (List.range n).map fun (i : Nat) => ⟨k0 + 3 * (i : Int), mtx (k0 + 3 * (i : Int) + 1), k0 + 3 * (i : Int) + 1 + 1⟩
theorem mkD_len (k0 : Int) (n : Nat) : (mkD k0 n).length = n := by simp [mkD]
theorem mkD_at {k0 : Int} {n k : Nat} (h : k < (mkD k0 n).length) : (mkD k0 n)[k] = ⟨k0 + 3 * (k : Int), mtx (k0 + 3 * (k : Int) + 1), k0 + 3 * (k : Int) + 1 + 1⟩ := by simp [mkD]
theorem mkD_set {k0 : Int} {l : List Deed} {k : Nat} (h : k < l.length) : (mkD k0 k ++ l.drop k).set k ⟨k0 + 3 * (k : Int), mtx (k0 + 3 * (k : Int) + 1), k0 + 3 * (k : Int) + 1 + 1⟩ = mkD k0 (k + 1) ++ l.drop (k + 1) := by
  rw [List.set_append_right _ _ (by rw [mkD_len]; omega), mkD_len, Nat.sub_self, List.drop_eq_getElem_cons h, List.set_cons_zero]
  simp [mkD, List.range_succ]
theorem markDeedS_ok (w : World) {e : TypeId} {lo : Nat} (v : Value) (l : List Deed) (h : OD e lo w v l) (k0 : Int) (hk0 : 0 ≤ k0 ∧ k0 ≤ 1048576) (hn : l.length ≤ 1048576) :
    Does Tryd.prog 25 [v, .int .i64 k0] w (RetS lo w.heap.size w (Value.int .i64) (fun z w' => z = k0 + 3 * (l.length : Int) ∧ OD e lo w' v (mkD k0 l.length))) := by
  by_cases h0 : l = []
  · subst h0
    have hR := h.read
    refine fn_of_W1 Tryd.func25 rfl Tryd.results25 Tryd.ntmps25 rfl ?_
    focus
      refine W_seq ?_; refine W_region rfl ?_; refine Wo rfl (opv_assign (v := .int _ _) rfl) ?_; refine Wo_nil ?_; refine W_seq ?_; refine W_seq ?_; refine W_region rfl ?_; refine Wo rfl (opv_assign (v := .int _ _) rfl) ?_
      refine Wo_nil ?_; refine W_block ?_
    refine W_loop [1, 5, 6, 7, 8, 9, 10, 11, 12, 13, 14, 15, 16, 17, 18, 19, 20, 21, 22, 23, 24, 25, 26, 27, 28, 29, 30, 31, 32, 33] (fun (k : Nat) => [(5, .int .i64 (k : Nat)), (1, .int .i64 k0)]) (fun k w' => w' = w ∧ k = 0) (fun x => 0) 0 (by repeat (first | exact trivial | refine And.intro rfl ?_)) ?_ ?_
    · exact ⟨rfl, rfl⟩
    rintro k ρj w1 ⟨rfl, rfl⟩
    focus
      refine W_seq ?_; refine W_seq ?_; refine W_region rfl ?_; refine Wo rfl (opv_move (v := .int _ _) rfl) ?_; refine Wo rfl (opv_move (v := v) rfl) ?_; refine Wo rfl (opv_lenD Tryd.underlying36 rfl hR) ?_
      refine Wo rfl (opv_lss rfl rfl) ?_; refine Wo_nil ?_; refine W_cond_dec rfl (fun h1 => ?_) (fun h1 => ?_); contradiction; refine W_exit ?_; refine exitX_same ?_; refine W_seq ?_; refine W_region rfl ?_
      refine Wo rfl (opv_move (v := .int _ _) rfl) ?_; refine Wo rfl (opv_assign (v := .int _ _) rfl) ?_; refine Wo_nil ?_; refine W_ret ?_; refine at_ret (v := .int _ _) rfl ?_
    exact ⟨_, rfl, Span.refl, by simp, by simpa [mkD] using h⟩
  obtain ⟨b, c, rfl⟩ := h.lit (List.length_pos_iff.2 h0)
  have hb := h.lt (k := b) rfl
  refine fn_of_W1 Tryd.func25 rfl Tryd.results25 Tryd.ntmps25 rfl ?_
  focus
    refine W_seq ?_; refine W_region rfl ?_; refine Wo rfl (opv_assign (v := .int _ _) rfl) ?_; refine Wo_nil ?_; refine W_seq ?_; refine W_seq ?_; refine W_region rfl ?_; refine Wo rfl (opv_assign (v := .int _ _) rfl) ?_
    refine Wo_nil ?_; refine W_block ?_
  refine W_loop [1, 5, 6, 7, 8, 9, 10, 11, 12, 13, 14, 15, 16, 17, 18, 19, 20, 21, 22, 23, 24, 25, 26, 27, 28, 29, 30, 31, 32, 33] (fun ((k, m) : Nat × Int) => [(5, .int .i64 (k : Nat)), (1, .int .i64 (m : Int))]) (fun (k, m) w' => Span lo w.heap.size w w' ∧ k ≤ l.length ∧ m = k0 + 3 * (k : Int) ∧ OD e lo w' (.slice (some ⟨b, 0, none⟩) l.length c) (mkD k0 k ++ l.drop k)) (fun x => l.length - x.1) (0, k0) (by repeat (first | exact trivial | refine And.intro rfl ?_)) ?_ ?_
  · exact ⟨Span.refl, Nat.zero_le _, by simp, by simpa [mkD] using h⟩
  rintro ⟨k, m⟩ ρj w1 ⟨S1, hk, hm0, hO1⟩
  have hml : (mkD k0 k ++ l.drop k).length = l.length := by simp [mkD_len]; omega
  by_cases hkl : k < l.length
  · have kt : ∀ (w : World), Does Tryd.prog 49 [.int .i64 (m + 1)] w (Ret w (str (mtx (m + 1)))) := fun w => markText_ok w _ (by omega)
    have hmt := mtx_len (k := m + 1) (by omega)
    have hml2 := mkD_len k0 k
    focus
      refine W_seq ?_; refine W_seq ?_; refine W_region rfl ?_; refine Wo rfl (opv_move (v := .int _ _) rfl) ?_; refine Wo rfl (opv_move (v := .slice _ _ _) rfl) ?_; refine Wo rfl (opv_lenD Tryd.underlying36 rfl (OD.read hO1)) ?_
      refine Wo rfl (opv_lss rfl rfl) ?_; refine Wo_nil ?_; refine W_cond_dec rfl (fun h1 => ?_) (fun h1 => ?_); refine W_skip ?_; refine W_seq ?_; refine W_block ?_; refine W_seq ?_; refine W_region rfl ?_
      refine Wo rfl (opv_move (v := .slice _ _ _) rfl) ?_; refine Wo rfl (opv_move (v := .int _ _) rfl) ?_; refine Wo rfl (opv_move (v := .int _ _) rfl) ?_
      refine Wo rfl (opv_indexAddr3 Tryd.underlying36 Tryd.sizeOf26 rfl rfl (by omega)) ?_; refine Wo rfl (opv_fieldAddr Tryd.underlying26 rfl rfl Tryd.sizeOf3 rfl) ?_
      refine Wo_stD0 rfl Tryd.sizeOf3 rfl rfl hO1 (by first | omega | (simp <;> omega)) ?_; rintro w2 hO1 On1 K1 hz1; have hs1 := On1.size; refine Wo_nil ?_; refine W_seq ?_; refine W_region rfl ?_
      refine Wo rfl (opv_move (v := .int _ _) rfl) ?_; refine Wo rfl (opv_add rfl rfl (by omega)) ?_; refine Wo rfl (opv_assign (v := .int _ _) rfl) ?_; refine Wo_nil ?_; refine W_seq ?_; refine W_region rfl ?_
      refine Wo rfl (opv_move (v := .slice _ _ _) rfl) ?_; refine Wo rfl (opv_move (v := .int _ _) rfl) ?_; refine Wo rfl (opv_move (v := .int _ _) rfl) ?_; refine Wo_call rfl (opc1 (a := .int _ _) Tryd.call49 rfl) (kt _) ?_
      rintro _ w3 ⟨rfl, E1⟩; have hs2 := E1.size; refine Wo rfl (opv_indexAddr3 Tryd.underlying36 Tryd.sizeOf26 rfl rfl (by omega)) ?_; refine Wo rfl (opv_fieldAddr Tryd.underlying26 rfl rfl Tryd.sizeOf9 rfl) ?_
      refine Wo_stD1 rfl Tryd.sizeOf9 rfl rfl (hO1.ext E1) (by first | omega | (simp <;> omega)) (by first | omega | (simp <;> omega)) ?_; rintro w4 hO1 On2 K2 hz2; have hs3 := On2.size; refine Wo_nil ?_; refine W_seq ?_
      refine W_region rfl ?_; refine Wo rfl (opv_move (v := .int _ _) rfl) ?_; refine Wo rfl (opv_add rfl rfl (by omega)) ?_; refine Wo rfl (opv_assign (v := .int _ _) rfl) ?_; refine Wo_nil ?_; refine W_seq ?_; refine W_region rfl ?_
      refine Wo rfl (opv_move (v := .slice _ _ _) rfl) ?_; refine Wo rfl (opv_move (v := .int _ _) rfl) ?_; refine Wo rfl (opv_move (v := .int _ _) rfl) ?_
      refine Wo rfl (opv_indexAddr3 Tryd.underlying36 Tryd.sizeOf26 rfl rfl (by omega)) ?_; refine Wo rfl (opv_fieldAddr Tryd.underlying26 rfl rfl Tryd.sizeOf3 rfl) ?_
      refine Wo_stD2 rfl Tryd.sizeOf3 rfl rfl hO1 (by first | omega | (simp <;> omega)) ?_; rintro w5 hO1 On3 K3 hz3; have hs4 := On3.size; refine Wo_nil ?_; refine W_region rfl ?_; refine Wo rfl (opv_move (v := .int _ _) rfl) ?_
      refine Wo rfl (opv_add rfl rfl (by omega)) ?_; refine Wo rfl (opv_assign (v := .int _ _) rfl) ?_; refine Wo_nil ?_; refine W_region rfl ?_; refine Wo rfl (opv_move (v := .int _ _) rfl) ?_
      refine Wo rfl (opv_add rfl rfl (by omega)) ?_; refine Wo rfl (opv_assign (v := .int _ _) rfl) ?_; refine Wo_nil ?_; rotate_left; (exfalso; omega)
    refine ⟨((k + 1, m + 1 + 1 + 1)), by repeat (first | exact trivial | refine And.intro rfl ?_), by repeat (first | with_reducible exact Same.refl | refine Same.upd rfl ?_ | refine Same.upds rfl ?_ | refine Same.mix rfl ?_), ?_, ?_⟩
    · simp only [List.set_set, List.getElem_set_self] at hO1
      refine ⟨S1.trans ((Span.only1 On1 hb.1 hb.2).trans (E1.toSpan.trans ((Span.only1 On2 hb.1 hb.2).trans (Span.only1 On3 hb.1 hb.2)))), by omega, by omega, ?_⟩
      rw [← mkD_set hkl, ← hm0]
      exact hO1
    · simp only; omega
  · focus
      refine W_seq ?_; refine W_seq ?_; refine W_region rfl ?_; refine Wo rfl (opv_move (v := .int _ _) rfl) ?_; refine Wo rfl (opv_move (v := .slice _ _ _) rfl) ?_; refine Wo rfl (opv_lenD Tryd.underlying36 rfl (OD.read hO1)) ?_
      refine Wo rfl (opv_lss rfl rfl) ?_; refine Wo_nil ?_; refine W_cond_dec rfl (fun h1 => ?_) (fun h1 => ?_); (exfalso; omega); refine W_exit ?_; refine exitX_same ?_; refine W_seq ?_; refine W_region rfl ?_
      refine Wo rfl (opv_move (v := .int _ _) rfl) ?_; refine Wo rfl (opv_assign (v := .int _ _) rfl) ?_; refine Wo_nil ?_; refine W_ret ?_; refine at_ret (v := .int _ _) rfl ?_
    obtain rfl : k = l.length := by omega
    exact ⟨_, rfl, S1, hm0, by simpa using hO1⟩

theorem heldDeedS_ok (w : World) (v : Value) (k0 : Int) (hk0 : 0 ≤ k0 ∧ k0 ≤ 1048576) (n : Nat) (hn : n ≤ 1048576) (h : ESD w v (mkD k0 n)) :
    Does Tryd.prog 26 [v, .int .i64 k0] w (Ret w (.int .i64 (k0 + 3 * (n : Int)))) := by
  obtain ⟨a, c, rfl, hle, hh⟩ := id h
  refine fn_of_W1 Tryd.func26 rfl Tryd.results26 Tryd.ntmps26 rfl ?_
  have hml := mkD_len k0 n
  focus
    refine W_seq ?_; refine W_region rfl ?_; refine Wo rfl (opv_assign (v := .int _ _) rfl) ?_; refine Wo_nil ?_; refine W_seq ?_; refine W_seq ?_; refine W_region rfl ?_; refine Wo rfl (opv_assign (v := .int _ _) rfl) ?_
    refine Wo_nil ?_; refine W_block ?_
  refine W_loop [1, 4, 5, 6, 7, 8, 9, 10, 11, 12, 13, 14, 15, 16, 17, 18, 19, 20, 21, 22, 23, 24, 25, 26, 27, 28, 29, 30, 31, 32, 33, 34, 35, 36, 37, 38, 39] (fun ((k, m) : Nat × Int) => [(5, .int .i64 (k : Nat)), (1, .int .i64 (m : Int))]) (fun (k, m) w' => Ext w w' ∧ k ≤ n ∧ m = k0 + 3 * (k : Int)) (fun x => n - x.1) (0, k0) (by repeat (first | exact trivial | refine And.intro rfl ?_)) ?_ ?_
  · exact ⟨Ext.refl _, Nat.zero_le _, by simp⟩
  rintro ⟨k, m⟩ ρj w1 ⟨E1, hk, hm0⟩
  by_cases hkl : k < n
  · have kt : ∀ (w : World), Does Tryd.prog 49 [.int .i64 (m + 1)] w (Ret w (str (mtx (m + 1)))) := fun w => markText_ok w _ (by omega)
    rcases hh with hh | ⟨b, o, rfl, hh⟩
    · rw [hh] at hml; simp at hml; omega
    obtain ⟨c0, c1, c2, _⟩ := hh k (by omega)
    rw [mkD_at] at c0 c1 c2
    rw [← hm0] at c0 c1 c2
    have c0' : w.cell? ⟨b, o + k * 3 + 0, none⟩ = some (.int .i64 m) := c0
    focus
      have szE1 := E1.size; refine W_seq ?_; refine W_seq ?_; refine W_region rfl ?_; refine Wo rfl (opv_move (v := .int _ _) rfl) ?_; refine Wo rfl (opv_move (v := .slice _ _ _) rfl) ?_
      refine Wo rfl (opv_lenD Tryd.underlying36 rfl h) ?_; refine Wo rfl (opv_lss rfl rfl) ?_; refine Wo_nil ?_; refine W_cond_dec rfl (fun h1 => ?_) (fun h1 => ?_); refine W_skip ?_; refine W_seq ?_; refine W_block ?_; refine W_seq ?_
      refine W_seq ?_; refine W_region rfl ?_; refine Wo rfl (opv_move (v := .slice _ _ _) rfl) ?_; refine Wo rfl (opv_move (v := .int _ _) rfl) ?_; refine Wo rfl (opv_indexAddr3 Tryd.underlying36 Tryd.sizeOf26 rfl rfl (by omega)) ?_
      refine Wo rfl (opv_fieldAddr Tryd.underlying26 rfl rfl Tryd.sizeOf3 rfl) ?_; refine Wo rfl (opv_load Tryd.isAgg3 rfl (E1.cell c0)) ?_; refine Wo rfl (opv_move (v := .int _ _) rfl) ?_; refine Wo rfl (opv_neq rfl rfl) ?_
      refine Wo_nil ?_; refine W_cond_ndec rfl (fun h2 => ?_) (fun h2 => ?_); contradiction; refine W_skip ?_; refine W_seq ?_; refine W_region rfl ?_; refine Wo rfl (opv_move (v := .int _ _) rfl) ?_
      refine Wo rfl (opv_add rfl rfl (by omega)) ?_; refine Wo rfl (opv_assign (v := .int _ _) rfl) ?_; refine Wo_nil ?_; refine W_seq ?_; refine W_seq ?_; refine W_draw mixed (by kernel_rfl) rfl ?_
      refine Wq_o rfl (fun _ _ => opv_move (v := .slice _ _ _) rfl) ?_; refine Wq_o rfl (fun _ _ => opv_move (v := .int _ _) rfl) ?_; refine Wq_o rfl (fun _ _ => opv_indexAddr3 Tryd.underlying36 Tryd.sizeOf26 rfl rfl (by omega)) ?_
      refine Wq_o rfl (fun _ _ => opv_fieldAddr Tryd.underlying26 rfl rfl Tryd.sizeOf9 rfl) ?_; refine Wq_o rfl (fun _ _ => opv_load Tryd.isAgg9 rfl ((Ext.trans E1 (by assumption)).cell c1)) ?_
      refine Wq_o rfl (fun _ _ => opv_move (v := .int _ _) rfl) ?_; refine Wq_call rfl (fun _ _ => opc1 (a := .int _ _) Tryd.call49 rfl) (fun w' hw' => (kt _)) ?_; refine Wq_o rfl (fun _ _ => opv_neq_str rfl rfl) ?_
      refine Wq_nil (fun w2 E2 => ?_); have hs1 := E2.size; refine W_cond_ndec rfl (fun h3 => ?_) (fun h3 => ?_); contradiction; refine W_skip ?_; refine W_seq ?_; refine W_region rfl ?_; refine Wo rfl (opv_move (v := .int _ _) rfl) ?_
      refine Wo rfl (opv_add rfl rfl (by omega)) ?_; refine Wo rfl (opv_assign (v := .int _ _) rfl) ?_; refine Wo_nil ?_; refine W_seq ?_; refine W_seq ?_; refine W_region rfl ?_; refine Wo rfl (opv_move (v := .slice _ _ _) rfl) ?_
      refine Wo rfl (opv_move (v := .int _ _) rfl) ?_; refine Wo rfl (opv_indexAddr3 Tryd.underlying36 Tryd.sizeOf26 rfl rfl (by omega)) ?_; refine Wo rfl (opv_fieldAddr Tryd.underlying26 rfl rfl Tryd.sizeOf3 rfl) ?_
      refine Wo rfl (opv_load Tryd.isAgg3 rfl ((E1.trans E2).cell c2)) ?_; refine Wo rfl (opv_move (v := .int _ _) rfl) ?_; refine Wo rfl (opv_neq rfl rfl) ?_; refine Wo_nil ?_; refine W_cond_ndec rfl (fun h4 => ?_) (fun h4 => ?_)
      contradiction; refine W_skip ?_; refine W_region rfl ?_; refine Wo rfl (opv_move (v := .int _ _) rfl) ?_; refine Wo rfl (opv_add rfl rfl (by omega)) ?_; refine Wo rfl (opv_assign (v := .int _ _) rfl) ?_; refine Wo_nil ?_
      refine W_region rfl ?_; refine Wo rfl (opv_move (v := .int _ _) rfl) ?_; refine Wo rfl (opv_add rfl rfl (by omega)) ?_; refine Wo rfl (opv_assign (v := .int _ _) rfl) ?_; refine Wo_nil ?_; rotate_left; (exfalso; omega)
    refine ⟨((k + 1, m + 1 + 1 + 1)), by repeat (first | exact trivial | refine And.intro rfl ?_), by repeat (first | with_reducible exact Same.refl | refine Same.upd rfl ?_ | refine Same.upds rfl ?_ | refine Same.mix rfl ?_), ?_, ?_⟩
    · exact ⟨E1.trans (by assumption), by omega, by omega⟩
    · simp only; omega
  · focus
      have szE1 := E1.size; refine W_seq ?_; refine W_seq ?_; refine W_region rfl ?_; refine Wo rfl (opv_move (v := .int _ _) rfl) ?_; refine Wo rfl (opv_move (v := .slice _ _ _) rfl) ?_
      refine Wo rfl (opv_lenD Tryd.underlying36 rfl h) ?_; refine Wo rfl (opv_lss rfl rfl) ?_; refine Wo_nil ?_; refine W_cond_dec rfl (fun h1 => ?_) (fun h1 => ?_); (exfalso; omega); refine W_exit ?_; refine exitX_same ?_
      refine W_seq ?_; refine W_region rfl ?_; refine Wo rfl (opv_move (v := .int _ _) rfl) ?_; refine Wo rfl (opv_assign (v := .int _ _) rfl) ?_; refine Wo_nil ?_; refine W_ret ?_; refine at_ret (v := .int _ _) rfl ?_
      refine ⟨congrArg (Value.int .i64) ?_, E1⟩
    omega

theorem FnExactReadJournal_walk (w : World) (hM : EMx gMx w (.bool true) ()) (s : List UInt8) (hs : s.length ≤ 9223372036854775807) :
    Does Tryd.prog 6 [str s] w (Ret w (.bool true)) := by
  by_cases hsl : 1048576 < s.length
  · refine fn_of_W1 Tryd.func6 rfl Tryd.results6 Tryd.ntmps6 rfl ?_
    focus
      refine W_seq ?_; refine W_region rfl ?_; refine Wo rfl (opv_assign (v := .bool _) rfl) ?_; refine Wo_nil ?_; refine W_seq ?_; refine W_seq ?_; refine W_region rfl ?_; refine Wo rfl (opv_move (v := .string _) rfl) ?_
      refine Wo rfl (opv_len_str Tryd.underlying9 rfl) ?_; refine Wo rfl (opv_gtr rfl rfl) ?_; refine Wo_nil ?_; refine W_cond_dec rfl (fun h1 => ?_) (fun h1 => ?_); refine W_seq ?_; refine W_region rfl ?_
      refine Wo rfl (opv_assign (v := .bool _) rfl) ?_; refine Wo_nil ?_; refine W_ret ?_; exact ⟨rfl, (Ext.refl _)⟩; (exfalso; omega)
  have hs' : s.length ≤ 1048576 := by omega
  obtain ⟨L, hL⟩ : ∃ L, L = (rjV s).1 := ⟨_, rfl⟩
  obtain ⟨N, hN⟩ : ∃ N, N = (rjV s).2 := ⟨_, rfl⟩
  have hLl : L.length ≤ 1048576 := by rw [hL]; have := rjV_many s; omega
  have k1 : ∀ (w : World), Does Tryd.prog 23 [str s] w (RetODZ w 26 L (N : Nat)) := fun w => by rw [hL, hN]; exact spec_ReadJournal_ok w s hs'
  have k2 : ∀ (w : World), EMx gMx w (.bool true) () → Does Tryd.prog 24 [str s] w (RetODZ w 26 L (N : Nat)) := fun w hM => by rw [hL, hN]; exact impl_ReadJournal_ok w s hM hs'
  clear hL hN
  have k3 : ∀ (w : World) (v u : Value), ESD w v L → ESD w u L → Does Tryd.prog 22 [v, u] w (Ret w (.bool true)) := fun w v u h h' => by
    have := eqDeedS_ok w v u _ _ h h'
    rwa [decide_eq_true rfl] at this
  refine fn_of_W1 Tryd.func6 rfl Tryd.results6 Tryd.ntmps6 rfl ?_
  have stop8 : True := trivial
  focus
    refine W_seq ?_; refine W_region rfl ?_; refine Wo rfl (opv_assign (v := .bool _) rfl) ?_; refine Wo_nil ?_; refine W_seq ?_; refine W_seq ?_; refine W_region rfl ?_; refine Wo rfl (opv_move (v := .string _) rfl) ?_
    refine Wo rfl (opv_len_str Tryd.underlying9 rfl) ?_; refine Wo rfl (opv_gtr rfl rfl) ?_; refine Wo_nil ?_; refine W_cond_dec rfl (fun h1 => ?_) (fun h1 => ?_); (exfalso; omega); refine W_skip ?_; refine W_seq ?_
    refine W_region rfl ?_; refine Wo rfl (opv_move (v := .string _) rfl) ?_; refine Wo_call rfl (opc1 (a := .string _) Tryd.call23 rfl) (k1 _) ?_; rintro _ w1 ⟨u1, rfl, E1, hO1⟩; have hs1 := E1.size
    refine Wo rfl (opv_move (v := .tuple _) rfl) ?_; refine Wo rfl (opv_extract (v := u1) rfl rfl) ?_; refine Wo rfl (opv_extract (v := .int _ _) rfl rfl) ?_; refine Wo rfl (opv_assign (v := u1) rfl) ?_
    refine Wo rfl (opv_assign (v := .int _ _) rfl) ?_; refine Wo_nil ?_; refine W_seq ?_; refine W_region rfl ?_; refine Wo rfl (opv_move (v := .string _) rfl) ?_
    refine Wo_call rfl (opc1 (a := .string _) Tryd.call24 rfl) (k2 _ ((Mono.mono E1 hM))) ?_; rintro _ w2 ⟨u2, rfl, E2, hO2⟩; have hs2 := E2.size; refine Wo rfl (opv_move (v := .tuple _) rfl) ?_
    refine Wo rfl (opv_extract (v := u2) rfl rfl) ?_; refine Wo rfl (opv_extract (v := .int _ _) rfl rfl) ?_; refine Wo rfl (opv_assign (v := u2) rfl) ?_; refine Wo rfl (opv_assign (v := .int _ _) rfl) ?_; refine Wo_nil ?_
    refine W_seq ?_; refine W_seq ?_; refine W_region rfl ?_; refine Wo rfl (opv_move (v := u2) rfl) ?_; refine Wo rfl (opv_move (v := u1) rfl) ?_
    refine Wo_call rfl (opc2 (a := u2) (b := u1) Tryd.call22 rfl rfl) (k3 _ _ _ ((OD.read hO2)) ((Mono.mono E2 (OD.read hO1)))) ?_; rintro _ w3 ⟨rfl, E3⟩; have hs3 := E3.size; refine Wo rfl (opv_not rfl) ?_
    refine Wo_split rfl (opv_move (v := .bool _) rfl) (fun h2 => ?_) (fun h2 => ?_); contradiction; refine Wo rfl (opv_move (v := .int _ _) rfl) ?_; refine Wo rfl (opv_move (v := .int _ _) rfl) ?_; refine Wo rfl (opv_neq rfl rfl) ?_
    refine Wo rfl (opv_pick_f (v := .bool _) rfl rfl) ?_; refine Wo_nil ?_; refine W_cond_ndec rfl (fun h3 => ?_) (fun h3 => ?_); contradiction; refine W_skip ?_; refine W_seq ?_; refine W_region rfl ?_
    refine Wo rfl (opv_assign (v := .int _ _) rfl) ?_; refine Wo_nil ?_; refine W_seq ?_
  clear stop8
  have stop9 : True := trivial
  have k4 : ∀ (w : World), OD 26 w1.heap.size w u2 L → Does Tryd.prog 25 [u2, .int .i64 1] w (RetS w1.heap.size w.heap.size w (Value.int .i64) (fun z w' => z = 1 + 3 * (L.length : Int) ∧ OD 26 w1.heap.size w' u2 (mkD 1 L.length))) := fun w h => markDeedS_ok w u2 L h 1 (by decide) hLl
  focus
    have szE3 := E3.size; have szE2 := E2.size; have szE1 := E1.size; refine W_region rfl ?_; refine Wo rfl (opv_move (v := u2) rfl) ?_; refine Wo rfl (opv_move (v := .int _ _) rfl) ?_
    refine Wo_call rfl (opc2 (a := u2) (b := .int _ _) Tryd.call25 rfl rfl) (k4 _ ((Mono.mono E3 hO2))) ?_; rintro _ w4 ⟨y1, rfl, E4, hy1⟩; have hO1 := OD.span hO1 (E2.trans E3) E4 (by omega)
    have E5 := ((E1.trans E2).trans E3).span E4 (by omega); have E6 := ((E2.trans E3)).span E4 (by omega); have szE6 := E6.size; have hs4 := E4.size; refine Wo rfl (opv_assign (v := .int _ _) rfl) ?_; refine Wo_nil ?_; refine W_seq ?_
  clear stop9
  obtain ⟨rfl, hO3⟩ := hy1
  clear hO2
  have k5 : ∀ (w : World), ESD w u2 (mkD 1 L.length) → Does Tryd.prog 26 [u2, .int .i64 1] w (Ret w (.int .i64 (1 + 3 * (L.length : Int)))) := fun w h => heldDeedS_ok w u2 1 (by decide) _ hLl h
  focus
    have szE6 := E6.size; have szE5 := E5.size; have szE3 := E3.size; have szE2 := E2.size; have szE1 := E1.size; refine W_region rfl ?_; refine Wo rfl (opv_assign (v := .int _ _) rfl) ?_; refine Wo_nil ?_; refine W_seq ?_
    refine W_region rfl ?_; refine Wo rfl (opv_move (v := u2) rfl) ?_; refine Wo rfl (opv_move (v := .int _ _) rfl) ?_; refine Wo_call rfl (opc2 (a := u2) (b := .int _ _) Tryd.call26 rfl rfl) (k5 _ ((OD.read hO3))) ?_
    rintro _ w5 ⟨rfl, E7⟩; have hs5 := E7.size; refine Wo rfl (opv_assign (v := .int _ _) rfl) ?_; refine Wo_nil ?_; refine W_seq ?_; refine W_seq ?_; refine W_region rfl ?_; refine Wo rfl (opv_move (v := .int _ _) rfl) ?_
    refine Wo rfl (opv_lss rfl rfl) ?_; refine Wo_nil ?_; refine W_cond_dec rfl (fun h4 => ?_) (fun h4 => ?_); contradiction; refine W_skip ?_; refine W_seq ?_; refine W_seq ?_; refine W_region rfl ?_
    refine Wo rfl (opv_move (v := .int _ _) rfl) ?_; refine Wo rfl (opv_move (v := .int _ _) rfl) ?_; refine Wo rfl (opv_neq rfl rfl) ?_; refine Wo_nil ?_; refine W_cond_ndec rfl (fun h5 => ?_) (fun h5 => ?_); contradiction
    refine W_skip ?_; refine W_seq ?_; refine W_region rfl ?_; refine Wo rfl (opv_move (v := .string _) rfl) ?_; refine Wo_call rfl (opc1 (a := .string _) Tryd.call24 rfl) (k2 _ ((Mono.mono (E5.trans E7) hM))) ?_
    rintro _ w6 ⟨u3, rfl, E8, hO2⟩; have hs6 := E8.size; refine Wo rfl (opv_move (v := .tuple _) rfl) ?_; refine Wo rfl (opv_extract (v := u3) rfl rfl) ?_; refine Wo rfl (opv_extract (v := .int _ _) rfl rfl) ?_
    refine Wo rfl (opv_assign (v := u3) rfl) ?_; refine Wo rfl (opv_assign (v := .int _ _) rfl) ?_; refine Wo_nil ?_; refine W_seq ?_; refine W_seq ?_; refine W_region rfl ?_; refine Wo rfl (opv_move (v := u3) rfl) ?_
    refine Wo rfl (opv_move (v := u1) rfl) ?_; refine Wo_call rfl (opc2 (a := u3) (b := u1) Tryd.call22 rfl rfl) (k3 _ _ _ ((OD.read hO2)) ((Mono.mono (E7.trans E8) (OD.read hO1)))) ?_; rintro _ w7 ⟨rfl, E9⟩; have hs7 := E9.size
    refine Wo rfl (opv_not rfl) ?_; refine Wo_split rfl (opv_move (v := .bool _) rfl) (fun h6 => ?_) (fun h6 => ?_); contradiction; refine Wo rfl (opv_move (v := .int _ _) rfl) ?_; refine Wo rfl (opv_move (v := .int _ _) rfl) ?_
    refine Wo rfl (opv_neq rfl rfl) ?_; refine Wo rfl (opv_pick_f (v := .bool _) rfl rfl) ?_; refine Wo_nil ?_; refine W_cond_ndec rfl (fun h7 => ?_) (fun h7 => ?_); contradiction; refine W_skip ?_; refine W_seq ?_
    refine W_region rfl ?_; refine Wo rfl (opv_assign (v := .int _ _) rfl) ?_; refine Wo_nil ?_; refine W_seq ?_; refine W_region rfl ?_; refine Wo rfl (opv_move (v := u2) rfl) ?_; refine Wo rfl (opv_move (v := .int _ _) rfl) ?_
    refine Wo_call rfl (opc2 (a := u2) (b := .int _ _) Tryd.call26 rfl rfl) (k5 _ ((Mono.mono ((E7.trans E8).trans E9) (OD.read hO3)))) ?_; rintro _ w8 ⟨rfl, E10⟩; have hs8 := E10.size; refine Wo rfl (opv_assign (v := .int _ _) rfl) ?_
    refine Wo_nil ?_; refine W_seq ?_; refine W_seq ?_; refine W_region rfl ?_; refine Wo rfl (opv_move (v := .int _ _) rfl) ?_; refine Wo rfl (opv_lss rfl rfl) ?_; refine Wo_nil ?_; refine W_cond_dec rfl (fun h8 => ?_) (fun h8 => ?_)
    contradiction; refine W_skip ?_; refine W_seq ?_; refine W_seq ?_; refine W_region rfl ?_; refine Wo rfl (opv_move (v := .int _ _) rfl) ?_; refine Wo rfl (opv_move (v := .int _ _) rfl) ?_; refine Wo rfl (opv_neq rfl rfl) ?_
    refine Wo_nil ?_; refine W_cond_ndec rfl (fun h9 => ?_) (fun h9 => ?_); contradiction; refine W_skip ?_; refine W_seq ?_; refine W_region rfl ?_; refine Wo rfl (opv_assign (v := .bool _) rfl) ?_; refine Wo_nil ?_; refine W_ret ?_
    exact ⟨rfl, ((((E5.trans E7).trans E8).trans E9).trans E10)⟩

end Go.Proofs.YtgphoihilheoeaaDoor
