/- Walks: the shortest way to tell a stream, the clever side. -/
import Derived.Test.YtlalfmialbolhaaHsWStrS
import Derived.Test.YtlalfmialbolhaaHsSub
import Derived.Test.YtlalfmialbolhaaHsLit
namespace Go.Proofs.Ytlalfmialbolhaa
open Go.Hs
set_option maxRecDepth 10000
set_option maxHeartbeats 4000000
set_option linter.unusedVariables false
set_option linter.unusedSimpArgs false
theorem gen_sh {A B : List Int} (hB : 1 ≤ B.length) : IsSh (bat A B) (shA (bat A B)) (shP (bat A B)) ∧ shA (bat A B) ≤ A.length ∧ shP (bat A B) ≤ B.length ∧ 1 ≤ shP (bat A B) := by
  have hper := per_bat (A := A) hB
  obtain ⟨a, p, hs⟩ := IsSh.ex hper
  obtain ⟨e1, e2⟩ := hs.eq
  rw [e1, e2]
  have := hs.2 _ _ hper
  exact ⟨hs, this.1, this.2, hs.1.1⟩
theorem win_drop {f : Nat → Int} {a p k : Nat} (h : k ≤ p) : (win f a p).drop k = win f (a + k) (p - k) := by
  refine List.ext_getElem (by rw [List.length_drop, win_len, win_len]) fun i h1 h2 => ?_
  rw [win_len] at h2
  rw [List.getElem_drop, win_at (by omega), win_at h2]
  congr 1; omega
theorem win_get {f : Nat → Int} {a p k i : Nat} (h : i < (win f a p).length) (e : i = k) : (win f a p)[i] = f (a + k) := by
  subst e
  rw [win_len] at h
  exact win_at h

theorem shortOf_ok (w : World) (u1 u2 : Value) (A B : List Int) (h1 : Ints w u1 A) (h2 : Ints w u2 B) (hA : A.length ≤ 100) (hB1 : 1 ≤ B.length) (hB : B.length ≤ 100) : Does Try.prog 55 [.agg #[u1, u2]] w (RetS2 w 3 (shL (bat A B)) (shR (bat A B))) := by
  have hle1 := h1.le
  have hle2 := h2.le
  obtain ⟨hsh, hs1, hs2, hs3⟩ := gen_sh (A := A) hB1
  have hwA := win_bat0 (A := A) (B := B)
  have hwB := win_bat (A := A) hB1
  have hper := per_bat (A := A) hB1
  obtain ⟨f, hf⟩ : ∃ f, f = bat A B := ⟨_, rfl⟩
  rw [← hf] at hsh hs1 hs2 hs3 hwA hwB hper ⊢
  obtain ⟨a0, ha0⟩ : ∃ a, a = shA f := ⟨_, rfl⟩
  obtain ⟨p0, hp0⟩ : ∃ p, p = shP f := ⟨_, rfl⟩
  have eL : shL f = win f 0 a0 := by rw [ha0]; rfl
  have eR : shR f = win f a0 p0 := by rw [ha0, hp0]; rfl
  rw [← ha0, ← hp0] at hsh
  rw [← ha0] at hs1
  rw [← hp0] at hs2 hs3
  rw [eL, eR]
  clear eL eR ha0 hp0
  refine fn_of_Wc Try.func55 rfl Try.results55 Try.ntmps55 rfl Try.isAgg25 Try.sizeOf25 ?_
  focus
    refine W_seq ?_; refine W_region rfl ?_; refine Wo_box rfl rfl rfl ?_; rintro b1 w1 hb1 E1 hB2; have hlb1 := hB2.lt; have hs4 := E1.size; refine Wo_alloc2 rfl flat25 ?_; rintro b2 w2 hb2 E2 hB3; have hlb2 := hB3.lt
    have hs5 := E2.size; refine Wo_nil ?_; refine W_seq ?_; refine W_region rfl ?_; refine Wo_lit0 XInt rfl el23 Try.sizeOf3 ?_; rintro b3 w3 hb3 b3lt E3 hO1; have hs6 := E3.size
    refine Wo rfl (opv_fieldAddr Try.underlying25 rfl rfl Try.sizeOf23 rfl) ?_; refine Wo (v := u2) rfl (opv_load Try.isAgg23 rfl ((hB2.ext (E2.trans E3)).cell rfl)) ?_
    refine Wo_appS rfl el23 rfl rfl (Mono.mono ((E1.trans E2).trans E3) h2) hO1.toB (by first | omega | (simp <;> omega)) (by omega) (by omega) ((E1.trans E2).trans E3) (by omega) ?_; have hT1 := hO1.toB; rintro v1 w4 hO1 E4 M1
    have E5 := M1.ext hT1 (E2.trans E3) (by omega); have szE5 := E5.size; have E6 := M1.ext hT1 E3 (by omega); have szE6 := E6.size; have hB2 := (hB2.ext (E2.trans E3)).moves M1 hT1 (by omega)
    have hB3 := (hB3.ext E3).moves M1 hT1 (by omega); have hs7 := E4.size; refine Wo rfl (opv_assign (v := v1) rfl) ?_; refine Wo_nil ?_; refine W_seq ?_; refine W_seq ?_; refine W_region rfl ?_
    refine Wo rfl (opv_assign (v := .int _ _) rfl) ?_; refine Wo_nil ?_; refine W_block ?_
  clear M1 hT1
  rw [List.nil_append] at hO1
  obtain ⟨ab, ac, rfl, hac⟩ := hO1.lit (by omega)
  have hab := hO1.lt_own (k := ab) rfl
  refine W_loop [3, 4, 11, 12, 13, 14, 15, 16, 17, 18, 19, 20, 21, 22, 23, 24, 25, 26, 27, 28, 29, 30, 31, 32, 33, 34, 35, 36] (fun (n, L) => [(4, .int .i64 (n : Nat)), (3, .slice (some ⟨ab, 0, none⟩) L ac)]) (fun (n, (L : Nat)) w' => Ext w4 w' ∧ 1 ≤ n ∧ (L = B.length ∧ n ≤ p0 ∨ L = p0 ∧ n = p0 + 1)) (fun x => p0 + 1 - x.1) (1, B.length) (by repeat (first | exact trivial | refine And.intro rfl ?_)) ?_ ?_
  · exact ⟨Ext.refl _, Nat.le_refl _, .inl ⟨rfl, hs3⟩⟩
  rintro ⟨n, L⟩ ρj w5 ⟨E7, hn1, hnL⟩
  by_cases hlt : n < L
  · obtain ⟨rfl, hnp⟩ : L = B.length ∧ n ≤ p0 := by
      rcases hnL with h | h
      · exact h
      · omega
    have hti := test_iff hper (fun q hq => (hsh.2 _ _ hq).2) (hper.down hsh.1) hn1 hnp hlt
    have hfull : Ints w5 (.slice (some ⟨ab, 0, none⟩) B.length ac) B := Owned.read (hO1.ext E7)
    have hPre : Ints w5 (.slice (some ⟨ab, 0, none⟩) ((B.length : Int) - (n : Int)).toNat ac) (win f A.length (B.length - n)) := by
      have := Ints_take (c' := ac) hfull (k := B.length - n) (by omega)
      rw [show B.take (B.length - n) = win f A.length (B.length - n) by rw [← win_take (show B.length - n ≤ B.length by omega), hwB]] at this
      rw [show ((B.length : Int) - (n : Int)).toNat = B.length - n by omega]; exact this
    have hSuf : Ints w5 (.slice (some ⟨ab, 0 + n, none⟩) (B.length - n) (ac - n)) (win f (A.length + n) (B.length - n)) := by
      have := Ints_drop (c' := ac - n) hfull (k := n) (by omega)
      rw [show B.drop n = win f (A.length + n) (B.length - n) by rw [← win_drop (show n ≤ B.length by omega), hwB]] at this
      exact this
    have heq : ∀ (x : Bool), decide (win f (A.length + n) (B.length - n) = win f A.length (B.length - n)) = x → ∀ (w : World) (v u : Value), Ints w v (win f (A.length + n) (B.length - n)) → Ints w u (win f A.length (B.length - n)) → Does Try.prog 56 [v, u] w (Ret w (.bool x)) := fun x e w v u h h' => e ▸ Equal_ok w v u _ _ h h'
    clear hfull
    by_cases hnp0 : n = p0
    · obtain ⟨hm, he⟩ := hti.2 hnp0
      subst hnp0
      have hm' : (B.length : Int) % (n : Int) = 0 := by show ((B.length % n : Nat) : Int) = 0; rw [hm]; rfl
      have k1 := heq true (decide_eq_true he)
      clear heq hti
      focus
        have szE7 := E7.size; have szE6 := E6.size; have szE5 := E5.size; have szE4 := E4.size; have szE3 := E3.size; have szE2 := E2.size; have szE1 := E1.size; refine W_seq ?_; refine W_seq ?_; refine W_region rfl ?_
        refine Wo rfl (opv_move (v := .int _ _) rfl) ?_; refine Wo rfl (opv_move (v := .slice _ _ _) rfl) ?_; refine Wo rfl (opv_len Try.underlying23 rfl (Owned.read hO1)) ?_; refine Wo rfl (opv_lss rfl rfl) ?_; refine Wo_nil ?_
        refine W_cond_dec rfl (fun h3 => ?_) (fun h3 => ?_); refine W_skip ?_; refine W_seq ?_; refine W_block ?_; refine W_seq ?_; refine W_draw mixed (by kernel_rfl) rfl ?_; refine Wq_o rfl (fun _ _ => opv_move (v := .slice _ _ _) rfl) ?_
        refine Wq_o rfl (fun _ _ => opv_len Try.underlying23 rfl (Owned.read hO1)) ?_; refine Wq_o rfl (fun _ _ => opv_move (v := .int _ _) rfl) ?_; refine Wq_o rfl (fun _ _ => opv_rem rfl rfl (by omega)) ?_
        refine Wq_o rfl (fun _ _ => opv_eql rfl rfl) ?_; refine Wq_split_dec rfl (fun _ _ => opv_move (v := .bool _) rfl) (fun h4 => ?_) (fun h4 => ?_); refine Wq_o rfl (fun _ _ => opv_move (v := .slice _ _ _) rfl) ?_
        refine Wq_o rfl (fun _ _ => opv_move (v := .int _ _) rfl) ?_; refine Wq_o rfl (fun _ _ => opv_slice_sl_lo Try.underlying23 Try.sizeOf3 rfl rfl (by omega)) ?_; refine Wq_o rfl (fun _ _ => opv_move (v := .slice _ _ _) rfl) ?_
        refine Wq_o rfl (fun _ _ => opv_move (v := .slice _ _ _) rfl) ?_; refine Wq_o rfl (fun _ _ => opv_len Try.underlying23 rfl (Owned.read hO1)) ?_; refine Wq_o rfl (fun _ _ => opv_move (v := .int _ _) rfl) ?_
        refine Wq_o rfl (fun _ _ => opv_sub rfl rfl (by omega)) ?_; refine Wq_o rfl (fun _ _ => opv_slice_sl_hi Try.underlying23 Try.sizeOf3 rfl rfl (by omega)) ?_
        refine Wq_call rfl (fun _ _ => opc2 (a := .slice _ _ _) (b := .slice _ _ _) Try.call56 rfl rfl) (fun w' hw' => (k1 _ _ _ ((Mono.mono hw' hSuf)) ((Mono.mono hw' hPre)))) ?_
        refine Wq_o rfl (fun _ _ => opv_pick_t (v := .bool _) rfl rfl) ?_; refine Wq_nil (fun w6 E8 => ?_); have hs8 := E8.size; refine W_cond_true rfl ?_; refine W_region rfl ?_; refine Wo rfl (opv_move (v := .slice _ _ _) rfl) ?_
        refine Wo rfl (opv_move (v := .int _ _) rfl) ?_; refine Wo rfl (opv_slice_sl_hi Try.underlying23 Try.sizeOf3 rfl rfl (by omega)) ?_; refine Wo rfl (opv_assign (v := .slice _ _ _) rfl) ?_; refine Wo_nil ?_; refine W_region rfl ?_
        refine Wo rfl (opv_move (v := .int _ _) rfl) ?_; refine Wo rfl (opv_add rfl rfl (by omega)) ?_; refine Wo rfl (opv_assign (v := .int _ _) rfl) ?_; refine Wo_nil ?_; rotate_left; contradiction; (exfalso; omega)
      refine ⟨((n + 1, n)), by repeat (first | exact trivial | refine And.intro rfl ?_), by repeat (first | with_reducible exact Same.refl | refine Same.upd rfl ?_ | refine Same.upds rfl ?_ | refine Same.mix rfl ?_), ?_, ?_⟩
      · exact ⟨by first | assumption | exact E7.trans E8, by omega, .inr ⟨rfl, rfl⟩⟩
      · simp only; omega
    · by_cases hm : B.length % n = 0
      · have hm' : (B.length : Int) % (n : Int) = 0 := by show ((B.length % n : Nat) : Int) = 0; rw [hm]; rfl
        have k1 := heq false (decide_eq_false (fun h => hnp0 (hti.1 ⟨hm, h⟩)))
        clear heq hti
        focus
          have szE7 := E7.size; have szE6 := E6.size; have szE5 := E5.size; have szE4 := E4.size; have szE3 := E3.size; have szE2 := E2.size; have szE1 := E1.size; refine W_seq ?_; refine W_seq ?_; refine W_region rfl ?_
          refine Wo rfl (opv_move (v := .int _ _) rfl) ?_; refine Wo rfl (opv_move (v := .slice _ _ _) rfl) ?_; refine Wo rfl (opv_len Try.underlying23 rfl (Owned.read hO1)) ?_; refine Wo rfl (opv_lss rfl rfl) ?_; refine Wo_nil ?_
          refine W_cond_dec rfl (fun h3 => ?_) (fun h3 => ?_); refine W_skip ?_; refine W_seq ?_; refine W_block ?_; refine W_seq ?_; refine W_draw mixed (by kernel_rfl) rfl ?_; refine Wq_o rfl (fun _ _ => opv_move (v := .slice _ _ _) rfl) ?_
          refine Wq_o rfl (fun _ _ => opv_len Try.underlying23 rfl (Owned.read hO1)) ?_; refine Wq_o rfl (fun _ _ => opv_move (v := .int _ _) rfl) ?_; refine Wq_o rfl (fun _ _ => opv_rem rfl rfl (by omega)) ?_
          refine Wq_o rfl (fun _ _ => opv_eql rfl rfl) ?_; refine Wq_split_dec rfl (fun _ _ => opv_move (v := .bool _) rfl) (fun h4 => ?_) (fun h4 => ?_); refine Wq_o rfl (fun _ _ => opv_move (v := .slice _ _ _) rfl) ?_
          refine Wq_o rfl (fun _ _ => opv_move (v := .int _ _) rfl) ?_; refine Wq_o rfl (fun _ _ => opv_slice_sl_lo Try.underlying23 Try.sizeOf3 rfl rfl (by omega)) ?_; refine Wq_o rfl (fun _ _ => opv_move (v := .slice _ _ _) rfl) ?_
          refine Wq_o rfl (fun _ _ => opv_move (v := .slice _ _ _) rfl) ?_; refine Wq_o rfl (fun _ _ => opv_len Try.underlying23 rfl (Owned.read hO1)) ?_; refine Wq_o rfl (fun _ _ => opv_move (v := .int _ _) rfl) ?_
          refine Wq_o rfl (fun _ _ => opv_sub rfl rfl (by omega)) ?_; refine Wq_o rfl (fun _ _ => opv_slice_sl_hi Try.underlying23 Try.sizeOf3 rfl rfl (by omega)) ?_
          refine Wq_call rfl (fun _ _ => opc2 (a := .slice _ _ _) (b := .slice _ _ _) Try.call56 rfl rfl) (fun w' hw' => (k1 _ _ _ ((Mono.mono hw' hSuf)) ((Mono.mono hw' hPre)))) ?_
          refine Wq_o rfl (fun _ _ => opv_pick_t (v := .bool _) rfl rfl) ?_; refine Wq_nil (fun w6 E8 => ?_); have hs8 := E8.size; refine W_cond_false rfl ?_; refine W_skip ?_; refine W_region rfl ?_
          refine Wo rfl (opv_move (v := .int _ _) rfl) ?_; refine Wo rfl (opv_add rfl rfl (by omega)) ?_; refine Wo rfl (opv_assign (v := .int _ _) rfl) ?_; refine Wo_nil ?_; rotate_left; contradiction; (exfalso; omega)
        refine ⟨((n + 1, B.length)), by repeat (first | exact trivial | refine And.intro rfl ?_), by repeat (first | with_reducible exact Same.refl | refine Same.upd rfl ?_ | refine Same.upds rfl ?_ | refine Same.mix rfl ?_), ?_, ?_⟩
        · exact ⟨by first | assumption | exact E7.trans E8, by omega, .inl ⟨rfl, by omega⟩⟩
        · simp only; omega
      · have hm' : ¬ (B.length : Int) % (n : Int) = 0 := by show ¬ ((B.length % n : Nat) : Int) = 0; omega
        clear heq hti
        focus
          have szE7 := E7.size; have szE6 := E6.size; have szE5 := E5.size; have szE4 := E4.size; have szE3 := E3.size; have szE2 := E2.size; have szE1 := E1.size; refine W_seq ?_; refine W_seq ?_; refine W_region rfl ?_
          refine Wo rfl (opv_move (v := .int _ _) rfl) ?_; refine Wo rfl (opv_move (v := .slice _ _ _) rfl) ?_; refine Wo rfl (opv_len Try.underlying23 rfl (Owned.read hO1)) ?_; refine Wo rfl (opv_lss rfl rfl) ?_; refine Wo_nil ?_
          refine W_cond_dec rfl (fun h3 => ?_) (fun h3 => ?_); refine W_skip ?_; refine W_seq ?_; refine W_block ?_; refine W_seq ?_; refine W_draw mixed (by kernel_rfl) rfl ?_; refine Wq_o rfl (fun _ _ => opv_move (v := .slice _ _ _) rfl) ?_
          refine Wq_o rfl (fun _ _ => opv_len Try.underlying23 rfl (Owned.read hO1)) ?_; refine Wq_o rfl (fun _ _ => opv_move (v := .int _ _) rfl) ?_; refine Wq_o rfl (fun _ _ => opv_rem rfl rfl (by omega)) ?_
          refine Wq_o rfl (fun _ _ => opv_eql rfl rfl) ?_; refine Wq_split_dec rfl (fun _ _ => opv_move (v := .bool _) rfl) (fun h4 => ?_) (fun h4 => ?_); contradiction; refine Wq_skip rfl ?_; refine Wq_skip rfl ?_; refine Wq_skip rfl ?_
          refine Wq_skip rfl ?_; refine Wq_skip rfl ?_; refine Wq_skip rfl ?_; refine Wq_skip rfl ?_; refine Wq_skip rfl ?_; refine Wq_skip rfl ?_; refine Wq_skip rfl ?_; refine Wq_o rfl (fun _ _ => opv_pick_f (v := .bool _) rfl rfl) ?_
          refine Wq_nil (fun w6 E8 => ?_); have hs8 := E8.size; refine W_cond_false rfl ?_; refine W_skip ?_; refine W_region rfl ?_; refine Wo rfl (opv_move (v := .int _ _) rfl) ?_; refine Wo rfl (opv_add rfl rfl (by omega)) ?_
          refine Wo rfl (opv_assign (v := .int _ _) rfl) ?_; refine Wo_nil ?_; rotate_left; (exfalso; omega)
        refine ⟨((n + 1, B.length)), by repeat (first | exact trivial | refine And.intro rfl ?_), by repeat (first | with_reducible exact Same.refl | refine Same.upd rfl ?_ | refine Same.upds rfl ?_ | refine Same.mix rfl ?_), ?_, ?_⟩
        · exact ⟨by first | assumption | exact E7.trans E8, by omega, .inl ⟨rfl, by omega⟩⟩
        · simp only; omega
  · obtain rfl : L = p0 := by omega
    focus
      have szE7 := E7.size; have szE6 := E6.size; have szE5 := E5.size; have szE4 := E4.size; have szE3 := E3.size; have szE2 := E2.size; have szE1 := E1.size; refine W_seq ?_; refine W_seq ?_; refine W_region rfl ?_
      refine Wo rfl (opv_move (v := .int _ _) rfl) ?_; refine Wo rfl (opv_move (v := .slice _ _ _) rfl) ?_; refine Wo rfl (opv_len_slice Try.underlying23 rfl) ?_; refine Wo rfl (opv_lss rfl rfl) ?_; refine Wo_nil ?_
      refine W_cond_dec rfl (fun h3 => ?_) (fun h3 => ?_); (exfalso; omega); refine W_exit ?_; refine exitX_same ?_; refine W_seq ?_; refine W_region rfl ?_; refine Wo_lit0 XInt rfl el23 Try.sizeOf3 ?_; rintro b4 w6 hb4 b4lt E8 hO2
      have hs8 := E8.size; refine Wo rfl (opv_fieldAddr Try.underlying25 rfl rfl Try.sizeOf23 rfl) ?_; refine Wo (v := u1) rfl (opv_load Try.isAgg23 rfl ((hB2.ext (E7.trans E8)).cell rfl)) ?_
      refine Wo_appS rfl el23 rfl rfl (Mono.mono ((E4.trans E7).trans E8) h1) hO2.toB (by first | omega | (simp <;> omega)) (by omega) (by omega) ((E4.trans E7).trans E8) (by omega) ?_; have hT1 := hO2.toB; rintro v1 w7 hO2 E9 M1
      have E10 := M1.ext hT1 ((E5.trans E7).trans E8) (by omega); have szE10 := E10.size; have E11 := M1.ext hT1 ((E6.trans E7).trans E8) (by omega); have szE11 := E11.size; have E12 := M1.ext hT1 (E7.trans E8) (by omega)
      have szE12 := E12.size; have E13 := M1.ext hT1 E8 (by omega); have szE13 := E13.size; have hB2 := (hB2.ext (E7.trans E8)).moves M1 hT1 (by omega); have hB3 := (hB3.ext (E7.trans E8)).moves M1 hT1 (by omega)
      have hO1 := (hO1.toB.ext (E7.trans E8)).moves M1 hT1 (by omega); have hs9 := E9.size; refine Wo rfl (opv_assign (v := v1) rfl) ?_; refine Wo_nil ?_; refine W_seq ?_; refine W_block ?_
    clear M1 hT1 hnL hlt
    rw [List.nil_append] at hO2
    have hQ0 : OwnedB w2.heap.size w4.heap.size XI w7 (.slice (some ⟨ab, 0, none⟩) L ac) (win f A.length L) := by
      have := OwnedB.pre hO1 (k := L) (by omega)
      rw [show B.take L = win f A.length L by rw [← win_take (show L ≤ B.length by omega), hwB]] at this; exact this
    obtain ⟨pa, pc, rfl, _⟩ := id (Owned.read hO2)
    have hpa : 1 ≤ A.length → ∃ hb, pa = some ⟨hb, 0, none⟩ ∧ A.length ≤ pc := fun h => by
      obtain ⟨b, c, e, hle⟩ := hO2.lit (by omega)
      injection e with e1 e2 e3
      exact ⟨b, e1, by omega⟩
    have hO2' := hO2.toB
    clear hO1 hO2
    refine W_loop [3, 5, 6, 41, 42, 43, 44, 45, 46, 47, 48, 49, 50, 51, 52, 53, 54, 55, 56, 57, 58, 59, 60, 61, 62, 63, 64, 65, 66, 67, 68, 69, 70, 71, 72, 73, 74, 75, 76, 77] (fun (c, q) => [(5, .slice pa c pc), (3, q)]) (fun ((c : Nat), (q : Value)) w' => Ext w7 w' ∧ c ≤ A.length ∧ Per f c L ∧ OwnedB w5.heap.size w7.heap.size XI w' (.slice pa A.length pc) A ∧ Owned w2.heap.size XI w' q (win f c L) ∧ (∀ k, q.ownBlock = some k → k < w5.heap.size ∨ w7.heap.size ≤ k)) (fun x => x.1) (A.length, .slice (some ⟨ab, 0, none⟩) L ac) (by repeat (first | exact trivial | refine And.intro rfl ?_)) ?_ ?_
    · exact ⟨Ext.refl _, Nat.le_refl _, hper.down hsh.1, hO2', hQ0.o, fun k hk => (by have h9 : some ab = some k := hk; injection h9 with h9; omega)⟩
    clear hQ0 hO2'
    rintro ⟨c, q⟩ ρk w8 ⟨E14, hcA, hpc, hOA, hOQ, hoff⟩
    obtain ⟨qb, qc, rfl, hqc⟩ := hOQ.lit (by rw [win_len]; omega)
    rw [win_len] at *
    have hwl := win_len (f := f) (a := c) (p := L)
    have hwl0 := win_len (f := f) (a := 0) (p := c)
    have hA8 : Ints w8 (.slice pa c pc) (win f 0 c) := by
      have := (OwnedB.preA hOA hcA).read
      rw [show A.take c = win f 0 c by rw [← win_take hcA, hwA]] at this; exact this
    have ha0 := (hsh.2 _ _ hpc).1
    by_cases hc0 : c = 0
    · obtain rfl : a0 = 0 := by omega
      subst hc0
      focus
        have szE14 := E14.size; have szE13 := E13.size; have szE12 := E12.size; have szE11 := E11.size; have szE10 := E10.size; have szE9 := E9.size; have szE8 := E8.size; have szE7 := E7.size; have szE6 := E6.size; have szE5 := E5.size
        have szE4 := E4.size; have szE3 := E3.size; have szE2 := E2.size; have szE1 := E1.size; refine W_seq ?_; refine W_seq ?_; refine W_draw mixed (by kernel_rfl) rfl ?_; refine Wq_o rfl (fun _ _ => opv_move (v := .slice _ _ _) rfl) ?_
        refine Wq_o rfl (fun _ _ => opv_len Try.underlying23 rfl hA8) ?_; refine Wq_o rfl (fun _ _ => opv_gtr rfl rfl) ?_; refine Wq_split_dec rfl (fun _ _ => opv_move (v := .bool _) rfl) (fun h4 => ?_) (fun h4 => ?_); contradiction
        refine Wq_skip rfl ?_; refine Wq_skip rfl ?_; refine Wq_skip rfl ?_; refine Wq_skip rfl ?_; refine Wq_skip rfl ?_; refine Wq_skip rfl ?_; refine Wq_skip rfl ?_; refine Wq_skip rfl ?_; refine Wq_skip rfl ?_; refine Wq_skip rfl ?_
        refine Wq_skip rfl ?_; refine Wq_skip rfl ?_; refine Wq_skip rfl ?_; refine Wq_o rfl (fun _ _ => opv_pick_f (v := .bool _) rfl rfl) ?_; refine Wq_nil (fun w9 E15 => ?_); have hs10 := E15.size; refine W_cond_false rfl ?_
        refine W_exit ?_; refine exitX_same ?_; refine W_seq ?_; refine W_region rfl ?_; refine Wo rfl (opv_move (v := .slice _ _ _) rfl) ?_; refine Wo rfl (opv_move (v := .slice _ _ _) rfl) ?_
        refine Wo rfl (opv_build (ps := [(0, .slice _ _ _), (1, .slice _ _ _)]) (cs := [_, _]) flat25 rfl rfl) ?_
        refine Wo_st2 rfl Try.sizeOf25 rfl rfl (by first | rfl | assumption) (by first | rfl | assumption) (hB3.ext (E14.trans E15)) (by omega) ((E9.trans E14).trans E15) ?_; rintro w10 E16 hB3 K1 hz1
        have E17 := ((E10.trans E14).trans E15).wroteAt ((E9.trans E14).trans E15) E16 K1 hz1 (by omega); have szE17 := E17.size; have hO1 := (hO1.toB.ext ((E12.trans E14).trans E15)).wrote K1 (by omega)
        have hB2 := (hB2.ext (E14.trans E15)).of_heap (K1 _ (by omega)); have hOA := (hOA.ext E15).wrote K1 (by omega); have hOQ := (hOQ.toB.ext E15).wrote K1 (by omega); refine Wo_nil ?_; refine W_ret ?_
      have hOAc : OwnedB w5.heap.size w7.heap.size XI w10 (.slice pa 0 pc) (win f 0 0) := by
        have := OwnedB.preA hOA hcA
        rw [show A.take 0 = win f 0 0 by rw [← win_take hcA, hwA]] at this; exact this
      refine ⟨_, _, _, rfl, hB3, _, _, rfl, by assumption, hOAc.o.mono (by omega), hOQ.o.mono (by omega), ?_⟩
      cases hv : (Value.slice pa 0 pc).ownBlock with
      | none => exact .inr rfl
      | some k =>
        left
        intro e
        have h8 := own_rng hOAc hv
        have h9 := hoff k e.symm
        omega
    · obtain ⟨hb, rfl, hpcl⟩ := hpa (by omega)
      have hl1 : (win f 0 c)[(((win f 0 c).length : Int) - 1).toNat]'(by omega) = f (c - 1) := by rw [win_get (by omega) (show (((win f 0 c).length : Int) - 1).toNat = c - 1 by omega), Nat.zero_add]
      have hl2 : (win f c L)[(((win f c L).length : Int) - 1).toNat]'(by omega) = f (c - 1 + L) := by rw [win_get (by omega) (show (((win f c L).length : Int) - 1).toNat = L - 1 by omega)]; congr 1; omega
      have hpred : Per f (c - 1) L ↔ f (c - 1) = f (c - 1 + L) := per_pred (by rw [Nat.sub_add_cancel (by omega)]; exact hpc)
      by_cases hcc : f (c - 1) = f (c - 1 + L)
      · have hlit : (win f 0 c)[(((win f 0 c).length : Int) - 1).toNat]'(by omega) = (win f c L)[(((win f c L).length : Int) - 1).toNat]'(by omega) := by rw [hl1, hl2, hcc]
        have hQ8 : Ints w8 (.slice (some ⟨qb, 0, none⟩) (((win f c L).length : Int) - 1).toNat qc) (win f c (L - 1)) := by
          have := Ints_take (c' := qc) (Owned.read hOQ) (k := L - 1) (by omega)
          rw [win_take (by omega)] at this
          rw [show (((win f c L).length : Int) - 1).toNat = L - 1 by omega]; exact this
        focus
          have szE14 := E14.size; have szE13 := E13.size; have szE12 := E12.size; have szE11 := E11.size; have szE10 := E10.size; have szE9 := E9.size; have szE8 := E8.size; have szE7 := E7.size; have szE6 := E6.size; have szE5 := E5.size
          have szE4 := E4.size; have szE3 := E3.size; have szE2 := E2.size; have szE1 := E1.size; refine W_seq ?_; refine W_seq ?_; refine W_draw mixed (by kernel_rfl) rfl ?_; refine Wq_o rfl (fun _ _ => opv_move (v := .slice _ _ _) rfl) ?_
          refine Wq_o rfl (fun _ _ => opv_len Try.underlying23 rfl hA8) ?_; refine Wq_o rfl (fun _ _ => opv_gtr rfl rfl) ?_; refine Wq_split_dec rfl (fun _ _ => opv_move (v := .bool _) rfl) (fun h4 => ?_) (fun h4 => ?_)
          refine Wq_o rfl (fun _ _ => opv_move (v := .slice _ _ _) rfl) ?_; refine Wq_o rfl (fun _ _ => opv_move (v := .slice _ _ _) rfl) ?_; refine Wq_o rfl (fun _ _ => opv_len Try.underlying23 rfl hA8) ?_
          refine Wq_o rfl (fun _ _ => opv_sub rfl rfl (by omega)) ?_; refine Wq_get_z Try.underlying23 Try.sizeOf3 Try.isAgg3 rfl (fun _ => rfl) rfl hA8 (Ext.refl _) rfl (by first | omega | (simp <;> omega)) ?_; rintro _ _ rfl
          refine Wq_o rfl (fun _ _ => opv_move (v := .slice _ _ _) rfl) ?_; refine Wq_o rfl (fun _ _ => opv_move (v := .slice _ _ _) rfl) ?_; refine Wq_o rfl (fun _ _ => opv_len Try.underlying23 rfl (Owned.read hOQ)) ?_
          refine Wq_o rfl (fun _ _ => opv_sub rfl rfl (by omega)) ?_; refine Wq_get_z Try.underlying23 Try.sizeOf3 Try.isAgg3 rfl (fun _ => rfl) rfl (Owned.read hOQ) (Ext.refl _) rfl (by first | omega | (simp <;> omega)) ?_; rintro _ _ rfl
          refine Wq_o rfl (fun _ _ => opv_eql rfl rfl) ?_; refine Wq_o rfl (fun _ _ => opv_pick_t (v := .bool _) rfl rfl) ?_; refine Wq_nil (fun w9 E15 => ?_); have hs10 := E15.size; refine W_cond_dec rfl (fun h5 => ?_) (fun h5 => ?_)
          refine W_skip ?_; refine W_block ?_; refine W_seq ?_; refine W_region rfl ?_; refine Wo rfl (opv_move (v := .slice _ _ _) rfl) ?_; refine Wo rfl (opv_move (v := .slice _ _ _) rfl) ?_
          refine Wo rfl (opv_len Try.underlying23 rfl (Owned.read hOQ)) ?_; refine Wo rfl (opv_sub rfl rfl (by omega)) ?_
          refine Wo_get_z Try.underlying23 Try.sizeOf3 Try.isAgg3 rfl (fun _ => rfl) rfl (Owned.read hOQ) E15 rfl (by first | omega | (simp <;> omega)) ?_; rintro _ _ rfl; refine Wo rfl (opv_assign (v := .int _ _) rfl) ?_; refine Wo_nil ?_
          refine W_seq ?_; refine W_region rfl ?_; refine Wo rfl (opv_move (v := .slice _ _ _) rfl) ?_; refine Wo rfl (opv_move (v := .slice _ _ _) rfl) ?_; refine Wo rfl (opv_len Try.underlying23 rfl hA8) ?_
          refine Wo rfl (opv_sub rfl rfl (by omega)) ?_; refine Wo rfl (opv_slice_sl_hi Try.underlying23 Try.sizeOf3 rfl rfl (by omega)) ?_; refine Wo rfl (opv_assign (v := .slice _ _ _) rfl) ?_; refine Wo_nil ?_; refine W_region rfl ?_
          refine Wo rfl (opv_move (v := .int _ _) rfl) ?_; refine Wo_buildSliceH (ps := [(0, .int _ _)]) (cs := [_]) rfl Try.underlying23 Try.sizeOf3 Try.zeroValue3 rfl rfl rfl rfl ?_; rintro b5 w10 hb5 E16 hB4 hHb5; have hlb5 := hB4.lt
          have hs11 := E16.size; refine Wo rfl (opv_move (v := .slice _ _ _) rfl) ?_; refine Wo rfl (opv_move (v := .slice _ _ _) rfl) ?_; refine Wo rfl (opv_len Try.underlying23 rfl (Owned.read hOQ)) ?_
          refine Wo rfl (opv_sub rfl rfl (by omega)) ?_; refine Wo rfl (opv_slice_sl_hi Try.underlying23 Try.sizeOf3 rfl rfl (by omega)) ?_; rotate_left; contradiction; (exfalso; omega)
        have hlit1 : Owned w9.heap.size XI w10 (.slice (some ⟨b5, 0, none⟩) 1 1) [(win f c L)[(((win f c L).length : Int) - 1).toNat]'(by omega)] := Owned.block hHb5 hb5 rfl (by decide) ⟨⟨rfl, rfl⟩, trivial⟩
        clear hHb5 hB4
        have hwl1 := win_len (f := f) (a := c) (p := L - 1)
        have hone : ([(win f c L)[(((win f c L).length : Int) - 1).toNat]'(by omega)] : List Int).length = 1 := rfl
        focus
          have szE16 := E16.size; have szE15 := E15.size; have szE14 := E14.size; have szE13 := E13.size; have szE12 := E12.size; have szE11 := E11.size; have szE10 := E10.size; have szE9 := E9.size; have szE8 := E8.size; have szE7 := E7.size
          have szE6 := E6.size; have szE5 := E5.size; have szE4 := E4.size; have szE3 := E3.size; have szE2 := E2.size; have szE1 := E1.size
          refine Wo_appS rfl el23 rfl rfl (Mono.mono (E15.trans E16) hQ8) hlit1.toB (by first | omega | (simp <;> omega)) (by omega) (by omega) (((E9.trans E14).trans E15).trans E16) (by omega) ?_; have hT1 := hlit1.toB
          rintro v1 w11 hlit1 E17 M1; have E18 := M1.ext hT1 (((E10.trans E14).trans E15).trans E16) (by omega); have szE18 := E18.size; have E19 := M1.ext hT1 (((E11.trans E14).trans E15).trans E16) (by omega); have szE19 := E19.size
          have E20 := M1.ext hT1 (((E12.trans E14).trans E15).trans E16) (by omega); have szE20 := E20.size; have E21 := M1.ext hT1 (((E13.trans E14).trans E15).trans E16) (by omega); have szE21 := E21.size
          have E22 := M1.ext hT1 ((E14.trans E15).trans E16) (by omega); have szE22 := E22.size; have E23 := M1.ext hT1 (E15.trans E16) (by omega); have szE23 := E23.size; have E24 := M1.ext hT1 E16 (by omega); have szE24 := E24.size
          have hO1 := (hO1.toB.ext (((E12.trans E14).trans E15).trans E16)).moves M1 hT1 (by omega); have hB2 := (hB2.ext ((E14.trans E15).trans E16)).moves M1 hT1 (by omega)
          have hB3 := (hB3.ext ((E14.trans E15).trans E16)).moves M1 hT1 (by omega); have hOQ := (hOQ.toB.ext (E15.trans E16)).moves M1 hT1 (by omega); have hOA := (hOA.ext (E15.trans E16)).moves M1 hT1 (by omega); have hs12 := E17.size
          refine Wo rfl (opv_assign (v := v1) rfl) ?_; refine Wo_nil ?_
        have hnew : [(win f c L)[(((win f c L).length : Int) - 1).toNat]'(by omega)] ++ win f c (L - 1) = win f (c - 1) L := by
          rw [hl2, ← hcc]
          have := win_cons (f := f) (a := c - 1) (p := L - 1)
          rw [Nat.sub_add_cancel (by omega), Nat.sub_add_cancel (by omega)] at this
          rw [this]; rfl
        have hL' : (((win f 0 c).length : Int) - 1).toNat = c - 1 := by omega
        refine ⟨(((((win f 0 c).length : Int) - 1).toNat, v1)), by repeat (first | exact trivial | refine And.intro rfl ?_), by repeat (first | with_reducible exact Same.refl | refine Same.upd rfl ?_ | refine Same.upds rfl ?_ | refine Same.mix rfl ?_), ?_, ?_⟩
        · refine ⟨E22, by omega, ?_, hOA, ?_, fun k hk => ?_⟩
          · rw [hL']; exact hpred.2 hcc
          · rw [hL', ← hnew]; exact hlit1.mono (by omega)
          · have := own_rng hlit1.toB hk
            omega
        · simp only; omega
      · have hlit : ¬ (win f 0 c)[(((win f 0 c).length : Int) - 1).toNat]'(by omega) = (win f c L)[(((win f c L).length : Int) - 1).toNat]'(by omega) := by rw [hl1, hl2]; exact hcc
        obtain rfl : a0 = c := by
          rcases Nat.lt_or_ge a0 c with h | h
          · exact absurd (hpred.1 (hsh.1.up (by omega))) hcc
          · omega
        focus
          have szE14 := E14.size; have szE13 := E13.size; have szE12 := E12.size; have szE11 := E11.size; have szE10 := E10.size; have szE9 := E9.size; have szE8 := E8.size; have szE7 := E7.size; have szE6 := E6.size; have szE5 := E5.size
          have szE4 := E4.size; have szE3 := E3.size; have szE2 := E2.size; have szE1 := E1.size; refine W_seq ?_; refine W_seq ?_; refine W_draw mixed (by kernel_rfl) rfl ?_; refine Wq_o rfl (fun _ _ => opv_move (v := .slice _ _ _) rfl) ?_
          refine Wq_o rfl (fun _ _ => opv_len Try.underlying23 rfl hA8) ?_; refine Wq_o rfl (fun _ _ => opv_gtr rfl rfl) ?_; refine Wq_split_dec rfl (fun _ _ => opv_move (v := .bool _) rfl) (fun h4 => ?_) (fun h4 => ?_)
          refine Wq_o rfl (fun _ _ => opv_move (v := .slice _ _ _) rfl) ?_; refine Wq_o rfl (fun _ _ => opv_move (v := .slice _ _ _) rfl) ?_; refine Wq_o rfl (fun _ _ => opv_len Try.underlying23 rfl hA8) ?_
          refine Wq_o rfl (fun _ _ => opv_sub rfl rfl (by omega)) ?_; refine Wq_get_z Try.underlying23 Try.sizeOf3 Try.isAgg3 rfl (fun _ => rfl) rfl hA8 (Ext.refl _) rfl (by first | omega | (simp <;> omega)) ?_; rintro _ _ rfl
          refine Wq_o rfl (fun _ _ => opv_move (v := .slice _ _ _) rfl) ?_; refine Wq_o rfl (fun _ _ => opv_move (v := .slice _ _ _) rfl) ?_; refine Wq_o rfl (fun _ _ => opv_len Try.underlying23 rfl (Owned.read hOQ)) ?_
          refine Wq_o rfl (fun _ _ => opv_sub rfl rfl (by omega)) ?_; refine Wq_get_z Try.underlying23 Try.sizeOf3 Try.isAgg3 rfl (fun _ => rfl) rfl (Owned.read hOQ) (Ext.refl _) rfl (by first | omega | (simp <;> omega)) ?_; rintro _ _ rfl
          refine Wq_o rfl (fun _ _ => opv_eql rfl rfl) ?_; refine Wq_o rfl (fun _ _ => opv_pick_t (v := .bool _) rfl rfl) ?_; refine Wq_nil (fun w9 E15 => ?_); have hs10 := E15.size; refine W_cond_dec rfl (fun h5 => ?_) (fun h5 => ?_)
          contradiction; refine W_exit ?_; refine exitX_same ?_; refine W_seq ?_; refine W_region rfl ?_; refine Wo rfl (opv_move (v := .slice _ _ _) rfl) ?_; refine Wo rfl (opv_move (v := .slice _ _ _) rfl) ?_
          refine Wo rfl (opv_build (ps := [(0, .slice _ _ _), (1, .slice _ _ _)]) (cs := [_, _]) flat25 rfl rfl) ?_
          refine Wo_st2 rfl Try.sizeOf25 rfl rfl (by first | rfl | assumption) (by first | rfl | assumption) (hB3.ext (E14.trans E15)) (by omega) ((E9.trans E14).trans E15) ?_; rintro w10 E16 hB3 K1 hz1
          have E17 := ((E10.trans E14).trans E15).wroteAt ((E9.trans E14).trans E15) E16 K1 hz1 (by omega); have szE17 := E17.size; have hO1 := (hO1.toB.ext ((E12.trans E14).trans E15)).wrote K1 (by omega)
          have hB2 := (hB2.ext (E14.trans E15)).of_heap (K1 _ (by omega)); have hOA := (hOA.ext E15).wrote K1 (by omega); have hOQ := (hOQ.toB.ext E15).wrote K1 (by omega); refine Wo_nil ?_; refine W_ret ?_; rotate_left; (exfalso; omega)
        have hOAc : OwnedB w5.heap.size w7.heap.size XI w10 (.slice (some ⟨hb, 0, none⟩) a0 pc) (win f 0 a0) := by
          have := OwnedB.preA hOA hcA
          rw [show A.take a0 = win f 0 a0 by rw [← win_take hcA, hwA]] at this; exact this
        refine ⟨_, _, _, rfl, hB3, _, _, rfl, by assumption, hOAc.o.mono (by omega), hOQ.o.mono (by omega), ?_⟩
        cases hv : (Value.slice (some ⟨hb, 0, none⟩) a0 pc).ownBlock with
        | none => exact .inr rfl
        | some k =>
          left
          intro e
          have h8 := own_rng hOAc hv
          have h9 := hoff k e.symm
          omega

end Go.Proofs.Ytlalfmialbolhaa
