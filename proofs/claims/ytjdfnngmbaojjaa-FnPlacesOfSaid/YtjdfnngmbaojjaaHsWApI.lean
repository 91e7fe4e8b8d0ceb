/- Walks: texts that tell two nodes apart: the clever side. -/
import Derived.Test.YtjdfnngmbaojjaaHsWAp
import Derived.Test.YtjdfnngmbaojjaaHsWFun
import Derived.Test.YtjdfnngmbaojjaaHsHeld
namespace Go.Proofs.Ytjdfnngmbaojjaa
open Go.Hs
set_option maxRecDepth 10000
set_option maxHeartbeats 4000000
set_option linter.unusedVariables false
set_option linter.unusedSimpArgs false
noncomputable def apL (p : List (List Int)) (r k : Nat) (l : List Nat) : List UInt8 := match l with
  | [] => []
  | l => (conj (l.map (apF p r k))).enc
theorem apL_nil {p : List (List Int)} {r k : Nat} : apL p r k [] = [] := rfl
theorem apL_ne {p : List (List Int)} {r k : Nat} {l : List Nat} (h : l ≠ []) : apL p r k l = (conj (l.map (apF p r k))).enc := by
  cases l with
  | nil => exact absurd rfl h
  | cons _ _ => rfl
theorem apL_one {p : List (List Int)} {r k : Nat} (j : Nat) : apL p r k ([] ++ [j]) = (apF p r k j).enc := rfl
theorem apL_more {p : List (List Int)} {r k j : Nat} {l : List Nat} (h : l ≠ []) : apL p r k (l ++ [j]) = [40] ++ apL p r k l ++ [38] ++ (apF p r k j).enc ++ [41] := by
  rw [apL_ne (by simp), apL_ne h, List.map_append, List.map_cons, List.map_nil, conj_snoc _ _ (by simpa using h)]; simp [Fm.enc]
theorem apL_pos {p : List (List Int)} {r k : Nat} {l : List Nat} (h : l ≠ []) : apL p r k l ≠ [] := by
  rw [apL_ne h]; exact Fm.enc_ne _
theorem apL_len {p : List (List Int)} (hp : Pic p) {r k : Nat} {l : List Nat} (hr : r ≤ 11) (hk : k < p.length) (hl : ∀ i ∈ l, i < p.length) (h5 : l.length ≤ 5) : (apL p r k l).length ≤ 10000000000 := by
  by_cases h : l = []
  · subst h; simp [apL]
  · have h1 := conj_len (l.map (apF p r k)) 1000000000 fun f hf => by
      obtain ⟨i, hi, rfl⟩ := List.mem_map.1 hf
      exact apF_len' hp hr hk (hl i hi)
    rw [List.length_map] at h1
    have h5 := Nat.mul_le_mul_right (1000000000 + 3) h5
    rw [apL_ne h]; omega

theorem tellsApart_ok (p : List (List Int)) (hp : Pic p) : ∀ (r : Nat), r ≤ 11 → ∀ (w : World) (pv : Value) (a b : Nat), ESl Ints w pv p → a < p.length → b < p.length → bsm p p.length a b = false → mu p a b < r →
    Does Try.prog 68 [pv, .int .i64 (a : Int), .int .i64 (b : Int)] w (Ret w (str (apF p r a b).enc)) := by
  have hp5 := hp.2.1
  have harr : ∀ (w : World) (pv : Value) (z : Nat), ESl Ints w pv p → z < p.length → Does Try.prog 79 [pv, .int .i64 (z : Int)] w (RetO w XI (ints (arr p z))) := fun w pv z h hz =>
    arrowsOf_ok w pv p h (z : Int) (by omega) (by rw [getD_lt (by omega), hp.row (by omega)]; omega)
  have hhf : ∀ (w : World) (pv : Value) (a b : Nat), ESl Ints w pv p → a < p.length → b < p.length → Does Try.prog 67 [pv, .int .i64 (a : Int), .int .i64 (b : Int)] w (Ret w (.int .i64 (hld p a b : Int))) := fun w pv a b h ha hb => heldFor_ok w pv p h hp a b ha hb
  have hhl : ∀ a b, a < p.length → b < p.length → hld p a b ≤ 1000 := fun a b ha hb => by
    cases hs : bsm p p.length a b with
    | true => rw [hld_top hp ha hb hs]; omega
    | false => have := (hld_spec hs).2.2; omega
  intro r
  induction r with
  | zero => intro _ w pv a b _ _ _ _ h; omega
  | succ r ih =>
    intro hr w pv a b h ha hb hs hm
    have hle := h.le
    obtain ⟨pa, pc, rfl, _⟩ := id h
    obtain ⟨g1, g2, g3⟩ := hld_spec hs
    have k1 : ∀ (w : World) (pv : Value), ESl Ints w pv p → Does Try.prog 67 [pv, .int .i64 (a : Int), .int .i64 (b : Int)] w (Ret w (.int .i64 (hld p a b : Int))) := fun w pv h => hhf w pv a b h ha hb
    obtain ⟨n, hn⟩ : ∃ n, n = hld p a b := ⟨_, rfl⟩
    rw [← hn] at k1 g3
    have hla := ints_len (arr p a)
    have hlb := ints_len (arr p b)
    have ha5 := arr_le5 hp ha
    have hb5 := arr_le5 hp hb
    have hcl : ∀ (w1 : World) (b1 b2 b3 x y : Nat), Ext w w1 → Blk w1 b1 [.slice pa p.length pc] → Blk w1 b2 [.int .i64 (x : Int)] → Blk w1 b3 [.int .i64 (n : Int)] → x < p.length → y < p.length → Does Try.prog 85 [.int .i64 (y : Int), .pointer (some ⟨b1, 0, none⟩), .pointer (some ⟨b2, 0, none⟩), .pointer (some ⟨b3, 0, none⟩)] w1 (Ret w1 (.bool (bsm p n x y))) := by
      intro w1 b1 b2 b3 x y E0 hB1 hB2 hB3 hx hy
      have k2 : ∀ (w : World) (pv : Value), ESl Ints w pv p → Does Try.prog 67 [pv, .int .i64 (x : Int), .int .i64 (y : Int)] w (Ret w (.int .i64 (hld p x y : Int))) := fun w pv h => hhf w pv x y h hx hy
      have h1 := hhl x y hx hy
      have h2 := hld_ge hp hx hy (n := n) (by omega)
      generalize hld p x y = m at *
      refine fn_of_W1 Try.func85 rfl Try.results85 Try.ntmps85 rfl ?_
      focus
        have szE0 := E0.size; refine W_seq ?_; refine W_region rfl ?_; refine Wo rfl (opv_assign (v := .bool _) rfl) ?_; refine Wo_nil ?_; refine W_seq ?_; refine W_draw mixed (by kernel_rfl) rfl ?_
        refine Wq_o (v := .slice _ _ _) rfl (fun w' hw' => opv_load Try.isAgg30 rfl ((hB1.ext hw').cell rfl)) ?_; refine Wq_o (v := .int _ _) rfl (fun w' hw' => opv_load Try.isAgg3 rfl ((hB2.ext hw').cell rfl)) ?_
        refine Wq_o rfl (fun _ _ => opv_move (v := .int _ _) rfl) ?_; refine Wq_call rfl (fun _ _ => opc3 (a := .slice _ _ _) (b := .int _ _) (c := .int _ _) Try.call67 rfl rfl rfl) (fun w' hw' => (k2 _ _ ((Mono.mono (E0.trans hw') h)))) ?_
        refine Wq_o (v := .int _ _) rfl (fun w' hw' => opv_load Try.isAgg3 rfl ((hB3.ext hw').cell rfl)) ?_; refine Wq_o rfl (fun _ _ => opv_geq rfl rfl) ?_; refine Wq_o rfl (fun _ _ => opv_assign (v := .bool _) rfl) ?_
        refine Wq_nil (fun w2 E1 => ?_); have hs1 := E1.size; refine W_ret ?_; refine at_ret (v := .bool _) rfl ?_; refine ⟨congrArg Value.bool ?_, E1⟩
      all_goals
        cases hq : bsm p n x y with
        | true => rw [decide_eq_true]; have := h2.2 hq; omega
        | false => rw [decide_eq_false]; intro hc; have := h2.1 (by omega); rw [hq] at this; cases this
    refine fn_of_W1 Try.func68 rfl Try.results68 Try.ntmps68 rfl ?_
    focus
      refine W_seq ?_; refine W_region rfl ?_; refine Wo_box rfl rfl rfl ?_; rintro b1 w1 hb1 E1 hB1; have hlb1 := hB1.lt; have hs1 := E1.size; refine Wo rfl (opv_assign (v := .string _) rfl) ?_; refine Wo_nil ?_; refine W_seq ?_
      refine W_region rfl ?_; refine Wo (v := .slice _ _ _) rfl (opv_load Try.isAgg30 rfl (hB1.cell rfl)) ?_; refine Wo rfl (opv_move (v := .int _ _) rfl) ?_; refine Wo rfl (opv_move (v := .int _ _) rfl) ?_
      refine Wo_call rfl (opc3 (a := .slice _ _ _) (b := .int _ _) (c := .int _ _) Try.call67 rfl rfl rfl) (k1 _ _ ((Mono.mono E1 h))) ?_; rintro _ w2 ⟨rfl, E2⟩; have hs2 := E2.size; refine Wo_alloc rfl Try.zeroValue3 rfl ?_
      rintro b2 w3 hb2 E3 hB2; have hlb2 := hB2.lt; have hs3 := E3.size; refine Wo_st (v := .int _ _) rfl Try.sizeOf3 rfl rfl rfl hB2 (by decide) (by omega) ((E1.trans E2).trans E3) ?_; rintro w4 E4 hB2 K1 hz1
      have E5 := (E2.trans E3).wroteAt ((E1.trans E2).trans E3) E4 K1 hz1 (by omega); have szE5 := E5.size; have E6 := E3.wroteAt ((E1.trans E2).trans E3) E4 K1 hz1 (by omega); have szE6 := E6.size; simp only [List.set] at hB2
      have hB1 := (hB1.ext (E2.trans E3)).of_heap (K1 _ (by omega)); refine Wo_nil ?_; refine W_seq ?_; refine W_seq ?_; refine W_region rfl ?_; refine Wo (v := .slice _ _ _) rfl (opv_load Try.isAgg30 rfl (hB1.cell rfl)) ?_
      refine Wo rfl (opv_move (v := .int _ _) rfl) ?_; refine Wo_call rfl (opc2 (a := .slice _ _ _) (b := .int _ _) Try.call79 rfl rfl) (harr _ _ _ ((Mono.mono E4 h)) (by assumption)) ?_; rintro u1 w5 ⟨E7, hO1⟩; have hs4 := E7.size
      refine Wo rfl (opv_len Try.underlying38 rfl (Owned.read hO1)) ?_; refine Wo rfl (opv_move (v := .int _ _) rfl) ?_; refine Wo_nil ?_; refine W_block ?_
    have hB1' : Blk w4 b1 [.slice pa p.length pc] := hB1
    clear hB1
    have hB1 := hB1'.ext E7
    have hB2' := hB2.ext E7
    clear hB2 hB1'
    refine W_loop [6, 9, 10, 12, 21, 22, 23, 24, 25, 26, 27, 28, 29, 30, 31, 32, 33, 34, 35, 36, 37, 38, 39, 40, 41, 42, 43, 44, 45, 46, 47, 48, 49, 50, 51, 52, 53, 54, 55, 56, 57, 58] (fun (k : Nat) => [(21, .int .i64 (k : Nat))]) (fun k w' => Ext w5 w' ∧ k ≤ (arr p a).length ∧ ∀ i ∈ (arr p a).take k, ∃ j ∈ arr p b, bsm p n i j = true) (fun x => (arr p a).length - x) 0 (by repeat (first | exact trivial | refine And.intro rfl ?_)) ?_ ?_
    · exact ⟨Ext.refl _, Nat.zero_le _, by simp⟩
    rintro k ρj w6 ⟨E8, hk, hg⟩
    by_cases hkl : k < (arr p a).length
    · have hmm := List.getElem_mem hkl
      have hga := ints_get2 hkl
      have hts := take_snoc _ _ hkl
      obtain ⟨m, hmd⟩ : ∃ m, m = (arr p a)[k] := ⟨_, rfl⟩
      rw [← hmd] at hga hmm
      have hml := arr_lt hp ha hmm
      have hcon : ∀ (w1 : World) (u : Value) (b1 b2 b3 : Nat), Ext w w1 → Blk w1 b1 [.slice pa p.length pc] → Blk w1 b2 [.int .i64 (m : Int)] → Blk w1 b3 [.int .i64 (n : Int)] → Ints w1 u (ints (arr p b)) → Does Try.prog 78 [u, .func (.func 85) [].toArray [.pointer (some ⟨b1, 0, none⟩), .pointer (some ⟨b2, 0, none⟩), .pointer (some ⟨b3, 0, none⟩)].toArray] w1 (Ret w1 (.bool ((arr p b).any fun y => bsm p n m y))) := by
        intro w1 u b1 b2 b3 E0 hB1 hB2 hB3 hu
        have := ContainsFunc_ok w1 u _ hu 85 [.pointer (some ⟨b1, 0, none⟩), .pointer (some ⟨b2, 0, none⟩), .pointer (some ⟨b3, 0, none⟩)] (fun y => bsm p n m y.toNat) Try.call85 (fun y w' hy e => by
          simp only [ints, List.mem_map] at hy
          obtain ⟨j, hj, rfl⟩ := hy
          exact hcl w' b1 b2 b3 m j (E0.trans e) (hB1.ext e) (hB2.ext e) (hB3.ext e) hml (arr_lt hp hb hj))
        rw [ints_any2] at this
        exact this
      cases hany : (arr p b).any fun y => bsm p n m y with
      | true =>
        rw [hany] at hcon
        have hcon' : ∀ (w1 : World) (u : Value) (b1 b2 b3 : Nat), Ext w w1 → Blk w1 b1 [.slice pa p.length pc] → Blk w1 b2 [.int .i64 ((ints (arr p a))[k]'(by omega))] → Blk w1 b3 [.int .i64 (n : Int)] → Ints w1 u (ints (arr p b)) → Does Try.prog 78 [u, .func (.func 85) [].toArray [.pointer (some ⟨b1, 0, none⟩), .pointer (some ⟨b2, 0, none⟩), .pointer (some ⟨b3, 0, none⟩)].toArray] w1 (Ret w1 (.bool true)) := by
          rw [hga]; exact hcon
        clear hcon hcl
        focus
          have szE8 := E8.size; have szE7 := E7.size; have szE6 := E6.size; have szE5 := E5.size; have szE4 := E4.size; have szE3 := E3.size; have szE2 := E2.size; have szE1 := E1.size; refine W_seq ?_; refine W_region rfl ?_
          refine Wo rfl (opv_lss rfl rfl) ?_; refine Wo_nil ?_; refine W_seq ?_; refine W_cond_dec rfl (fun h1 => ?_) (fun h1 => ?_); refine W_skip ?_; refine W_seq ?_; refine W_block ?_; refine W_seq ?_; refine W_region rfl ?_
          refine Wo_get Try.underlying38 Try.sizeOf3 Try.isAgg3 rfl (fun _ => rfl) rfl (Owned.read hO1) E8 rfl (by first | omega | (simp <;> omega)) ?_; rintro _ _ rfl; refine Wo_alloc rfl Try.zeroValue3 rfl ?_; rintro b3 w7 hb3 E9 hB3
          have hlb3 := hB3.lt; have hs5 := E9.size; refine Wo_st (v := .int _ _) rfl Try.sizeOf3 rfl rfl rfl hB3 (by decide) (by omega) (((E4.trans E7).trans E8).trans E9) ?_; rintro w8 E10 hB3 K2 hz2
          have E11 := (((E5.trans E7).trans E8).trans E9).wroteAt (((E4.trans E7).trans E8).trans E9) E10 K2 hz2 (by omega); have szE11 := E11.size
          have E12 := (((E6.trans E7).trans E8).trans E9).wroteAt (((E4.trans E7).trans E8).trans E9) E10 K2 hz2 (by omega); have szE12 := E12.size
          have E13 := ((E7.trans E8).trans E9).wroteAt (((E4.trans E7).trans E8).trans E9) E10 K2 hz2 (by omega); have szE13 := E13.size; have E14 := (E8.trans E9).wroteAt (((E4.trans E7).trans E8).trans E9) E10 K2 hz2 (by omega)
          have szE14 := E14.size; have E15 := E9.wroteAt (((E4.trans E7).trans E8).trans E9) E10 K2 hz2 (by omega); have szE15 := E15.size; simp only [List.set] at hB3; have hO1 := (hO1.toB.ext (E8.trans E9)).wrote K2 (by omega)
          have hB1 := (hB1.ext (E8.trans E9)).of_heap (K2 _ (by omega)); have hB2' := (hB2'.ext (E8.trans E9)).of_heap (K2 _ (by omega)); refine Wo_nil ?_; refine W_seq ?_; refine W_seq ?_; refine W_region rfl ?_
          refine Wo (v := .slice _ _ _) rfl (opv_load Try.isAgg30 rfl (hB1.cell rfl)) ?_; refine Wo rfl (opv_move (v := .int _ _) rfl) ?_
          refine Wo_call rfl (opc2 (a := .slice _ _ _) (b := .int _ _) Try.call79 rfl rfl) (harr _ _ _ ((Mono.mono E10 h)) (by assumption)) ?_; rintro u2 w9 ⟨E16, hO2⟩; have hs6 := E16.size; refine Wo rfl (opv_makeFunc rfl rfl) ?_
          refine Wo_call rfl (opc2 (a := u2) (b := .func _ _ _) Try.call78 rfl rfl) (hcon' _ _ _ _ _ ((E10.trans E16)) ((hB1.ext E16)) ((hB3.ext E16)) ((hB2'.ext E16)) ((Owned.read hO2))) ?_; rintro _ w10 ⟨rfl, E17⟩; have hs7 := E17.size
          refine Wo_nil ?_; refine W_cond_true rfl ?_; refine W_exit ?_; refine exitX_same ?_; refine W_region rfl ?_; refine Wo rfl (opv_add rfl rfl (by omega)) ?_; refine Wo rfl (opv_move (v := .int _ _) rfl) ?_; refine Wo_nil ?_
          rotate_left; (exfalso; omega)
        refine ⟨(k + 1), by repeat (first | exact trivial | refine And.intro rfl ?_), by repeat (first | with_reducible exact Same.refl | refine Same.upd rfl ?_ | refine Same.upds rfl ?_ | refine Same.mix rfl ?_), ?_, ?_⟩
        · refine ⟨E14.trans (E16.trans E17), by omega, fun i hi => ?_⟩
          rw [hts] at hi
          rcases List.mem_append.1 hi with hi | hi
          · exact hg i hi
          · rw [List.mem_singleton.1 hi, ← hmd]; simpa [List.any_eq_true] using hany
        · omega
      | false =>
        rw [hany] at hcon
        have hcon' : ∀ (w1 : World) (u : Value) (b1 b2 b3 : Nat), Ext w w1 → Blk w1 b1 [.slice pa p.length pc] → Blk w1 b2 [.int .i64 ((ints (arr p a))[k]'(by omega))] → Blk w1 b3 [.int .i64 (n : Int)] → Ints w1 u (ints (arr p b)) → Does Try.prog 78 [u, .func (.func 85) [].toArray [.pointer (some ⟨b1, 0, none⟩), .pointer (some ⟨b2, 0, none⟩), .pointer (some ⟨b3, 0, none⟩)].toArray] w1 (Ret w1 (.bool false)) := by
          rw [hga]; exact hcon
        have hbs : ∀ j ∈ arr p b, bsm p n m j = false := by simpa [List.any_eq_false] using hany
        have hfin : (apF p (r + 1) a b).enc = [83] ++ (conj ((arr p b).map (apF p r m))).enc := by
          have e := gd_first (b := b) (n := n) hmm hbs fun i hi hl => by
            refine hg i ?_
            obtain ⟨q, hq, rfl⟩ := List.getElem_of_mem hi
            rw [List.mem_take_iff_getElem]
            have hs := List.pairwise_iff_getElem.1 (arr_sorted p a)
            refine ⟨q, ?_, rfl⟩
            rcases Nat.lt_trichotomy q k with h | h | h
            · omega
            · subst h; omega
            · have := hs k q hkl hq h; omega
          rw [hn] at e
          simp only [apF, e]; rfl
        clear hcon hcl
        focus
          have szE8 := E8.size; have szE7 := E7.size; have szE6 := E6.size; have szE5 := E5.size; have szE4 := E4.size; have szE3 := E3.size; have szE2 := E2.size; have szE1 := E1.size; refine W_seq ?_; refine W_region rfl ?_
          refine Wo rfl (opv_lss rfl rfl) ?_; refine Wo_nil ?_; refine W_seq ?_; refine W_cond_dec rfl (fun h1 => ?_) (fun h1 => ?_); refine W_skip ?_; refine W_seq ?_; refine W_block ?_; refine W_seq ?_; refine W_region rfl ?_
          refine Wo_get Try.underlying38 Try.sizeOf3 Try.isAgg3 rfl (fun _ => rfl) rfl (Owned.read hO1) E8 rfl (by first | omega | (simp <;> omega)) ?_; rintro _ _ rfl; refine Wo_alloc rfl Try.zeroValue3 rfl ?_; rintro b3 w7 hb3 E9 hB3
          have hlb3 := hB3.lt; have hs5 := E9.size; refine Wo_st (v := .int _ _) rfl Try.sizeOf3 rfl rfl rfl hB3 (by decide) (by omega) (((E4.trans E7).trans E8).trans E9) ?_; rintro w8 E10 hB3 K2 hz2
          have E11 := (((E5.trans E7).trans E8).trans E9).wroteAt (((E4.trans E7).trans E8).trans E9) E10 K2 hz2 (by omega); have szE11 := E11.size
          have E12 := (((E6.trans E7).trans E8).trans E9).wroteAt (((E4.trans E7).trans E8).trans E9) E10 K2 hz2 (by omega); have szE12 := E12.size
          have E13 := ((E7.trans E8).trans E9).wroteAt (((E4.trans E7).trans E8).trans E9) E10 K2 hz2 (by omega); have szE13 := E13.size; have E14 := (E8.trans E9).wroteAt (((E4.trans E7).trans E8).trans E9) E10 K2 hz2 (by omega)
          have szE14 := E14.size; have E15 := E9.wroteAt (((E4.trans E7).trans E8).trans E9) E10 K2 hz2 (by omega); have szE15 := E15.size; simp only [List.set] at hB3; have hO1 := (hO1.toB.ext (E8.trans E9)).wrote K2 (by omega)
          have hB1 := (hB1.ext (E8.trans E9)).of_heap (K2 _ (by omega)); have hB2' := (hB2'.ext (E8.trans E9)).of_heap (K2 _ (by omega)); refine Wo_nil ?_; refine W_seq ?_; refine W_seq ?_; refine W_region rfl ?_
          refine Wo (v := .slice _ _ _) rfl (opv_load Try.isAgg30 rfl (hB1.cell rfl)) ?_; refine Wo rfl (opv_move (v := .int _ _) rfl) ?_
          refine Wo_call rfl (opc2 (a := .slice _ _ _) (b := .int _ _) Try.call79 rfl rfl) (harr _ _ _ ((Mono.mono E10 h)) (by assumption)) ?_; rintro u2 w9 ⟨E16, hO2⟩; have hs6 := E16.size; refine Wo rfl (opv_makeFunc rfl rfl) ?_
          refine Wo_call rfl (opc2 (a := u2) (b := .func _ _ _) Try.call78 rfl rfl) (hcon' _ _ _ _ _ ((E10.trans E16)) ((hB1.ext E16)) ((hB3.ext E16)) ((hB2'.ext E16)) ((Owned.read hO2))) ?_; rintro _ w10 ⟨rfl, E17⟩; have hs7 := E17.size
          refine Wo_nil ?_; refine W_cond_false rfl ?_; refine W_skip ?_; refine W_seq ?_; refine W_region rfl ?_; refine Wo rfl (opv_assign (v := .string _) rfl) ?_; refine Wo_nil ?_; refine W_seq ?_; refine W_seq ?_; refine W_region rfl ?_
          refine Wo (v := .slice _ _ _) rfl (opv_load Try.isAgg30 rfl ((hB1.ext (E16.trans E17)).cell rfl)) ?_; refine Wo rfl (opv_move (v := .int _ _) rfl) ?_
          refine Wo_call rfl (opc2 (a := .slice _ _ _) (b := .int _ _) Try.call79 rfl rfl) (harr _ _ _ ((Mono.mono ((E10.trans E16).trans E17) h)) (by assumption)) ?_; rintro u3 w11 ⟨E18, hO3⟩; have hs8 := E18.size
          refine Wo rfl (opv_len Try.underlying38 rfl (Owned.read hO3)) ?_; refine Wo rfl (opv_move (v := .int _ _) rfl) ?_; refine Wo_nil ?_; refine W_block ?_; rotate_left; (exfalso; omega)
        rw [hga] at hB3
        clear hcon'
        refine W_loop [10, 12, 34, 35, 36, 37, 38, 39, 40, 41, 42, 43, 44, 45, 46, 47, 48, 49, 50, 51, 52, 53] (fun (j, o) => [(34, .int .i64 (j : Nat)), (10, str o)]) (fun (j, o) w' => Ext w11 w' ∧ j ≤ (arr p b).length ∧ o = apL p r m ((arr p b).take j)) (fun x => (arr p b).length - x.1) (0, []) (by repeat (first | exact trivial | refine And.intro rfl ?_)) ?_ ?_
        · exact ⟨Ext.refl _, Nat.zero_le _, by simp [apL]⟩
        rintro ⟨j, o⟩ ρk w12 ⟨E19, hj, ho⟩
        by_cases hjl : j < (arr p b).length
        · have hjm := List.getElem_mem hjl
          have hgb := ints_get2 hjl
          have htb := take_snoc _ _ hjl
          obtain ⟨q, hq⟩ : ∃ q, q = (arr p b)[j] := ⟨_, rfl⟩
          rw [← hq] at hgb hjm htb
          have hql := arr_lt hp hb hjm
          obtain ⟨hsk, hmk⟩ := mu_part hs (k := m) (j := q) (by rw [← hn]; exact hbs q hjm)
          have k3 : ∀ (w : World) (pv : Value), ESl Ints w pv p → Does Try.prog 68 [pv, .int .i64 (m : Int), .int .i64 ((ints (arr p b))[j]'(by omega))] w (Ret w (str (apF p r m q).enc)) := by
            rw [hgb]; exact fun w pv h => ih (by omega) w pv m q h hml hql hsk (by omega)
          have hel := apF_len' hp (r := r) (by omega) hml hql
          have hol := apL_len hp (r := r) (k := m) (l := (arr p b).take j) (by omega) hml (fun i hi => arr_lt hp hb (List.mem_of_mem_take hi)) (by rw [List.length_take]; omega)
          rw [← ho] at hol
          by_cases hz : (arr p b).take j = []
          · have e1 := apL_one (p := p) (r := r) (k := m) q
            rw [hz] at htb
            rw [← htb] at e1
            rw [hz] at ho
            have ho' : o = [] := ho
            clear ho
            subst ho'
            generalize (apF p r m q).enc = t at *
            focus
              have szE19 := E19.size; have szE18 := E18.size; have szE17 := E17.size; have szE16 := E16.size; have szE15 := E15.size; have szE14 := E14.size; have szE13 := E13.size; have szE12 := E12.size; have szE11 := E11.size
              have szE10 := E10.size; have szE9 := E9.size; have szE8 := E8.size; have szE7 := E7.size; have szE6 := E6.size; have szE5 := E5.size; have szE4 := E4.size; have szE3 := E3.size; have szE2 := E2.size; have szE1 := E1.size
              refine W_seq ?_; refine W_region rfl ?_; refine Wo rfl (opv_lss rfl rfl) ?_; refine Wo_nil ?_; refine W_seq ?_; refine W_cond_dec rfl (fun h2 => ?_) (fun h2 => ?_); refine W_skip ?_; refine W_seq ?_; refine W_block ?_
              refine W_seq ?_; refine W_region rfl ?_; refine Wo_get Try.underlying38 Try.sizeOf3 Try.isAgg3 rfl (fun _ => rfl) rfl (Owned.read hO3) E19 rfl (by first | omega | (simp <;> omega)) ?_; rintro _ _ rfl
              refine Wo rfl (opv_assign (v := .int _ _) rfl) ?_; refine Wo_nil ?_; refine W_seq ?_; refine W_region rfl ?_; refine Wo rfl (opv_move (v := .string _) rfl) ?_; refine Wo rfl (opv_eql_str rfl rfl) ?_; refine Wo_nil ?_
              refine W_cond_dec rfl (fun h3 => ?_) (fun h3 => ?_); refine W_region rfl ?_; refine Wo (v := .slice _ _ _) rfl (opv_load Try.isAgg30 rfl ((hB1.ext (((E16.trans E17).trans E18).trans E19)).cell rfl)) ?_
              refine Wo (v := .int _ _) rfl (opv_load Try.isAgg3 rfl ((hB3.ext (((E16.trans E17).trans E18).trans E19)).cell rfl)) ?_; refine Wo rfl (opv_move (v := .int _ _) rfl) ?_
              refine Wo_call rfl (opc3 (a := .slice _ _ _) (b := .int _ _) (c := .int _ _) Try.call68 rfl rfl rfl) (k3 _ _ ((Mono.mono ((((E10.trans E16).trans E17).trans E18).trans E19) h))) ?_; rintro _ w13 ⟨rfl, E20⟩; have hs9 := E20.size
              refine Wo rfl (opv_assign (v := .string _) rfl) ?_; refine Wo_nil ?_; refine W_region rfl ?_; refine Wo rfl (opv_add rfl rfl (by omega)) ?_; refine Wo rfl (opv_move (v := .int _ _) rfl) ?_; refine Wo_nil ?_; rotate_left
              contradiction; (exfalso; omega)
            refine ⟨((j + 1, t)), by repeat (first | exact trivial | refine And.intro rfl ?_), by repeat (first | with_reducible exact Same.refl | refine Same.upd rfl ?_ | refine Same.upds rfl ?_ | refine Same.mix rfl ?_), ?_, ?_⟩
            · exact ⟨E19.trans E20, by omega, e1.symm⟩
            · simp only; omega
          · have e1 := apL_more (p := p) (r := r) (k := m) (j := q) hz
            rw [← htb, ← ho] at e1
            have e0 := apL_pos (p := p) (r := r) (k := m) hz
            rw [← ho] at e0
            generalize (apF p r m q).enc = t at *
            focus
              have szE19 := E19.size; have szE18 := E18.size; have szE17 := E17.size; have szE16 := E16.size; have szE15 := E15.size; have szE14 := E14.size; have szE13 := E13.size; have szE12 := E12.size; have szE11 := E11.size
              have szE10 := E10.size; have szE9 := E9.size; have szE8 := E8.size; have szE7 := E7.size; have szE6 := E6.size; have szE5 := E5.size; have szE4 := E4.size; have szE3 := E3.size; have szE2 := E2.size; have szE1 := E1.size
              refine W_seq ?_; refine W_region rfl ?_; refine Wo rfl (opv_lss rfl rfl) ?_; refine Wo_nil ?_; refine W_seq ?_; refine W_cond_dec rfl (fun h2 => ?_) (fun h2 => ?_); refine W_skip ?_; refine W_seq ?_; refine W_block ?_
              refine W_seq ?_; refine W_region rfl ?_; refine Wo_get Try.underlying38 Try.sizeOf3 Try.isAgg3 rfl (fun _ => rfl) rfl (Owned.read hO3) E19 rfl (by first | omega | (simp <;> omega)) ?_; rintro _ _ rfl
              refine Wo rfl (opv_assign (v := .int _ _) rfl) ?_; refine Wo_nil ?_; refine W_seq ?_; refine W_region rfl ?_; refine Wo rfl (opv_move (v := .string _) rfl) ?_; refine Wo rfl (opv_eql_str rfl rfl) ?_; refine Wo_nil ?_
              refine W_cond_dec rfl (fun h3 => ?_) (fun h3 => ?_); contradiction; refine W_region rfl ?_; refine Wo rfl (opv_move (v := .string _) rfl) ?_; refine Wo rfl (opv_add_str rfl rfl (by simp <;> omega)) ?_
              refine Wo rfl (opv_add_str rfl rfl (by simp <;> omega)) ?_; refine Wo (v := .slice _ _ _) rfl (opv_load Try.isAgg30 rfl ((hB1.ext (((E16.trans E17).trans E18).trans E19)).cell rfl)) ?_
              refine Wo (v := .int _ _) rfl (opv_load Try.isAgg3 rfl ((hB3.ext (((E16.trans E17).trans E18).trans E19)).cell rfl)) ?_; refine Wo rfl (opv_move (v := .int _ _) rfl) ?_
              refine Wo_call rfl (opc3 (a := .slice _ _ _) (b := .int _ _) (c := .int _ _) Try.call68 rfl rfl rfl) (k3 _ _ ((Mono.mono ((((E10.trans E16).trans E17).trans E18).trans E19) h))) ?_; rintro _ w13 ⟨rfl, E20⟩; have hs9 := E20.size
              refine Wo rfl (opv_add_str rfl rfl (by simp <;> omega)) ?_; refine Wo rfl (opv_add_str rfl rfl (by simp <;> omega)) ?_; refine Wo rfl (opv_assign (v := .string _) rfl) ?_; refine Wo_nil ?_; refine W_region rfl ?_
              refine Wo rfl (opv_add rfl rfl (by omega)) ?_; refine Wo rfl (opv_move (v := .int _ _) rfl) ?_; refine Wo_nil ?_; rotate_left; (exfalso; omega)
            refine ⟨((j + 1, [40] ++ o ++ [38] ++ t ++ [41])), by repeat (first | exact trivial | refine And.intro rfl ?_), by repeat (first | with_reducible exact Same.refl | refine Same.upd rfl ?_ | refine Same.upds rfl ?_ | refine Same.mix rfl ?_), ?_, ?_⟩
            · exact ⟨E19.trans E20, by omega, e1.symm⟩
            · simp only; omega
        · obtain rfl : j = (arr p b).length := by omega
          have hol := apL_len hp (r := r) (k := m) (l := (arr p b).take (arr p b).length) (by omega) hml (fun i hi => arr_lt hp hb (List.mem_of_mem_take hi)) (by rw [List.length_take]; omega)
          rw [← ho] at hol
          rw [List.take_length] at ho
          rw [hfin]
          by_cases hz : arr p b = []
          · rw [hz] at ho ⊢
            have ho' : o = [] := ho
            subst ho'
            focus
              have szE19 := E19.size; have szE18 := E18.size; have szE17 := E17.size; have szE16 := E16.size; have szE15 := E15.size; have szE14 := E14.size; have szE13 := E13.size; have szE12 := E12.size; have szE11 := E11.size
              have szE10 := E10.size; have szE9 := E9.size; have szE8 := E8.size; have szE7 := E7.size; have szE6 := E6.size; have szE5 := E5.size; have szE4 := E4.size; have szE3 := E3.size; have szE2 := E2.size; have szE1 := E1.size
              refine W_seq ?_; refine W_region rfl ?_; refine Wo rfl (opv_lss rfl rfl) ?_; refine Wo_nil ?_; refine W_seq ?_; refine W_cond_dec rfl (fun h2 => ?_) (fun h2 => ?_); contradiction; refine W_exit ?_; refine exitX_same ?_
              refine W_seq ?_; refine W_seq ?_; refine W_region rfl ?_; refine Wo rfl (opv_move (v := .string _) rfl) ?_; refine Wo rfl (opv_eql_str rfl rfl) ?_; refine Wo_nil ?_; refine W_cond_dec rfl (fun h3 => ?_) (fun h3 => ?_)
              refine W_region rfl ?_; refine Wo rfl (opv_assign (v := .string _) rfl) ?_; refine Wo_nil ?_; refine W_seq ?_; refine W_region rfl ?_; refine Wo rfl (opv_move (v := .string _) rfl) ?_
              refine Wo rfl (opv_add_str rfl rfl (by simp <;> omega)) ?_; refine Wo rfl (opv_assign (v := .string _) rfl) ?_; refine Wo_nil ?_; refine W_ret ?_; exact ⟨rfl, ((((E10.trans E16).trans E17).trans E18).trans E19)⟩; contradiction
          · have e0 := apL_pos (p := p) (r := r) (k := m) hz
            rw [← ho] at e0
            rw [apL_ne hz] at ho
            rw [← ho]
            focus
              have szE19 := E19.size; have szE18 := E18.size; have szE17 := E17.size; have szE16 := E16.size; have szE15 := E15.size; have szE14 := E14.size; have szE13 := E13.size; have szE12 := E12.size; have szE11 := E11.size
              have szE10 := E10.size; have szE9 := E9.size; have szE8 := E8.size; have szE7 := E7.size; have szE6 := E6.size; have szE5 := E5.size; have szE4 := E4.size; have szE3 := E3.size; have szE2 := E2.size; have szE1 := E1.size
              refine W_seq ?_; refine W_region rfl ?_; refine Wo rfl (opv_lss rfl rfl) ?_; refine Wo_nil ?_; refine W_seq ?_; refine W_cond_dec rfl (fun h2 => ?_) (fun h2 => ?_); (exfalso; omega); refine W_exit ?_; refine exitX_same ?_
              refine W_seq ?_; refine W_seq ?_; refine W_region rfl ?_; refine Wo rfl (opv_move (v := .string _) rfl) ?_; refine Wo rfl (opv_eql_str rfl rfl) ?_; refine Wo_nil ?_; refine W_cond_dec rfl (fun h3 => ?_) (fun h3 => ?_); contradiction
              refine W_skip ?_; refine W_seq ?_; refine W_region rfl ?_; refine Wo rfl (opv_move (v := .string _) rfl) ?_; refine Wo rfl (opv_add_str rfl rfl (by simp <;> omega)) ?_; refine Wo rfl (opv_assign (v := .string _) rfl) ?_
              refine Wo_nil ?_; refine W_ret ?_; exact ⟨rfl, ((((E10.trans E16).trans E17).trans E18).trans E19)⟩
    · obtain rfl : k = (arr p a).length := by omega
      rw [List.take_length] at hg
      have e := gd_not (b := b) (n := n) hg
      rw [hn] at e
      obtain ⟨hs2, hm2⟩ := mu_N hs e
      have k3 : ∀ (w : World) (pv : Value), ESl Ints w pv p → Does Try.prog 68 [pv, .int .i64 (b : Int), .int .i64 (a : Int)] w (Ret w (str (apF p r b a).enc)) := fun w pv h => ih (by omega) w pv b a h hb ha hs2 (by omega)
      have hel := apF_len' hp (r := r) (by omega) hb ha
      have hfin : (apF p (r + 1) a b).enc = [33] ++ (apF p r b a).enc := by simp only [apF, e]; rfl
      rw [hfin]
      generalize (apF p r b a).enc = t at *
      focus
        have szE8 := E8.size; have szE7 := E7.size; have szE6 := E6.size; have szE5 := E5.size; have szE4 := E4.size; have szE3 := E3.size; have szE2 := E2.size; have szE1 := E1.size; refine W_seq ?_; refine W_region rfl ?_
        refine Wo rfl (opv_lss rfl rfl) ?_; refine Wo_nil ?_; refine W_seq ?_; refine W_cond_dec rfl (fun h1 => ?_) (fun h1 => ?_); (exfalso; omega); refine W_exit ?_; refine exitX_same ?_; refine W_seq ?_; refine W_region rfl ?_
        refine Wo (v := .slice _ _ _) rfl (opv_load Try.isAgg30 rfl ((hB1.ext E8).cell rfl)) ?_; refine Wo rfl (opv_move (v := .int _ _) rfl) ?_; refine Wo rfl (opv_move (v := .int _ _) rfl) ?_
        refine Wo_call rfl (opc3 (a := .slice _ _ _) (b := .int _ _) (c := .int _ _) Try.call68 rfl rfl rfl) (k3 _ _ ((Mono.mono ((E4.trans E7).trans E8) h))) ?_; rintro _ w7 ⟨rfl, E9⟩; have hs5 := E9.size
        refine Wo rfl (opv_add_str rfl rfl (by simp <;> omega)) ?_; refine Wo rfl (opv_assign (v := .string _) rfl) ?_; refine Wo_nil ?_; refine W_ret ?_; exact ⟨rfl, (((E4.trans E7).trans E8).trans E9)⟩

end Go.Proofs.Ytjdfnngmbaojjaa
