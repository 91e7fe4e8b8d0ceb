/- Walks: rounds of answering, the clever side. -/
import Derived.Test.YtjdfnngmbaojjaaHsWBisS
import Derived.Test.YtjdfnngmbaojjaaHsWFun
import Derived.Test.YtjdfnngmbaojjaaHsHeld
namespace Go.Proofs.Ytjdfnngmbaojjaa
open Go.Hs
set_option maxRecDepth 10000
set_option maxHeartbeats 4000000
set_option linter.unusedVariables false
set_option linter.unusedSimpArgs false
theorem ints_any2 (l : List Nat) (g : Int → Bool) : (ints l).any g = l.any fun x => g (x : Int) := by
  unfold ints; rw [List.any_map]; rfl
theorem ints_get2 {l : List Nat} {k : Nat} (h : k < l.length) : (ints l)[k]'(by rw [ints_len]; exact h) = ((l[k] : Nat) : Int) := by simp [ints]
theorem arr_le5 {p : List (List Int)} (hp : Pic p) {i : Nat} (hi : i < p.length) : (arr p i).length ≤ 5 := by
  have h8 := arrR_len (p.getD i [])
  rw [getD_lt (by omega), hp.row (by omega)] at h8
  have := hp.2.1
  unfold arr; rw [getD_lt (by omega)]; omega

theorem answered_ok (w : World) (v v' : Value) (p : List (List Int)) (h : ESl Ints w v p) (hp : Pic p) (S : Nat → Nat → Bool) (h' : ESl Ints w v' (matV p S)) (a b : Nat) (ha : a < p.length) (hb : b < p.length) :
    Does Try.prog 88 [v, v', .int .i64 (a : Int), .int .i64 (b : Int)] w (Ret w (.bool (mch p S a b && (arr p b).all fun y => (arr p a).any fun x => S x y))) := by
  have hp5 := hp.2.1
  have hml := matV_len (p := p) S
  obtain ⟨qa, qc, rfl, _⟩ := id h'
  have harr : ∀ (w : World) (pv : Value) (z : Nat), ESl Ints w pv p → z < p.length → Does Try.prog 79 [pv, .int .i64 (z : Int)] w (RetO w XI (ints (arr p z))) := fun w pv z h hz =>
    arrowsOf_ok w pv p h (z : Int) (by omega) (by rw [getD_lt (by omega), hp.row (by omega)]; omega)
  have hcl1 : ∀ (w1 : World) (b3 b4 x y : Nat), Ext w w1 → Blk w1 b3 [.slice qa (matV p S).length qc] → Blk w1 b4 [.int .i64 (x : Int)] → x < p.length → y < p.length → Does Try.prog 91 [.int .i64 (y : Int), .pointer (some ⟨b3, 0, none⟩), .pointer (some ⟨b4, 0, none⟩)] w1 (Ret w1 (.bool (S x y))) := by
    intro w1 b3 b4 x y E0 hB3 hB4 hx hy
    have hmr := matV_rlen (p := p) (S := S) hx
    have hme := matV_at (p := p) (S := S) hx hy
    refine fn_of_W1 Try.func91 rfl Try.results91 Try.ntmps91 rfl ?_
    focus
      have szE0 := E0.size; refine W_seq ?_; refine W_region rfl ?_; refine Wo rfl (opv_assign (v := .bool _) rfl) ?_; refine Wo_nil ?_; refine W_seq ?_; refine W_region rfl ?_
      refine Wo (v := .slice _ _ _) rfl (opv_load Try.isAgg30 rfl (hB3.cell rfl)) ?_; refine Wo (v := .int _ _) rfl (opv_load Try.isAgg3 rfl (hB4.cell rfl)) ?_
      refine Wo_get Try.underlying30 Try.sizeOf38 Try.isAgg38 rfl (fun _ => rfl) rfl h' E0 rfl (by first | omega | (simp <;> omega)) ?_; rintro _ u1 hu1; refine Wo rfl (opv_move (v := .int _ _) rfl) ?_
      refine Wo_get Try.underlying38 Try.sizeOf3 Try.isAgg3 rfl (fun _ => rfl) rfl hu1 E0 rfl (by first | omega | (simp <;> omega)) ?_; rintro _ _ rfl; refine Wo rfl (opv_eql rfl rfl) ?_; refine Wo rfl (opv_assign (v := .bool _) rfl) ?_
      refine Wo_nil ?_; refine W_ret ?_; refine at_ret (v := .bool _) rfl ?_; refine ⟨congrArg Value.bool ?_, (Ext.refl _)⟩
    all_goals
      rw [hme]
      cases S x y <;> rfl
  have hcl2 : ∀ (w1 : World) (b3 b4 x y : Nat), Ext w w1 → Blk w1 b3 [.slice qa (matV p S).length qc] → Blk w1 b4 [.int .i64 (y : Int)] → x < p.length → y < p.length → Does Try.prog 92 [.int .i64 (x : Int), .pointer (some ⟨b3, 0, none⟩), .pointer (some ⟨b4, 0, none⟩)] w1 (Ret w1 (.bool (S x y))) := by
    intro w1 b3 b4 x y E0 hB3 hB4 hx hy
    have hmr := matV_rlen (p := p) (S := S) hx
    have hme := matV_at (p := p) (S := S) hx hy
    refine fn_of_W1 Try.func92 rfl Try.results92 Try.ntmps92 rfl ?_
    focus
      have szE0 := E0.size; refine W_seq ?_; refine W_region rfl ?_; refine Wo rfl (opv_assign (v := .bool _) rfl) ?_; refine Wo_nil ?_; refine W_seq ?_; refine W_draw mixed (by kernel_rfl) rfl ?_
      refine Wq_o (v := .slice _ _ _) rfl (fun w' hw' => opv_load Try.isAgg30 rfl ((hB3.ext hw').cell rfl)) ?_; refine Wq_o rfl (fun _ _ => opv_move (v := .int _ _) rfl) ?_
      refine Wq_get Try.underlying30 Try.sizeOf38 Try.isAgg38 rfl (fun _ => rfl) rfl h' E0 rfl (by first | omega | (simp <;> omega)) ?_; rintro _ u1 hu1
      refine Wq_o (v := .int _ _) rfl (fun w' hw' => opv_load Try.isAgg3 rfl ((hB4.ext hw').cell rfl)) ?_; refine Wq_get Try.underlying38 Try.sizeOf3 Try.isAgg3 rfl (fun _ => rfl) rfl hu1 E0 rfl (by first | omega | (simp <;> omega)) ?_
      rintro _ _ rfl; refine Wq_o rfl (fun _ _ => opv_eql rfl rfl) ?_; refine Wq_o rfl (fun _ _ => opv_assign (v := .bool _) rfl) ?_; refine Wq_nil (fun w2 E1 => ?_); have hs1 := E1.size; refine W_ret ?_
      refine at_ret (v := .bool _) rfl ?_; refine ⟨congrArg Value.bool ?_, E1⟩
    all_goals
      rw [hme]
      cases S x y <;> rfl
  refine fn_of_W1 Try.func88 rfl Try.results88 Try.ntmps88 rfl ?_
  focus
    refine W_seq ?_; refine W_region rfl ?_; refine Wo_box rfl rfl rfl ?_; rintro b1 w1 hb1 E1 hB1; have hlb1 := hB1.lt; have hs1 := E1.size; refine Wo rfl (opv_assign (v := .bool _) rfl) ?_; refine Wo_nil ?_; refine W_seq ?_
    refine W_seq ?_; refine W_region rfl ?_; refine Wo rfl (opv_move (v := v) rfl) ?_; refine Wo rfl (opv_move (v := .int _ _) rfl) ?_
    refine Wo_call rfl (opc2 (a := v) (b := .int _ _) Try.call79 rfl rfl) (harr _ _ _ ((Mono.mono E1 h)) (by assumption)) ?_; rintro u1 w2 ⟨E2, hO1⟩; have hs2 := E2.size; refine Wo rfl (opv_len Try.underlying38 rfl (Owned.read hO1)) ?_
    refine Wo rfl (opv_move (v := .int _ _) rfl) ?_; refine Wo_nil ?_; refine W_block ?_
  have hla := ints_len (arr p a)
  have hlb := ints_len (arr p b)
  have ha5 := arr_le5 hp ha
  have hb5 := arr_le5 hp hb
  have hB1' : Blk w1 b1 [.slice qa (matV p S).length qc] := hB1
  have hB2' := hB1'.ext E2
  clear hB1 hB1'
  refine W_loop [8, 10, 17, 18, 19, 20, 21, 22, 23, 24, 25, 26, 27] (fun (k : Nat) => [(17, .int .i64 (k : Nat))]) (fun k w' => Ext w2 w' ∧ k ≤ (arr p a).length ∧ ((arr p a).take k).all (fun x => (arr p b).any fun y => S x y) = true) (fun x => (arr p a).length - x) 0 (by repeat (first | exact trivial | refine And.intro rfl ?_)) ?_ ?_
  · exact ⟨Ext.refl _, Nat.zero_le _, by simp⟩
  rintro k ρj w3 ⟨E3, hk, hg⟩
  by_cases hkl : k < (arr p a).length
  · have hmm := List.getElem_mem hkl
    have hga := ints_get2 hkl
    have hts := take_snoc _ _ hkl
    have hxl := ((mem_arr hp ha).1 hmm).1
    have hcon : ∀ (w1 : World) (u : Value) (b3 b4 : Nat), Ext w w1 → Blk w1 b3 [.slice qa (matV p S).length qc] → Blk w1 b4 [.int .i64 ((ints (arr p a))[k]'(by omega))] → Ints w1 u (ints (arr p b)) → Does Try.prog 78 [u, .func (.func 91) [].toArray [.pointer (some ⟨b3, 0, none⟩), .pointer (some ⟨b4, 0, none⟩)].toArray] w1 (Ret w1 (.bool ((arr p b).any fun y => S (arr p a)[k] y))) := by
      intro w1 u b3 b4 E0 hB3 hB4 hu
      rw [hga] at hB4
      have := ContainsFunc_ok w1 u _ hu 91 [.pointer (some ⟨b3, 0, none⟩), .pointer (some ⟨b4, 0, none⟩)] (fun y => S (arr p a)[k] y.toNat) Try.call91 (fun y w' hy e => by
        simp only [ints, List.mem_map] at hy
        obtain ⟨j, hj, rfl⟩ := hy
        exact hcl1 w' b3 b4 _ j (E0.trans e) (hB3.ext e) (hB4.ext e) hxl ((mem_arr hp hb).1 hj).1)
      rw [ints_any2] at this
      exact this
    focus
      have szE3 := E3.size; have szE2 := E2.size; have szE1 := E1.size; refine W_seq ?_; refine W_region rfl ?_; refine Wo rfl (opv_lss rfl rfl) ?_; refine Wo_nil ?_; refine W_seq ?_; refine W_cond_dec rfl (fun h1 => ?_) (fun h1 => ?_)
      refine W_skip ?_; refine W_seq ?_; refine W_block ?_; refine W_seq ?_; refine W_region rfl ?_
      refine Wo_get Try.underlying38 Try.sizeOf3 Try.isAgg3 rfl (fun _ => rfl) rfl (Owned.read hO1) E3 rfl (by first | omega | (simp <;> omega)) ?_; rintro _ _ rfl; refine Wo_alloc rfl Try.zeroValue3 rfl ?_; rintro b2 w4 hb2 E4 hB1
      have hlb2 := hB1.lt; have hs3 := E4.size; refine Wo_st (v := .int _ _) rfl Try.sizeOf3 rfl rfl rfl hB1 (by decide) (by omega) (((E1.trans E2).trans E3).trans E4) ?_; rintro w5 E5 hB1 K1 hz1
      have E6 := ((E2.trans E3).trans E4).wroteAt (((E1.trans E2).trans E3).trans E4) E5 K1 hz1 (by omega); have szE6 := E6.size; have E7 := (E3.trans E4).wroteAt (((E1.trans E2).trans E3).trans E4) E5 K1 hz1 (by omega)
      have szE7 := E7.size; have E8 := E4.wroteAt (((E1.trans E2).trans E3).trans E4) E5 K1 hz1 (by omega); have szE8 := E8.size; simp only [List.set] at hB1; have hO1 := (hO1.toB.ext (E3.trans E4)).wrote K1 (by omega)
      have hB2' := (hB2'.ext (E3.trans E4)).of_heap (K1 _ (by omega)); refine Wo_nil ?_; refine W_seq ?_; refine W_region rfl ?_; refine Wo rfl (opv_move (v := v) rfl) ?_; refine Wo rfl (opv_move (v := .int _ _) rfl) ?_
      refine Wo_call rfl (opc2 (a := v) (b := .int _ _) Try.call79 rfl rfl) (harr _ _ _ ((Mono.mono E5 h)) (by assumption)) ?_; rintro u2 w6 ⟨E9, hO2⟩; have hs4 := E9.size; refine Wo rfl (opv_makeFunc rfl rfl) ?_
      refine Wo_call rfl (opc2 (a := u2) (b := .func _ _ _) Try.call78 rfl rfl) (hcon _ _ _ _ ((E5.trans E9)) ((hB2'.ext E9)) ((hB1.ext E9)) ((Owned.read hO2))) ?_; rintro _ w7 ⟨rfl, E10⟩; have hs5 := E10.size
      refine Wo rfl (opv_not rfl) ?_; refine Wo_nil ?_; refine W_cond rfl (fun h2 => ?_) (fun h2 => ?_); refine W_seq ?_; refine W_region rfl ?_; refine Wo rfl (opv_assign (v := .bool _) rfl) ?_; refine Wo_nil ?_; refine W_ret ?_
      refine at_ret (v := .bool _) rfl ?_; refine ⟨congrArg Value.bool ?_, ((E5.trans E9).trans E10)⟩; rotate_left; refine W_skip ?_; refine W_region rfl ?_; refine Wo rfl (opv_add rfl rfl (by omega)) ?_
      refine Wo rfl (opv_move (v := .int _ _) rfl) ?_; refine Wo_nil ?_; rotate_left; (exfalso; omega)
    · have hz : ((arr p b).any fun y => S (arr p a)[k] y) = false := by
        cases hq : (arr p b).any fun y => S (arr p a)[k] y with
        | false => rfl
        | true => exact absurd (show (!((arr p b).any fun y => S (arr p a)[k] y)) = true by assumption) (by rw [hq]; decide)
      have hm0 : mch p S a b = false := List.all_eq_false.2 ⟨_, hmm, by rw [hz]; decide⟩
      rw [hm0]; rfl
    · have hz : ((arr p b).any fun y => S (arr p a)[k] y) = true := by
        cases hq : (arr p b).any fun y => S (arr p a)[k] y with
        | true => rfl
        | false => exact absurd (show (!((arr p b).any fun y => S (arr p a)[k] y)) = false by assumption) (by rw [hq]; decide)
      refine ⟨(k + 1), by repeat (first | exact trivial | refine And.intro rfl ?_), by repeat (first | with_reducible exact Same.refl | refine Same.upd rfl ?_ | refine Same.upds rfl ?_ | refine Same.mix rfl ?_), ?_, ?_⟩
      · refine ⟨E7.trans (E9.trans E10), by omega, ?_⟩
        rw [hts, List.all_append, hg, List.all_cons, hz]; rfl
      · omega
  · obtain rfl : k = (arr p a).length := by omega
    rw [List.take_length] at hg
    have hm1 : mch p S a b = true := hg
    rw [hm1, Bool.true_and]
    clear hg hm1 hk hkl
    focus
      have szE3 := E3.size; have szE2 := E2.size; have szE1 := E1.size; refine W_seq ?_; refine W_region rfl ?_; refine Wo rfl (opv_lss rfl rfl) ?_; refine Wo_nil ?_; refine W_seq ?_; refine W_cond_dec rfl (fun h1 => ?_) (fun h1 => ?_)
      (exfalso; omega); refine W_exit ?_; refine exitX_same ?_; refine W_seq ?_; refine W_seq ?_; refine W_region rfl ?_; refine Wo rfl (opv_move (v := v) rfl) ?_; refine Wo rfl (opv_move (v := .int _ _) rfl) ?_
      refine Wo_call rfl (opc2 (a := v) (b := .int _ _) Try.call79 rfl rfl) (harr _ _ _ ((Mono.mono ((E1.trans E2).trans E3) h)) (by assumption)) ?_; rintro u2 w4 ⟨E4, hO2⟩; have hs3 := E4.size
      refine Wo rfl (opv_len Try.underlying38 rfl (Owned.read hO2)) ?_; refine Wo rfl (opv_move (v := .int _ _) rfl) ?_; refine Wo_nil ?_; refine W_block ?_
    have hB4' := hB2'.ext (E3.trans E4)
    refine W_loop [8, 12, 32, 33, 34, 35, 36, 37, 38, 39, 40, 41, 42] (fun (k : Nat) => [(32, .int .i64 (k : Nat))]) (fun k w' => Ext w4 w' ∧ k ≤ (arr p b).length ∧ ((arr p b).take k).all (fun y => (arr p a).any fun x => S x y) = true) (fun x => (arr p b).length - x) 0 (by repeat (first | exact trivial | refine And.intro rfl ?_)) ?_ ?_
    · exact ⟨Ext.refl _, Nat.zero_le _, by simp⟩
    rintro k ρk w5 ⟨E5, hk, hg⟩
    by_cases hkl : k < (arr p b).length
    · have hmm := List.getElem_mem hkl
      have hga := ints_get2 hkl
      have hts := take_snoc _ _ hkl
      have hxl := ((mem_arr hp hb).1 hmm).1
      have hcon : ∀ (w1 : World) (u : Value) (b3 b4 : Nat), Ext w w1 → Blk w1 b3 [.slice qa (matV p S).length qc] → Blk w1 b4 [.int .i64 ((ints (arr p b))[k]'(by omega))] → Ints w1 u (ints (arr p a)) → Does Try.prog 78 [u, .func (.func 92) [].toArray [.pointer (some ⟨b3, 0, none⟩), .pointer (some ⟨b4, 0, none⟩)].toArray] w1 (Ret w1 (.bool ((arr p a).any fun x => S x (arr p b)[k]))) := by
        intro w1 u b3 b4 E0 hB3 hB4 hu
        rw [hga] at hB4
        have := ContainsFunc_ok w1 u _ hu 92 [.pointer (some ⟨b3, 0, none⟩), .pointer (some ⟨b4, 0, none⟩)] (fun x => S x.toNat (arr p b)[k]) Try.call92 (fun y w' hy e => by
          simp only [ints, List.mem_map] at hy
          obtain ⟨j, hj, rfl⟩ := hy
          exact hcl2 w' b3 b4 j _ (E0.trans e) (hB3.ext e) (hB4.ext e) ((mem_arr hp ha).1 hj).1 hxl)
        rw [ints_any2] at this
        exact this
      focus
        have szE5 := E5.size; have szE4 := E4.size; have szE3 := E3.size; have szE2 := E2.size; have szE1 := E1.size; refine W_seq ?_; refine W_region rfl ?_; refine Wo rfl (opv_lss rfl rfl) ?_; refine Wo_nil ?_; refine W_seq ?_
        refine W_cond_dec rfl (fun h2 => ?_) (fun h2 => ?_); refine W_skip ?_; refine W_seq ?_; refine W_block ?_; refine W_seq ?_; refine W_region rfl ?_
        refine Wo_get Try.underlying38 Try.sizeOf3 Try.isAgg3 rfl (fun _ => rfl) rfl (Owned.read hO2) E5 rfl (by first | omega | (simp <;> omega)) ?_; rintro _ _ rfl; refine Wo_alloc rfl Try.zeroValue3 rfl ?_; rintro b2 w6 hb2 E6 hB1
        have hlb2 := hB1.lt; have hs4 := E6.size; refine Wo_st (v := .int _ _) rfl Try.sizeOf3 rfl rfl rfl hB1 (by decide) (by omega) (((((E1.trans E2).trans E3).trans E4).trans E5).trans E6) ?_; rintro w7 E7 hB1 K1 hz1
        have E8 := ((((E2.trans E3).trans E4).trans E5).trans E6).wroteAt (((((E1.trans E2).trans E3).trans E4).trans E5).trans E6) E7 K1 hz1 (by omega); have szE8 := E8.size
        have E9 := (((E3.trans E4).trans E5).trans E6).wroteAt (((((E1.trans E2).trans E3).trans E4).trans E5).trans E6) E7 K1 hz1 (by omega); have szE9 := E9.size
        have E10 := ((E4.trans E5).trans E6).wroteAt (((((E1.trans E2).trans E3).trans E4).trans E5).trans E6) E7 K1 hz1 (by omega); have szE10 := E10.size
        have E11 := (E5.trans E6).wroteAt (((((E1.trans E2).trans E3).trans E4).trans E5).trans E6) E7 K1 hz1 (by omega); have szE11 := E11.size
        have E12 := E6.wroteAt (((((E1.trans E2).trans E3).trans E4).trans E5).trans E6) E7 K1 hz1 (by omega); have szE12 := E12.size; simp only [List.set] at hB1
        have hO1 := (hO1.toB.ext (((E3.trans E4).trans E5).trans E6)).wrote K1 (by omega); have hB2' := (hB2'.ext (((E3.trans E4).trans E5).trans E6)).of_heap (K1 _ (by omega)); have hO2 := (hO2.toB.ext (E5.trans E6)).wrote K1 (by omega)
        have hB4' := (hB4'.ext (E5.trans E6)).of_heap (K1 _ (by omega)); refine Wo_nil ?_; refine W_seq ?_; refine W_region rfl ?_; refine Wo rfl (opv_move (v := v) rfl) ?_; refine Wo rfl (opv_move (v := .int _ _) rfl) ?_
        refine Wo_call rfl (opc2 (a := v) (b := .int _ _) Try.call79 rfl rfl) (harr _ _ _ ((Mono.mono E7 h)) (by assumption)) ?_; rintro u3 w8 ⟨E13, hO3⟩; have hs5 := E13.size; refine Wo rfl (opv_makeFunc rfl rfl) ?_
        refine Wo_call rfl (opc2 (a := u3) (b := .func _ _ _) Try.call78 rfl rfl) (hcon _ _ _ _ ((E7.trans E13)) ((hB2'.ext E13)) ((hB1.ext E13)) ((Owned.read hO3))) ?_; rintro _ w9 ⟨rfl, E14⟩; have hs6 := E14.size
        refine Wo rfl (opv_not rfl) ?_; refine Wo_nil ?_; refine W_cond rfl (fun h3 => ?_) (fun h3 => ?_); refine W_seq ?_; refine W_region rfl ?_; refine Wo rfl (opv_assign (v := .bool _) rfl) ?_; refine Wo_nil ?_; refine W_ret ?_
        refine at_ret (v := .bool _) rfl ?_; refine ⟨congrArg Value.bool ?_, ((E7.trans E13).trans E14)⟩; rotate_left; refine W_skip ?_; refine W_region rfl ?_; refine Wo rfl (opv_add rfl rfl (by omega)) ?_
        refine Wo rfl (opv_move (v := .int _ _) rfl) ?_; refine Wo_nil ?_; rotate_left; (exfalso; omega)
      · have hz : ((arr p a).any fun x => S x (arr p b)[k]) = false := by
          cases hq : (arr p a).any fun x => S x (arr p b)[k] with
          | false => rfl
          | true => exact absurd (show (!((arr p a).any fun x => S x (arr p b)[k])) = true by assumption) (by rw [hq]; decide)
        exact (List.all_eq_false.2 ⟨_, hmm, by rw [hz]; decide⟩).symm
      · have hz : ((arr p a).any fun x => S x (arr p b)[k]) = true := by
          cases hq : (arr p a).any fun x => S x (arr p b)[k] with
          | true => rfl
          | false => exact absurd (show (!((arr p a).any fun x => S x (arr p b)[k])) = false by assumption) (by rw [hq]; decide)
        refine ⟨(k + 1), by repeat (first | exact trivial | refine And.intro rfl ?_), by repeat (first | with_reducible exact Same.refl | refine Same.upd rfl ?_ | refine Same.upds rfl ?_ | refine Same.mix rfl ?_), ?_, ?_⟩
        · refine ⟨E11.trans (E13.trans E14), by omega, ?_⟩
          rw [hts, List.all_append, hg, List.all_cons, hz]; rfl
        · omega
    · obtain rfl : k = (arr p b).length := by omega
      rw [List.take_length] at hg
      focus
        have szE5 := E5.size; have szE4 := E4.size; have szE3 := E3.size; have szE2 := E2.size; have szE1 := E1.size; refine W_seq ?_; refine W_region rfl ?_; refine Wo rfl (opv_lss rfl rfl) ?_; refine Wo_nil ?_; refine W_seq ?_
        refine W_cond_dec rfl (fun h2 => ?_) (fun h2 => ?_); (exfalso; omega); refine W_exit ?_; refine exitX_same ?_; refine W_seq ?_; refine W_region rfl ?_; refine Wo rfl (opv_assign (v := .bool _) rfl) ?_; refine Wo_nil ?_
        refine W_ret ?_; refine at_ret (v := .bool _) rfl ?_; refine ⟨congrArg Value.bool ?_, ((((E1.trans E2).trans E3).trans E4).trans E5)⟩
      exact hg.symm

end Go.Proofs.Ytjdfnngmbaojjaa
