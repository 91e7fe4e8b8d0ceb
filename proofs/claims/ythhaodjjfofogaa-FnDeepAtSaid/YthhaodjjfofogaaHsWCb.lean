/- Walks: who comes back, on both sides; FoundedAll. -/
import Derived.Test.YthhaodjjfofogaaHsWRchI
import Derived.Test.YthhaodjjfofogaaHsWMark
import Derived.Test.YthhaodjjfofogaaHsWFnd
import Derived.Test.YthhaodjjfofogaaHsHeld
namespace Go.Proofs.Ythhaodjjfofogaa
open Go.Hs
set_option maxRecDepth 10000
set_option maxHeartbeats 4000000
set_option linter.unusedVariables false
set_option linter.unusedSimpArgs false
theorem arr_lt5 {p : List (List Int)} (hp : Pic p) {i : Nat} (hi : i < p.length) : (arr p i).length ≤ 5 := by
  have h8 := arrR_len (p.getD i [])
  rw [getD_lt (by omega), hp.row (by omega)] at h8
  have := hp.2.1
  unfold arr; rw [getD_lt (by omega)]; omega
theorem ints_any (l : List Nat) (g : Int → Bool) : (ints l).any g = l.any fun x => g (x : Int) := by
  unfold ints; rw [List.any_map]; rfl

theorem onLoop_ok (w : World) (v : Value) (p : List (List Int)) (h : ESl Ints w v p) (hp : Pic p) (i : Nat) (hi : i < p.length) : Does Try.prog 75 [v, .int .i64 (i : Int)] w (Ret w (.bool (onl p i))) := by
  have hp5 := hp.2.1
  obtain ⟨pa, pc, rfl, _⟩ := id h
  have harr : ∀ (w1 : World) (pv : Value), ESl Ints w1 pv p → Does Try.prog 50 [pv, .int .i64 (i : Int)] w1 (RetO w1 XI (ints (arr p i))) := fun w1 pv h1 =>
    arrowsOf_ok w1 pv p h1 (i : Int) ⟨by omega, by omega⟩ (by rw [getD_lt (by omega), hp.row (by omega)]; omega)
  have hcl : ∀ (w1 : World) (b3 b4 : Nat) (x : Nat), Ext w w1 → Blk w1 b3 [.slice pa p.length pc] → Blk w1 b4 [.int .i64 (i : Int)] → x < p.length → Does Try.prog 80 [.int .i64 (x : Int), .pointer (some ⟨b3, 0, none⟩), .pointer (some ⟨b4, 0, none⟩)] w1 (Ret w1 (.bool ((rf p x).contains i))) := by
    intro w1 b3 b4 x E0 hB3 hB4 hx
    have hE : ESl Ints w1 (.slice pa p.length pc) p := Mono.mono E0 h
    have hrf : ∀ (w2 : World) (pv : Value), ESl Ints w2 pv p → Does Try.prog 73 [pv, .int .i64 (x : Int)] w2 (RetO w2 XI (ints (rf p x))) := fun w2 pv h2 => reachedFrom_ok w2 pv p h2 hp x hx
    have hmem := mem_ints (l := rf p x) (x := i)
    refine fn_of_W1 Try.func80 rfl Try.results80 Try.ntmps80 rfl ?_
    focus
      have szE0 := E0.size; refine W_seq ?_; refine W_region rfl ?_; refine Wo rfl (opv_assign (v := .bool _) rfl) ?_; refine Wo_nil ?_; refine W_seq ?_; refine W_held (fun _ => True) mixed rfl (by kernel_rfl) ?_; intro w2 E1 K1 hz1
      have hs1 := E1.size; refine Wh_take 1 rfl (by kernel_rfl) (by kernel_rfl) rfl (fun _ _ => opv_move (v := .int _ _) rfl) trivial ?_; refine Wh_all (rs := [0, 3]) (by kernel_rfl) rfl ?_; refine WhAll_cons rfl ?_ ?_
      refine Wo (v := .slice _ _ _) rfl (opv_load Try.isAgg22 rfl ((hB3.ext E1).cell rfl)) ?_; refine Wo_nil ?_; refine ⟨trivial, ?_⟩; refine Wh_all (rs := [2, 3]) (by kernel_rfl) rfl ?_; refine WhAll_cons rfl ?_ ?_
      refine Wo_call rfl (opc2 (a := .slice _ _ _) (b := .int _ _) Try.call73 rfl rfl) (hrf _ _ ((Mono.mono E1 hE))) ?_; rintro u1 w3 ⟨E2, hO1⟩; have hs2 := E2.size; refine Wo_nil ?_; refine ⟨trivial, ?_⟩
      refine Wh_all (rs := [3]) (by kernel_rfl) rfl ?_; refine WhAll_cons rfl ?_ ?_; refine Wo (v := .int _ _) rfl (opv_load Try.isAgg3 rfl ((hB4.ext (E1.trans E2)).cell rfl)) ?_; refine Wo_nil ?_; refine ⟨trivial, ?_⟩
      refine Wh_all (rs := [4]) (by kernel_rfl) rfl ?_; refine WhAll_cons rfl ?_ ?_; refine Wo_call rfl (opc2 (a := u1) (b := .int _ _) Try.call77 rfl rfl) (Contains_ok _ _ _ ((Owned.read hO1)) _) ?_; rintro _ w4 ⟨rfl, E3⟩
      have hs3 := E3.size; refine Wo_nil ?_; refine ⟨trivial, ?_⟩; refine Wh_take 5 rfl (by kernel_rfl) (by kernel_rfl) rfl (fun _ _ => opv_assign (v := .bool _) rfl) trivial ?_; refine Wh_done (by kernel_rfl) ?_; refine W_ret ?_
      refine at_ret (v := .bool _) rfl ?_; refine ⟨congrArg Value.bool ?_, ((E1.trans E2).trans E3)⟩; rotate_left; exact WhAll_nil; exact WhAll_nil; refine WhAll_cons rfl ?_ ?_
      refine Wo (v := .int _ _) rfl (opv_load Try.isAgg3 rfl ((hB4.ext E1).cell rfl)) ?_; refine Wo_nil ?_; refine ⟨trivial, ?_⟩; refine Wh_all (rs := [2]) (by kernel_rfl) rfl ?_; refine WhAll_cons rfl ?_ ?_
      refine Wo_call rfl (opc2 (a := .slice _ _ _) (b := .int _ _) Try.call73 rfl rfl) (hrf _ _ ((Mono.mono E1 hE))) ?_; rintro u1 w3 ⟨E2, hO1⟩; have hs2 := E2.size; refine Wo_nil ?_; refine ⟨trivial, ?_⟩
      refine Wh_all (rs := [4]) (by kernel_rfl) rfl ?_; refine WhAll_cons rfl ?_ ?_; refine Wo_call rfl (opc2 (a := u1) (b := .int _ _) Try.call77 rfl rfl) (Contains_ok _ _ _ ((Owned.read hO1)) _) ?_; rintro _ w4 ⟨rfl, E3⟩
      have hs3 := E3.size; refine Wo_nil ?_; refine ⟨trivial, ?_⟩; refine Wh_take 5 rfl (by kernel_rfl) (by kernel_rfl) rfl (fun _ _ => opv_assign (v := .bool _) rfl) trivial ?_; refine Wh_done (by kernel_rfl) ?_; refine W_ret ?_
      refine at_ret (v := .bool _) rfl ?_; refine ⟨congrArg Value.bool ?_, ((E1.trans E2).trans E3)⟩; rotate_left; exact WhAll_nil; exact WhAll_nil; exact WhAll_nil; refine WhAll_cons rfl ?_ ?_
      refine Wo (v := .int _ _) rfl (opv_load Try.isAgg3 rfl ((hB4.ext E1).cell rfl)) ?_; refine Wo_nil ?_; refine ⟨trivial, ?_⟩; refine Wh_all (rs := [0]) (by kernel_rfl) rfl ?_; refine WhAll_cons rfl ?_ ?_
      refine Wo (v := .slice _ _ _) rfl (opv_load Try.isAgg22 rfl ((hB3.ext E1).cell rfl)) ?_; refine Wo_nil ?_; refine ⟨trivial, ?_⟩; refine Wh_all (rs := [2]) (by kernel_rfl) rfl ?_; refine WhAll_cons rfl ?_ ?_
      refine Wo_call rfl (opc2 (a := .slice _ _ _) (b := .int _ _) Try.call73 rfl rfl) (hrf _ _ ((Mono.mono E1 hE))) ?_; rintro u1 w3 ⟨E2, hO1⟩; have hs2 := E2.size; refine Wo_nil ?_; refine ⟨trivial, ?_⟩
      refine Wh_all (rs := [4]) (by kernel_rfl) rfl ?_; refine WhAll_cons rfl ?_ ?_; refine Wo_call rfl (opc2 (a := u1) (b := .int _ _) Try.call77 rfl rfl) (Contains_ok _ _ _ ((Owned.read hO1)) _) ?_; rintro _ w4 ⟨rfl, E3⟩
      have hs3 := E3.size; refine Wo_nil ?_; refine ⟨trivial, ?_⟩; refine Wh_take 5 rfl (by kernel_rfl) (by kernel_rfl) rfl (fun _ _ => opv_assign (v := .bool _) rfl) trivial ?_; refine Wh_done (by kernel_rfl) ?_; refine W_ret ?_
      refine at_ret (v := .bool _) rfl ?_; refine ⟨congrArg Value.bool ?_, ((E1.trans E2).trans E3)⟩; rotate_left; exact WhAll_nil; exact WhAll_nil; exact WhAll_nil; exact WhAll_nil
    all_goals exact contains_ints
  have hcon : ∀ (w1 : World) (u : Value) (b3 b4 : Nat), Ext w w1 → Blk w1 b3 [.slice pa p.length pc] → Blk w1 b4 [.int .i64 (i : Int)] → Ints w1 u (ints (arr p i)) → Does Try.prog 49 [u, .func (.func 80) [].toArray [.pointer (some ⟨b3, 0, none⟩), .pointer (some ⟨b4, 0, none⟩)].toArray] w1 (Ret w1 (.bool (onl p i))) := by
    intro w1 u b3 b4 E0 hB3 hB4 hu
    have := ContainsFunc_ok w1 u _ hu 80 [.pointer (some ⟨b3, 0, none⟩), .pointer (some ⟨b4, 0, none⟩)] (fun x => (rf p x.toNat).contains i) Try.call80 (fun x w' hx e => by
      simp only [ints, List.mem_map] at hx
      obtain ⟨j, hj, rfl⟩ := hx
      exact hcl w' b3 b4 j (E0.trans e) (hB3.ext e) (hB4.ext e) ((mem_arr hp hi).1 hj).1)
    rw [ints_any] at this
    exact this
  refine fn_of_W1 Try.func75 rfl Try.results75 Try.ntmps75 rfl ?_
  focus
    refine W_seq ?_; refine W_region rfl ?_; refine Wo_box rfl rfl rfl ?_; rintro b1 w1 hb1 E1 hB1; have hlb1 := hB1.lt; have hs1 := E1.size; refine Wo_box rfl rfl rfl ?_; rintro b2 w2 hb2 E2 hB2; have hlb2 := hB2.lt
    have hs2 := E2.size; refine Wo rfl (opv_assign (v := .bool _) rfl) ?_; refine Wo_nil ?_; refine W_seq ?_; refine W_region rfl ?_; refine Wo (v := .slice _ _ _) rfl (opv_load Try.isAgg22 rfl ((hB1.ext E2).cell rfl)) ?_
    refine Wo (v := .int _ _) rfl (opv_load Try.isAgg3 rfl (hB2.cell rfl)) ?_; refine Wo_call rfl (opc2 (a := .slice _ _ _) (b := .int _ _) Try.call50 rfl rfl) (harr _ _ ((Mono.mono (E1.trans E2) h))) ?_; rintro u1 w3 ⟨E3, hO1⟩
    have hs3 := E3.size; refine Wo rfl (opv_makeFunc rfl rfl) ?_
    refine Wo_call rfl (opc2 (a := u1) (b := .func _ _ _) Try.call49 rfl rfl) (hcon _ _ _ _ (((E1.trans E2).trans E3)) ((hB1.ext (E2.trans E3))) ((hB2.ext E3)) ((Owned.read hO1))) ?_; rintro _ w4 ⟨rfl, E4⟩; have hs4 := E4.size
    refine Wo rfl (opv_assign (v := .bool _) rfl) ?_; refine Wo_nil ?_; refine W_ret ?_; exact ⟨rfl, (((E1.trans E2).trans E3).trans E4)⟩

theorem comesBack_ok (w : World) (v : Value) (p : List (List Int)) (h : ESl Ints w v p) (hp : Pic p) (i : Nat) (hi : i < p.length) : Does Try.prog 56 [v, .int .i64 (i : Int)] w (Ret w (.bool (cback p i))) := by
  have hp5 := hp.2.1
  obtain ⟨pa, pc, rfl, _⟩ := id h
  have hrf : ∀ (w2 : World) (pv : Value), ESl Ints w2 pv p → Does Try.prog 73 [pv, .int .i64 (i : Int)] w2 (RetO w2 XI (ints (rf p i))) := fun w2 pv h2 => reachedFrom_ok w2 pv p h2 hp i hi
  have hcl : ∀ (w1 : World) (b3 x : Nat), Ext w w1 → Blk w1 b3 [.slice pa p.length pc] → x < p.length → Does Try.prog 74 [.int .i64 (x : Int), .pointer (some ⟨b3, 0, none⟩)] w1 (Ret w1 (.bool (onl p x))) := by
    intro w1 b3 x E0 hB3 hx
    have hE : ESl Ints w1 (.slice pa p.length pc) p := Mono.mono E0 h
    have hon : ∀ (w2 : World) (pv : Value), ESl Ints w2 pv p → Does Try.prog 75 [pv, .int .i64 (x : Int)] w2 (Ret w2 (.bool (onl p x))) := fun w2 pv h2 => onLoop_ok w2 pv p h2 hp x hx
    refine fn_of_W1 Try.func74 rfl Try.results74 Try.ntmps74 rfl ?_
    focus
      have szE0 := E0.size; refine W_seq ?_; refine W_region rfl ?_; refine Wo rfl (opv_assign (v := .bool _) rfl) ?_; refine Wo_nil ?_; refine W_seq ?_; refine W_region rfl ?_
      refine Wo (v := .slice _ _ _) rfl (opv_load Try.isAgg22 rfl (hB3.cell rfl)) ?_; refine Wo rfl (opv_move (v := .int _ _) rfl) ?_; refine Wo_call rfl (opc2 (a := .slice _ _ _) (b := .int _ _) Try.call75 rfl rfl) (hon _ _ (hE)) ?_
      rintro _ w2 ⟨rfl, E1⟩; have hs1 := E1.size; refine Wo rfl (opv_assign (v := .bool _) rfl) ?_; refine Wo_nil ?_; refine W_ret ?_; exact ⟨rfl, E1⟩
  have hcon : ∀ (w1 : World) (u : Value) (b3 : Nat), Ext w w1 → Blk w1 b3 [.slice pa p.length pc] → Ints w1 u (ints (rf p i)) → Does Try.prog 49 [u, .func (.func 74) [].toArray [.pointer (some ⟨b3, 0, none⟩)].toArray] w1 (Ret w1 (.bool (cback p i))) := by
    intro w1 u b3 E0 hB3 hu
    have := ContainsFunc_ok w1 u _ hu 74 [.pointer (some ⟨b3, 0, none⟩)] (fun x => onl p x.toNat) Try.call74 (fun x w' hx e => by
      simp only [ints, List.mem_map] at hx
      obtain ⟨j, hj, rfl⟩ := hx
      exact hcl w' b3 j (E0.trans e) (hB3.ext e) (((mem_rf hp hi).1 hj).lt hp hi))
    rw [ints_any] at this
    exact this
  refine fn_of_W1 Try.func56 rfl Try.results56 Try.ntmps56 rfl ?_
  focus
    refine W_seq ?_; refine W_region rfl ?_; refine Wo_box rfl rfl rfl ?_; rintro b1 w1 hb1 E1 hB1; have hlb1 := hB1.lt; have hs1 := E1.size; refine Wo rfl (opv_assign (v := .bool _) rfl) ?_; refine Wo_nil ?_; refine W_seq ?_
    refine W_region rfl ?_; refine Wo (v := .slice _ _ _) rfl (opv_load Try.isAgg22 rfl (hB1.cell rfl)) ?_; refine Wo rfl (opv_move (v := .int _ _) rfl) ?_
    refine Wo_call rfl (opc2 (a := .slice _ _ _) (b := .int _ _) Try.call73 rfl rfl) (hrf _ _ ((Mono.mono E1 h))) ?_; rintro u1 w2 ⟨E2, hO1⟩; have hs2 := E2.size; refine Wo rfl (opv_makeFunc rfl rfl) ?_
    refine Wo_call rfl (opc2 (a := u1) (b := .func _ _ _) Try.call49 rfl rfl) (hcon _ _ _ ((E1.trans E2)) ((hB1.ext E2)) ((Owned.read hO1))) ?_; rintro _ w3 ⟨rfl, E3⟩; have hs3 := E3.size
    refine Wo rfl (opv_assign (v := .bool _) rfl) ?_; refine Wo_nil ?_; refine W_ret ?_; exact ⟨rfl, ((E1.trans E2).trans E3)⟩

theorem ComesBack_ok (w : World) (v : Value) (p : List (List Int)) (h : ESl Ints w v p) (hp : Pic p) (i : Nat) (hi : i < p.length) : Does Try.prog 53 [v, .int .i64 (i : Int)] w (Ret w (.bool (cback p i))) := by
  have hle := h.le
  have hp5 := hp.2.1
  have hrf : ∀ (w2 : World) (pv : Value) (x : Int), ESl Ints w2 pv p → 0 ≤ x ∧ x < p.length → Does Try.prog 72 [pv, .int .i64 x] w2 (RetO w2 XI (ints (rf p x.toNat))) := fun w2 pv x h2 hx => by
    have := spec_ReachedFrom_ok w2 pv p x h2
    rw [show rfV p x = rf p x.toNat from if_pos ⟨hp, hx⟩] at this
    exact this
  have hlen := fun x => ints_len (rf p x)
  have hle5 := fun x => rf_len (p := p) (i := x)
  refine fn_of_W1 Try.func53 rfl Try.results53 Try.ntmps53 rfl ?_
  focus
    refine W_seq ?_; refine W_region rfl ?_; refine Wo rfl (opv_assign (v := .bool _) rfl) ?_; refine Wo_nil ?_; refine W_seq ?_; refine W_region rfl ?_; refine Wo rfl (opv_move (v := v) rfl) ?_
    refine Wo rfl (opv_move (v := .int _ _) rfl) ?_; refine Wo_call rfl (opc2 (a := v) (b := .int _ _) Try.call72 rfl rfl) (hrf _ _ _ (h) (by omega)) ?_; rintro u1 w1 ⟨E1, hO1⟩; have hs1 := E1.size
    refine Wo rfl (opv_assign (v := u1) rfl) ?_; refine Wo_nil ?_; refine W_seq ?_; refine W_seq ?_; refine W_region rfl ?_; refine Wo rfl (opv_assign (v := .int _ _) rfl) ?_; refine Wo_nil ?_; refine W_block ?_
  change Owned _ XI w1 u1 (ints (rf p i)) at hO1
  refine W_loop [4, 6, 7, 8, 9, 13, 14, 15, 16, 17, 18, 19, 20, 21, 22, 23, 24, 25, 26, 27, 28, 29, 30, 31, 32, 33, 34, 35, 36, 37, 38, 39, 40, 41, 42, 43, 44, 45, 46, 47, 48, 49, 50, 51, 52, 53] (fun (k : Nat) => [(6, .int .i64 (k : Nat))]) (fun k w' => Ext w1 w' ∧ k ≤ (rf p i).length ∧ ((rf p i).take k).any (onl p) = false) (fun x => (rf p i).length - x) 0 (by repeat (first | exact trivial | refine And.intro rfl ?_)) ?_ ?_
  · exact ⟨Ext.refl _, Nat.zero_le _, by simp⟩
  rintro k ρj w2 ⟨E2, hk, hg⟩
  have hli := hlen i
  have hli5 := hle5 i
  by_cases hkl : k < (rf p i).length
  · have hum := List.getElem_mem hkl
    have hgu := ints_get hkl
    have hts := take_snoc _ _ hkl
    generalize (rf p i)[k] = u at hum hgu hts
    have hul := ((mem_rf hp hi).1 hum).lt hp hi
    have hut : ((ints (rf p i))[k]'(by omega)).toNat = u := by omega
    have hrow' := hp.row (show ((ints (rf p i))[k]'(by omega)).toNat < p.length by omega)
    have hrow := hp.row hul
    have hge : ∀ j (hj : j < p[((ints (rf p i))[k]'(by omega)).toNat].length), (p[((ints (rf p i))[k]'(by omega)).toNat])[j] = (p[u]).getD j 0 := fun j hj => by
      simp only [hut]
      rw [getD_lt (by omega)]
    have hya : onl p u = (List.range p.length).any fun j => decide (p[u].getD j 0 = 1) && (rf p j).contains u := arr_any hp hul _
    focus
      have szE2 := E2.size; have szE1 := E1.size; refine W_seq ?_; refine W_seq ?_; refine W_region rfl ?_; refine Wo rfl (opv_move (v := .int _ _) rfl) ?_; refine Wo rfl (opv_move (v := u1) rfl) ?_
      refine Wo rfl (opv_len Try.underlying24 rfl (Owned.read hO1)) ?_; refine Wo rfl (opv_lss rfl rfl) ?_; refine Wo_nil ?_; refine W_cond_dec rfl (fun h1 => ?_) (fun h1 => ?_); refine W_skip ?_; refine W_seq ?_; refine W_block ?_
      refine W_seq ?_; refine W_region rfl ?_; refine Wo rfl (opv_assign (v := .int _ _) rfl) ?_; refine Wo_nil ?_; refine W_block ?_; rotate_left; (exfalso; omega)
    refine W_loop [4, 7, 8, 9, 19, 20, 21, 22, 23, 24, 25, 26, 27, 28, 29, 30, 31, 32, 33, 34, 35, 36, 37, 38, 39, 40, 41, 42, 43, 44, 45, 46, 47, 48, 49, 50, 51, 52, 53] (fun (j : Nat) => [(7, .int .i64 (j : Nat))]) (fun j w' => Ext w2 w' ∧ j ≤ p.length ∧ ((List.range j).any fun j => decide (p[u].getD j 0 = 1) && (rf p j).contains u) = false) (fun x => p.length - x) 0 (by repeat (first | exact trivial | refine And.intro rfl ?_)) ?_ ?_
    · exact ⟨Ext.refl _, Nat.zero_le _, by simp⟩
    rintro j ρk w3 ⟨E3, hj, hgj⟩
    by_cases hjl : j < p.length
    · have hgj1 := hge j (by omega)
      have hsu := any_range_succ (fun j => decide (p[u].getD j 0 = 1) && (rf p j).contains u) j
      rw [hgj, Bool.false_or] at hsu
      have hlj := hlen j
      have hlj5 := hle5 j
      focus
        have szE3 := E3.size; have szE2 := E2.size; have szE1 := E1.size; refine W_seq ?_; refine W_seq ?_; refine W_region rfl ?_; refine Wo rfl (opv_move (v := .int _ _) rfl) ?_; refine Wo rfl (opv_move (v := v) rfl) ?_
        refine Wo rfl (opv_len Try.underlying22 rfl h) ?_; refine Wo rfl (opv_lss rfl rfl) ?_; refine Wo_nil ?_; refine W_cond_dec rfl (fun h2 => ?_) (fun h2 => ?_); refine W_skip ?_; refine W_seq ?_; refine W_block ?_; refine W_seq ?_
        refine W_seq ?_; refine W_region rfl ?_; refine Wo rfl (opv_move (v := v) rfl) ?_; refine Wo rfl (opv_move (v := u1) rfl) ?_; refine Wo rfl (opv_move (v := .int _ _) rfl) ?_
        refine Wo_get Try.underlying24 Try.sizeOf3 Try.isAgg3 rfl (fun _ => rfl) rfl (Owned.read hO1) (E2.trans E3) rfl (by first | omega | (simp <;> omega)) ?_; rintro _ _ rfl
        refine Wo_get_z Try.underlying22 Try.sizeOf24 Try.isAgg24 rfl (fun _ => rfl) rfl h ((E1.trans E2).trans E3) rfl (by first | omega | (simp <;> omega)) ?_; rintro _ u2 hu1; refine Wo rfl (opv_move (v := .int _ _) rfl) ?_
        refine Wo_get Try.underlying24 Try.sizeOf3 Try.isAgg3 rfl (fun _ => rfl) rfl hu1 ((E1.trans E2).trans E3) rfl (by first | omega | (simp <;> omega)) ?_; rintro _ _ rfl; refine Wo rfl (opv_neq rfl rfl) ?_; refine Wo_nil ?_
        refine W_cond_ndec rfl (fun h3 => ?_) (fun h3 => ?_); refine W_exit ?_; refine exitX_same ?_; refine W_region rfl ?_; refine Wo rfl (opv_move (v := .int _ _) rfl) ?_; refine Wo rfl (opv_add rfl rfl (by omega)) ?_
        refine Wo rfl (opv_assign (v := .int _ _) rfl) ?_; refine Wo_nil ?_; rotate_left; refine W_skip ?_; refine W_seq ?_; refine W_region rfl ?_; refine Wo rfl (opv_move (v := v) rfl) ?_; refine Wo rfl (opv_move (v := .int _ _) rfl) ?_
        refine Wo_call rfl (opc2 (a := v) (b := .int _ _) Try.call72 rfl rfl) (hrf _ _ _ ((Mono.mono ((E1.trans E2).trans E3) h)) (by omega)) ?_; rintro u3 w4 ⟨E4, hO2⟩; have hs2 := E4.size; refine Wo rfl (opv_assign (v := u3) rfl) ?_
        refine Wo_nil ?_; refine W_seq ?_; refine W_region rfl ?_; refine Wo rfl (opv_assign (v := .int _ _) rfl) ?_; refine Wo_nil ?_; refine W_block ?_; rotate_left; (exfalso; omega)
      · have hb : ¬ p[u].getD j 0 = 1 := by rw [← hgj1]; assumption
        refine ⟨(j + 1), by repeat (first | exact trivial | refine And.intro rfl ?_), by repeat (first | with_reducible exact Same.refl | refine Same.upd rfl ?_ | refine Same.upds rfl ?_ | refine Same.mix rfl ?_), ?_, ?_⟩
        · refine ⟨E3, by omega, ?_⟩
          rw [hsu, decide_eq_false hb]; rfl
        · omega
      · have hb : p[u].getD j 0 = 1 := by rw [← hgj1]; assumption
        change Owned _ XI w4 u3 (ints (rf p j)) at hO2
        refine W_loop [4, 9, 39, 40, 41, 42, 43, 44, 45, 46, 47, 48, 49, 50, 51, 52, 53] (fun (m : Nat) => [(9, .int .i64 (m : Nat))]) (fun m w' => Ext w4 w' ∧ m ≤ (rf p j).length ∧ u ∉ (rf p j).take m) (fun x => (rf p j).length - x) 0 (by repeat (first | exact trivial | refine And.intro rfl ?_)) ?_ ?_
        · exact ⟨Ext.refl _, Nat.zero_le _, by simp⟩
        rintro m ρm w5 ⟨E5, hm, hgm⟩
        by_cases hml : m < (rf p j).length
        · have hgj2 := ints_get hml
          have htm := take_snoc _ _ hml
          have hmm := List.getElem_mem hml
          focus
            have szE5 := E5.size; have szE4 := E4.size; have szE3 := E3.size; have szE2 := E2.size; have szE1 := E1.size; refine W_seq ?_; refine W_seq ?_; refine W_region rfl ?_; refine Wo rfl (opv_move (v := .int _ _) rfl) ?_
            refine Wo rfl (opv_move (v := u3) rfl) ?_; refine Wo rfl (opv_len Try.underlying24 rfl (Owned.read hO2)) ?_; refine Wo rfl (opv_lss rfl rfl) ?_; refine Wo_nil ?_; refine W_cond_dec rfl (fun h4 => ?_) (fun h4 => ?_); refine W_skip ?_
            refine W_seq ?_; refine W_block ?_; refine W_seq ?_; refine W_draw mixed (by kernel_rfl) rfl ?_; refine Wq_o rfl (fun _ _ => opv_move (v := u3) rfl) ?_; refine Wq_o rfl (fun _ _ => opv_move (v := .int _ _) rfl) ?_
            refine Wq_get Try.underlying24 Try.sizeOf3 Try.isAgg3 rfl (fun _ => rfl) rfl (Owned.read hO2) E5 rfl (by first | omega | (simp <;> omega)) ?_; rintro _ _ rfl; refine Wq_o rfl (fun _ _ => opv_move (v := u1) rfl) ?_
            refine Wq_o rfl (fun _ _ => opv_move (v := .int _ _) rfl) ?_
            refine Wq_get Try.underlying24 Try.sizeOf3 Try.isAgg3 rfl (fun _ => rfl) rfl (Owned.read hO1) (((E2.trans E3).trans E4).trans E5) rfl (by first | omega | (simp <;> omega)) ?_; rintro _ _ rfl
            refine Wq_o rfl (fun _ _ => opv_eql rfl rfl) ?_; refine Wq_nil (fun w6 E6 => ?_); have hs3 := E6.size; refine W_cond_dec rfl (fun h5 => ?_) (fun h5 => ?_); refine W_seq ?_; refine W_region rfl ?_
            refine Wo rfl (opv_assign (v := .bool _) rfl) ?_; refine Wo_nil ?_; refine W_ret ?_; refine at_ret (v := .bool _) rfl ?_; refine ⟨congrArg Value.bool ?_, (((((E1.trans E2).trans E3).trans E4).trans E5).trans E6)⟩; rotate_left
            refine W_skip ?_; refine W_region rfl ?_; refine Wo rfl (opv_move (v := .int _ _) rfl) ?_; refine Wo rfl (opv_add rfl rfl (by omega)) ?_; refine Wo rfl (opv_assign (v := .int _ _) rfl) ?_; refine Wo_nil ?_; rotate_left
            (exfalso; omega)
          · have e : (rf p j)[m] = u := by omega
            rw [e] at hmm
            have ho : onl p u = true := by
              rw [hya]
              refine List.any_eq_true.2 ⟨j, List.mem_range.2 hjl, ?_⟩
              rw [hb, List.contains_iff_mem.2 hmm]; rfl
            exact (List.any_eq_true.2 ⟨u, hum, ho⟩).symm
          · have e : ¬ (rf p j)[m] = u := by omega
            refine ⟨(m + 1), by repeat (first | exact trivial | refine And.intro rfl ?_), by repeat (first | with_reducible exact Same.refl | refine Same.upd rfl ?_ | refine Same.upds rfl ?_ | refine Same.mix rfl ?_), ?_, ?_⟩
            · refine ⟨by first | exact E5 | exact E5.trans E6, by omega, ?_⟩
              rw [htm, List.mem_append]
              rintro (h9 | h9)
              · exact hgm h9
              · exact e (List.mem_singleton.1 h9).symm
            · omega
        · obtain rfl : m = (rf p j).length := by omega
          rw [List.take_length] at hgm
          focus
            have szE5 := E5.size; have szE4 := E4.size; have szE3 := E3.size; have szE2 := E2.size; have szE1 := E1.size; refine W_seq ?_; refine W_seq ?_; refine W_region rfl ?_; refine Wo rfl (opv_move (v := .int _ _) rfl) ?_
            refine Wo rfl (opv_move (v := u3) rfl) ?_; refine Wo rfl (opv_len Try.underlying24 rfl (Owned.read hO2)) ?_; refine Wo rfl (opv_lss rfl rfl) ?_; refine Wo_nil ?_; refine W_cond_dec rfl (fun h4 => ?_) (fun h4 => ?_); (exfalso; omega)
            refine W_exit ?_; refine exitX_same ?_; refine W_region rfl ?_; refine Wo rfl (opv_move (v := .int _ _) rfl) ?_; refine Wo rfl (opv_add rfl rfl (by omega)) ?_; refine Wo rfl (opv_assign (v := .int _ _) rfl) ?_; refine Wo_nil ?_
          refine ⟨(j + 1), by repeat (first | exact trivial | refine And.intro rfl ?_), by repeat (first | with_reducible exact Same.refl | refine Same.upd rfl ?_ | refine Same.upds rfl ?_ | refine Same.mix rfl ?_), ?_, ?_⟩
          · refine ⟨E3.trans (E4.trans E5), by omega, ?_⟩
            rw [hsu]
            cases hq : (rf p j).contains u with
            | true => exact absurd (List.contains_iff_mem.1 hq) hgm
            | false => rw [Bool.and_false]
          · omega
    · obtain rfl : j = p.length := by omega
      focus
        have szE3 := E3.size; have szE2 := E2.size; have szE1 := E1.size; refine W_seq ?_; refine W_seq ?_; refine W_region rfl ?_; refine Wo rfl (opv_move (v := .int _ _) rfl) ?_; refine Wo rfl (opv_move (v := v) rfl) ?_
        refine Wo rfl (opv_len Try.underlying22 rfl h) ?_; refine Wo rfl (opv_lss rfl rfl) ?_; refine Wo_nil ?_; refine W_cond_dec rfl (fun h2 => ?_) (fun h2 => ?_); (exfalso; omega); refine W_exit ?_; refine exitX_same ?_
        refine W_region rfl ?_; refine Wo rfl (opv_move (v := .int _ _) rfl) ?_; refine Wo rfl (opv_add rfl rfl (by omega)) ?_; refine Wo rfl (opv_assign (v := .int _ _) rfl) ?_; refine Wo_nil ?_
      refine ⟨(k + 1), by repeat (first | exact trivial | refine And.intro rfl ?_), by repeat (first | with_reducible exact Same.refl | refine Same.upd rfl ?_ | refine Same.upds rfl ?_ | refine Same.mix rfl ?_), ?_, ?_⟩
      · refine ⟨E2.trans E3, by omega, ?_⟩
        rw [hts, List.any_append, hg, Bool.false_or, List.any_cons, List.any_nil, Bool.or_false, hya]
        exact hgj
      · omega
  · obtain rfl : k = (rf p i).length := by omega
    focus
      have szE2 := E2.size; have szE1 := E1.size; refine W_seq ?_; refine W_seq ?_; refine W_region rfl ?_; refine Wo rfl (opv_move (v := .int _ _) rfl) ?_; refine Wo rfl (opv_move (v := u1) rfl) ?_
      refine Wo rfl (opv_len Try.underlying24 rfl (Owned.read hO1)) ?_; refine Wo rfl (opv_lss rfl rfl) ?_; refine Wo_nil ?_; refine W_cond_dec rfl (fun h1 => ?_) (fun h1 => ?_); (exfalso; omega); refine W_exit ?_; refine exitX_same ?_
      refine W_seq ?_; refine W_region rfl ?_; refine Wo rfl (opv_assign (v := .bool _) rfl) ?_; refine Wo_nil ?_; refine W_ret ?_; refine at_ret (v := .bool _) rfl ?_; refine ⟨congrArg Value.bool ?_, (E1.trans E2)⟩
    rw [List.take_length] at hg
    exact hg.symm

noncomputable def faV (p : List (List Int)) : List Nat := if Pic p then (List.range p.length).filter (fun k => !(cback p k)) else []
theorem spec_FoundedAll_ok (w : World) (v : Value) (p : List (List Int)) (h : ESl Ints w v p) : Does Try.prog 24 [v] w (RetO w XI (ints (faV p))) := by
  have hle := h.le
  refine fn_of_W1 Try.func24 rfl Try.results24 Try.ntmps24 rfl ?_
  by_cases hp : Pic p
  · have hpic : ∀ (w : World) (pv : Value), ESl Ints w pv p → Does Try.prog 28 [pv] w (Ret w (.bool true)) := fun w pv h => by
      have := PictureOk_ok w pv p h
      rw [decide_eq_true hp] at this; exact this
    have hp5 := hp.2.1
    have hV : faV p = (List.range p.length).filter (fun k => !(cback p k)) := if_pos hp
    rw [hV]
    focus
      refine W_seq ?_; refine W_region rfl ?_; refine Wo rfl (opv_assign (v := .slice _ _ _) rfl) ?_; refine Wo_nil ?_; refine W_seq ?_; refine W_region rfl ?_; refine Wo_lit0 XInt rfl el24 Try.sizeOf3 ?_; rintro b1 w1 hb1 b1lt E1 hO1
      have hs1 := E1.size; refine Wo rfl (opv_assign (v := .slice _ _ _) rfl) ?_; refine Wo_nil ?_; refine W_seq ?_; refine W_seq ?_; refine W_region rfl ?_; refine Wo rfl (opv_assign (v := .int _ _) rfl) ?_; refine Wo_nil ?_
      refine W_block ?_
    refine W_loop [3, 4, 6, 7, 8, 9, 10, 11, 12, 13, 14, 15, 16, 17, 18, 19, 20, 21, 22, 23] (fun (k, u) => [(4, .int .i64 (k : Nat)), (3, u)]) (fun (k, u) w' => Ext w w' ∧ k ≤ p.length ∧ Owned w.heap.size XI w' u (ints ((List.range k).filter (fun k => !(cback p k))))) (fun x => p.length - x.1) (0, .slice (some ⟨b1, 0, none⟩) 0 0) (by repeat (first | exact trivial | refine And.intro rfl ?_)) ?_ ?_
    · exact ⟨by assumption, Nat.zero_le _, by simpa [ints] using hO1⟩
    rintro ⟨k, u⟩ ρj w2 ⟨E2, hk, hO2⟩
    have hfs := filter_range_succ (fun k => !(cback p k)) k
    have hll : (ints ((List.range k).filter (fun k => !(cback p k)))).length ≤ k := by
      rw [ints_len]; exact Nat.le_trans (List.length_filter_le _ _) (by simp)
    by_cases hlt : k < p.length
    · have hcb : ∀ (w : World) (pv : Value), ESl Ints w pv p → Does Try.prog 53 [pv, .int .i64 (k : Int)] w (Ret w (.bool (cback p k))) := fun w pv h => ComesBack_ok w pv p h hp k hlt
      focus
        have szE2 := E2.size; have szE1 := E1.size; refine W_seq ?_; refine W_seq ?_; refine W_region rfl ?_; refine Wo rfl (opv_move (v := .int _ _) rfl) ?_; refine Wo rfl (opv_move (v := v) rfl) ?_
        refine Wo rfl (opv_len Try.underlying22 rfl h) ?_; refine Wo rfl (opv_lss rfl rfl) ?_; refine Wo_split_dec rfl (opv_move (v := .bool _) rfl) (fun h1 => ?_) (fun h1 => ?_); refine Wo rfl (opv_move (v := v) rfl) ?_
        refine Wo_call rfl (opc1 (a := v) Try.call28 rfl) (hpic _ _ ((Mono.mono E2 h))) ?_; rintro _ w3 ⟨rfl, E3⟩; have hs2 := E3.size; refine Wo rfl (opv_pick_t (v := .bool _) rfl rfl) ?_; refine Wo_nil ?_; refine W_cond_true rfl ?_
        refine W_skip ?_; refine W_seq ?_; refine W_block ?_; refine W_seq ?_; refine W_region rfl ?_; refine Wo rfl (opv_move (v := v) rfl) ?_; refine Wo rfl (opv_move (v := .int _ _) rfl) ?_
        refine Wo_call rfl (opc2 (a := v) (b := .int _ _) Try.call53 rfl rfl) (hcb _ _ ((Mono.mono (E2.trans E3) h))) ?_; rintro _ w4 ⟨rfl, E4⟩; have hs3 := E4.size; refine Wo rfl (opv_not rfl) ?_; refine Wo_nil ?_
        refine W_cond rfl (fun h2 => ?_) (fun h2 => ?_); refine W_region rfl ?_; refine Wo rfl (opv_move (v := u) rfl) ?_; refine Wo rfl (opv_move (v := .int _ _) rfl) ?_
        refine Wo_buildSliceH (ps := [(0, .int _ _)]) (cs := [_]) rfl Try.underlying24 Try.sizeOf3 Try.zeroValue3 rfl rfl rfl rfl ?_; rintro b2 w5 hb2 E5 hB1 hHb2; have hlb2 := hB1.lt; have hs4 := E5.size
        refine Wo_app1 rfl el24 rfl rfl hB1 (hO2.toB.ext ((E3.trans E4).trans E5)) Owned.int (Nat.le_refl _) (by first | omega | (simp <;> omega)) (by omega) (by omega) (((E2.trans E3).trans E4).trans E5) (by omega) ?_
        have hT1 := (hO2.toB.ext ((E3.trans E4).trans E5)); rintro v1 w6 hO2 E6 M1; have hB1 := hB1.moves M1 hT1 (by omega); have hs5 := E6.size; refine Wo rfl (opv_assign (v := v1) rfl) ?_; refine Wo_nil ?_; refine W_region rfl ?_
        refine Wo rfl (opv_move (v := .int _ _) rfl) ?_; refine Wo rfl (opv_add rfl rfl (by omega)) ?_; refine Wo rfl (opv_assign (v := .int _ _) rfl) ?_; refine Wo_nil ?_; rotate_left; refine W_skip ?_; refine W_region rfl ?_
        refine Wo rfl (opv_move (v := .int _ _) rfl) ?_; refine Wo rfl (opv_add rfl rfl (by omega)) ?_; refine Wo rfl (opv_assign (v := .int _ _) rfl) ?_; refine Wo_nil ?_; rotate_left; (exfalso; omega)
      · have hc : (!(cback p k)) = true := by assumption
        refine ⟨((k + 1, v1)), by repeat (first | exact trivial | refine And.intro rfl ?_), by repeat (first | with_reducible exact Same.refl | refine Same.upd rfl ?_ | refine Same.upds rfl ?_ | refine Same.mix rfl ?_), ?_, ?_⟩
        · refine ⟨by assumption, by omega, ?_⟩
          rw [hfs, if_pos hc, ints_append]
          assumption
        · simp only; omega
      · have hc : (!(cback p k)) = false := by assumption
        refine ⟨((k + 1, u)), by repeat (first | exact trivial | refine And.intro rfl ?_), by repeat (first | with_reducible exact Same.refl | refine Same.upd rfl ?_ | refine Same.upds rfl ?_ | refine Same.mix rfl ?_), ?_, ?_⟩
        · refine ⟨E2.trans (E3.trans E4), by omega, ?_⟩
          rw [hfs, if_neg (by rw [hc]; exact Bool.false_ne_true), List.append_nil]
          exact hO2.ext (E3.trans E4)
        · simp only; omega
    · obtain rfl : k = p.length := by omega
      focus
        have szE2 := E2.size; have szE1 := E1.size; refine W_seq ?_; refine W_seq ?_; refine W_region rfl ?_; refine Wo rfl (opv_move (v := .int _ _) rfl) ?_; refine Wo rfl (opv_move (v := v) rfl) ?_
        refine Wo rfl (opv_len Try.underlying22 rfl h) ?_; refine Wo rfl (opv_lss rfl rfl) ?_; refine Wo_split_dec rfl (opv_move (v := .bool _) rfl) (fun h1 => ?_) (fun h1 => ?_); (exfalso; omega); refine Wo_skip rfl ?_
        refine Wo_skip rfl ?_; refine Wo rfl (opv_pick_f (v := .bool _) rfl rfl) ?_; refine Wo_nil ?_; refine W_cond_false rfl ?_; refine W_exit ?_; refine exitX_same ?_; refine W_seq ?_; refine W_region rfl ?_
        refine Wo rfl (opv_move (v := u) rfl) ?_; refine Wo rfl (opv_assign (v := u) rfl) ?_; refine Wo_nil ?_; refine W_ret ?_; exact ⟨E2, hO2.toB.o.mono (by omega)⟩
  · have hpic : ∀ (w : World) (pv : Value), ESl Ints w pv p → Does Try.prog 28 [pv] w (Ret w (.bool false)) := fun w pv h => by
      have := PictureOk_ok w pv p h
      rw [decide_eq_false hp] at this; exact this
    have hV : faV p = [] := if_neg hp
    rw [hV, show ints [] = ([] : List Int) from rfl]
    focus
      refine W_seq ?_; refine W_region rfl ?_; refine Wo rfl (opv_assign (v := .slice _ _ _) rfl) ?_; refine Wo_nil ?_; refine W_seq ?_; refine W_region rfl ?_; refine Wo_lit0 XInt rfl el24 Try.sizeOf3 ?_; rintro b1 w1 hb1 b1lt E1 hO1
      have hs1 := E1.size; refine Wo rfl (opv_assign (v := .slice _ _ _) rfl) ?_; refine Wo_nil ?_; refine W_seq ?_; refine W_seq ?_; refine W_region rfl ?_; refine Wo rfl (opv_assign (v := .int _ _) rfl) ?_; refine Wo_nil ?_
      refine W_block ?_
    refine W_loop [3, 4, 6, 7, 8, 9, 10, 11, 12, 13, 14, 15, 16, 17, 18, 19, 20, 21, 22, 23] (fun (k : Nat) => [(4, .int .i64 (k : Nat)), (3, .slice (some ⟨b1, 0, none⟩) 0 0)]) (fun k w' => Ext w w' ∧ k = 0 ∧ Owned w.heap.size XI w' (.slice (some ⟨b1, 0, none⟩) 0 0) []) (fun x => 0) 0 (by repeat (first | exact trivial | refine And.intro rfl ?_)) ?_ ?_
    · exact ⟨by assumption, rfl, hO1⟩
    rintro k ρj w2 ⟨E2, rfl, hO2⟩
    focus
      have szE2 := E2.size; have szE1 := E1.size; refine W_seq ?_; refine W_seq ?_; refine W_region rfl ?_; refine Wo rfl (opv_move (v := .int _ _) rfl) ?_; refine Wo rfl (opv_move (v := v) rfl) ?_
      refine Wo rfl (opv_len Try.underlying22 rfl h) ?_; refine Wo rfl (opv_lss rfl rfl) ?_; refine Wo_split_dec rfl (opv_move (v := .bool _) rfl) (fun h1 => ?_) (fun h1 => ?_); refine Wo rfl (opv_move (v := v) rfl) ?_
      refine Wo_call rfl (opc1 (a := v) Try.call28 rfl) (hpic _ _ ((Mono.mono E2 h))) ?_; rintro _ w3 ⟨rfl, E3⟩; have hs2 := E3.size; refine Wo rfl (opv_pick_t (v := .bool _) rfl rfl) ?_; refine Wo_nil ?_; refine W_cond_false rfl ?_
      refine W_exit ?_; refine exitX_same ?_; refine W_seq ?_; refine W_region rfl ?_; refine Wo rfl (opv_move (v := .slice _ _ _) rfl) ?_; refine Wo rfl (opv_assign (v := .slice _ _ _) rfl) ?_; refine Wo_nil ?_; refine W_ret ?_
      exact ⟨(E2.trans E3), (hO2.toB.ext E3).o.mono (by omega)⟩; refine Wo_skip rfl ?_; refine Wo_skip rfl ?_; refine Wo rfl (opv_pick_f (v := .bool _) rfl rfl) ?_; refine Wo_nil ?_; refine W_cond_false rfl ?_; refine W_exit ?_
      refine exitX_same ?_; refine W_seq ?_; refine W_region rfl ?_; refine Wo rfl (opv_move (v := .slice _ _ _) rfl) ?_; refine Wo rfl (opv_assign (v := .slice _ _ _) rfl) ?_; refine Wo_nil ?_; refine W_ret ?_
      exact ⟨E2, hO2.toB.o.mono (by omega)⟩

theorem foundedAll_ok (w : World) (v : Value) (p : List (List Int)) (h : ESl Ints w v p) (hp : Pic p) : Does Try.prog 58 [v] w (RetO w XI (ints (faV p))) := by
  have hle := h.le
  have hp5 := hp.2.1
  have hV : faV p = (List.range p.length).filter (fun k => !(cback p k)) := if_pos hp
  rw [hV]
  refine fn_of_W1 Try.func58 rfl Try.results58 Try.ntmps58 rfl ?_
  focus
    refine W_seq ?_; refine W_region rfl ?_; refine Wo rfl (opv_assign (v := .slice _ _ _) rfl) ?_; refine Wo_nil ?_; refine W_seq ?_; refine W_region rfl ?_; refine Wo_lit0 XInt rfl el24 Try.sizeOf3 ?_; rintro b1 w1 hb1 b1lt E1 hO1
    have hs1 := E1.size; refine Wo rfl (opv_assign (v := .slice _ _ _) rfl) ?_; refine Wo_nil ?_; refine W_seq ?_; refine W_seq ?_; refine W_region rfl ?_; refine Wo rfl (opv_move (v := v) rfl) ?_
    refine Wo rfl (opv_len Try.underlying22 rfl h) ?_; refine Wo rfl (opv_move (v := .int _ _) rfl) ?_; refine Wo_nil ?_; refine W_block ?_
  refine W_loop [3, 4, 8, 9, 10, 11, 12, 13, 14, 15, 16, 17, 18, 19] (fun (k, u) => [(8, .int .i64 (k : Nat)), (3, u)]) (fun (k, u) w' => Ext w w' ∧ k ≤ p.length ∧ Owned w.heap.size XI w' u (ints ((List.range k).filter (fun k => !(cback p k))))) (fun x => p.length - x.1) (0, .slice (some ⟨b1, 0, none⟩) 0 0) (by repeat (first | exact trivial | refine And.intro rfl ?_)) ?_ ?_
  · exact ⟨by assumption, Nat.zero_le _, by simpa [ints] using hO1⟩
  rintro ⟨k, u⟩ ρj w2 ⟨E2, hk, hO2⟩
  have hfs := filter_range_succ (fun k => !(cback p k)) k
  have hll : (ints ((List.range k).filter (fun k => !(cback p k)))).length ≤ k := by
    rw [ints_len]; exact Nat.le_trans (List.length_filter_le _ _) (by simp)
  by_cases hlt : k < p.length
  · have hcb : ∀ (w : World) (pv : Value), ESl Ints w pv p → Does Try.prog 56 [pv, .int .i64 (k : Int)] w (Ret w (.bool (cback p k))) := fun w pv h => comesBack_ok w pv p h hp k hlt
    focus
      have szE2 := E2.size; have szE1 := E1.size; refine W_seq ?_; refine W_region rfl ?_; refine Wo rfl (opv_lss rfl rfl) ?_; refine Wo_nil ?_; refine W_seq ?_; refine W_cond_dec rfl (fun h1 => ?_) (fun h1 => ?_); refine W_skip ?_
      refine W_seq ?_; refine W_block ?_; refine W_seq ?_; refine W_region rfl ?_; refine Wo rfl (opv_move (v := .int _ _) rfl) ?_; refine Wo rfl (opv_assign (v := .int _ _) rfl) ?_; refine Wo_nil ?_; refine W_seq ?_
      refine W_region rfl ?_; refine Wo rfl (opv_move (v := v) rfl) ?_; refine Wo rfl (opv_move (v := .int _ _) rfl) ?_; refine Wo_call rfl (opc2 (a := v) (b := .int _ _) Try.call56 rfl rfl) (hcb _ _ ((Mono.mono E2 h))) ?_
      rintro _ w3 ⟨rfl, E3⟩; have hs2 := E3.size; refine Wo rfl (opv_not rfl) ?_; refine Wo_nil ?_; refine W_cond rfl (fun h2 => ?_) (fun h2 => ?_); refine W_region rfl ?_; refine Wo rfl (opv_move (v := u) rfl) ?_
      refine Wo rfl (opv_move (v := .int _ _) rfl) ?_; refine Wo_buildSliceH (ps := [(0, .int _ _)]) (cs := [_]) rfl Try.underlying24 Try.sizeOf3 Try.zeroValue3 rfl rfl rfl rfl ?_; rintro b2 w4 hb2 E4 hB1 hHb2; have hlb2 := hB1.lt
      have hs3 := E4.size; refine Wo_app1 rfl el24 rfl rfl hB1 (hO2.toB.ext (E3.trans E4)) Owned.int (Nat.le_refl _) (by first | omega | (simp <;> omega)) (by omega) (by omega) ((E2.trans E3).trans E4) (by omega) ?_
      have hT1 := (hO2.toB.ext (E3.trans E4)); rintro v1 w5 hO2 E5 M1; have hB1 := hB1.moves M1 hT1 (by omega); have hs4 := E5.size; refine Wo rfl (opv_assign (v := v1) rfl) ?_; refine Wo_nil ?_; refine W_region rfl ?_
      refine Wo rfl (opv_add rfl rfl (by omega)) ?_; refine Wo rfl (opv_move (v := .int _ _) rfl) ?_; refine Wo_nil ?_; rotate_left; refine W_skip ?_; refine W_region rfl ?_; refine Wo rfl (opv_add rfl rfl (by omega)) ?_
      refine Wo rfl (opv_move (v := .int _ _) rfl) ?_; refine Wo_nil ?_; rotate_left; (exfalso; omega)
    · have hc : (!(cback p k)) = true := by assumption
      refine ⟨((k + 1, v1)), by repeat (first | exact trivial | refine And.intro rfl ?_), by repeat (first | with_reducible exact Same.refl | refine Same.upd rfl ?_ | refine Same.upds rfl ?_ | refine Same.mix rfl ?_), ?_, ?_⟩
      · refine ⟨by assumption, by omega, ?_⟩
        rw [hfs, if_pos hc, ints_append]
        assumption
      · simp only; omega
    · have hc : (!(cback p k)) = false := by assumption
      refine ⟨((k + 1, u)), by repeat (first | exact trivial | refine And.intro rfl ?_), by repeat (first | with_reducible exact Same.refl | refine Same.upd rfl ?_ | refine Same.upds rfl ?_ | refine Same.mix rfl ?_), ?_, ?_⟩
      · refine ⟨E2.trans E3, by omega, ?_⟩
        rw [hfs, if_neg (by rw [hc]; exact Bool.false_ne_true), List.append_nil]
        exact hO2.ext E3
      · simp only; omega
  · obtain rfl : k = p.length := by omega
    focus
      have szE2 := E2.size; have szE1 := E1.size; refine W_seq ?_; refine W_region rfl ?_; refine Wo rfl (opv_lss rfl rfl) ?_; refine Wo_nil ?_; refine W_seq ?_; refine W_cond_dec rfl (fun h1 => ?_) (fun h1 => ?_); (exfalso; omega)
      refine W_exit ?_; refine exitX_same ?_; refine W_seq ?_; refine W_region rfl ?_; refine Wo rfl (opv_move (v := u) rfl) ?_; refine Wo rfl (opv_assign (v := u) rfl) ?_; refine Wo_nil ?_; refine W_ret ?_
      exact ⟨E2, hO2.toB.o.mono (by omega)⟩

theorem impl_FoundedAll_ok (w : World) (v : Value) (p : List (List Int)) (h : ESl Ints w v p) : Does Try.prog 25 [v] w (RetO w XI (ints (faV p))) := by
  refine fn_of_W1 Try.func25 rfl Try.results25 Try.ntmps25 rfl ?_
  by_cases hp : Pic p
  · have hpic : ∀ (w : World) (pv : Value), ESl Ints w pv p → Does Try.prog 48 [pv] w (Ret w (.bool true)) := fun w pv h => by
      have := isPicture_ok w pv p h
      rw [decide_eq_true hp] at this; exact this
    have hfa : ∀ (w : World) (pv : Value), ESl Ints w pv p → Does Try.prog 58 [pv] w (RetO w XI (ints (faV p))) := fun w pv h => foundedAll_ok w pv p h hp
    focus
      refine W_seq ?_; refine W_region rfl ?_; refine Wo rfl (opv_assign (v := .slice _ _ _) rfl) ?_; refine Wo_nil ?_; refine W_seq ?_; refine W_seq ?_; refine W_region rfl ?_; refine Wo rfl (opv_move (v := v) rfl) ?_
      refine Wo_call rfl (opc1 (a := v) Try.call48 rfl) (hpic _ _ (h)) ?_; rintro _ w1 ⟨rfl, E1⟩; have hs1 := E1.size; refine Wo rfl (opv_not rfl) ?_; refine Wo_nil ?_; refine W_cond rfl (fun h1 => ?_) (fun h1 => ?_); contradiction
      refine W_skip ?_; refine W_seq ?_; refine W_region rfl ?_; refine Wo rfl (opv_move (v := v) rfl) ?_; refine Wo_call rfl (opc1 (a := v) Try.call58 rfl) (hfa _ _ ((Mono.mono E1 h))) ?_; rintro u1 w2 ⟨E2, hO1⟩; have hs2 := E2.size
      refine Wo rfl (opv_assign (v := u1) rfl) ?_; refine Wo_nil ?_; refine W_ret ?_; exact ⟨(E1.trans E2), hO1.toB.o.mono (by omega)⟩
  · have hpic : ∀ (w : World) (pv : Value), ESl Ints w pv p → Does Try.prog 48 [pv] w (Ret w (.bool false)) := fun w pv h => by
      have := isPicture_ok w pv p h
      rw [decide_eq_false hp] at this; exact this
    have hV : faV p = [] := if_neg hp
    rw [hV, show ints [] = ([] : List Int) from rfl]
    focus
      refine W_seq ?_; refine W_region rfl ?_; refine Wo rfl (opv_assign (v := .slice _ _ _) rfl) ?_; refine Wo_nil ?_; refine W_seq ?_; refine W_seq ?_; refine W_region rfl ?_; refine Wo rfl (opv_move (v := v) rfl) ?_
      refine Wo_call rfl (opc1 (a := v) Try.call48 rfl) (hpic _ _ (h)) ?_; rintro _ w1 ⟨rfl, E1⟩; have hs1 := E1.size; refine Wo rfl (opv_not rfl) ?_; refine Wo_nil ?_; refine W_cond rfl (fun h1 => ?_) (fun h1 => ?_); refine W_seq ?_
      refine W_region rfl ?_; refine Wo rfl (opv_assign (v := .slice _ _ _) rfl) ?_; refine Wo_nil ?_; refine W_ret ?_; refine at_ret (v := .slice _ _ _) rfl ?_; rotate_left; contradiction
    exact ⟨E1, Owned.nil⟩

end Go.Proofs.Ythhaodjjfofogaa
