/- Lemmas for FnJournalText. -/
import Derived.Test.YtgphoihilheoeaaDoorMFnJournalText6
namespace Go.Proofs.YtgphoihilheoeaaDoor
open Go.Hs
set_option maxRecDepth 10000
set_option maxHeartbeats 4000000
set_option linter.unusedVariables false
set_option linter.unusedSimpArgs false

/-- a desk under the draws' hand -/
def DI (d : Dsk) : Prop := d = ⟨[], []⟩ ∨ DkOk d
theorem DI.now {d : Dsk} (h : DI d) : NowP d.now := by
  rcases h with rfl | h
  · exact .inl rfl
  · exact .inr h.1.1.gr
open Classical in
theorem DI.do {d : Dsk} (h : DI d) (a : Deed) : DI ⟨if DkOk d then (doV d a).1.now else [], if DkOk d then (doV d a).1.past else []⟩ := by
  by_cases hd : DkOk d
  · rw [if_pos hd, if_pos hd]; exact .inr (doV_ok hd)
  · rw [if_neg hd, if_neg hd]; exact .inl rfl
theorem odd0_ok (w : World) (u : Value) : Does Tryd.prog 57 [u, .int .i64 0] w (Ret w (.bool false)) := by
  refine fn_of_W1 Tryd.func57 rfl Tryd.results57 Tryd.ntmps57 rfl ?_
  focus
    refine W_seq ?_; refine W_region rfl ?_; refine Wo rfl (opv_assign (v := .bool _) rfl) ?_; refine Wo_nil ?_; refine W_seq ?_; refine W_region rfl ?_; refine Wo rfl (opv_move (v := .int _ _) rfl) ?_
    refine Wo rfl (opv_gtr rfl rfl) ?_; refine Wo_split_dec rfl (opv_move (v := .bool _) rfl) (fun h1 => ?_) (fun h1 => ?_); contradiction; refine Wo_skip rfl ?_; refine Wo_skip rfl ?_; refine Wo_skip rfl ?_; refine Wo_skip rfl ?_
    refine Wo_skip rfl ?_; refine Wo_skip rfl ?_; refine Wo rfl (opv_pick_f (v := .bool _) rfl rfl) ?_; refine Wo rfl (opv_assign (v := .bool _) rfl) ?_; refine Wo_nil ?_; refine W_ret ?_; exact ⟨rfl, (Ext.refl _)⟩
open Classical in
theorem Desk0_ok {w0 : World} (w : World) {br m : Nat} (hr : Rdr w0 w br m) (hm : m ≤ 1000000) :
    Does Tryd.prog 52 [.pointer (some ⟨br, 0, none⟩), .int .i64 0] w (RetDK w0 w br (m + 130) DI) := by
  refine fn_of_Wc Tryd.func52 rfl Tryd.results52 Tryd.ntmps52 rfl Tryd.isAgg53 Tryd.sizeOf53 ?_
  have hG : w.grownBy w (some br) := grownBy_refl _ _
  have hlr := hr.lt
  have hgr := hr.ge
  have E0 := hr.old
  have k1 := fun (w : World) (v : Value) (p : List (List Int)) (h : ESl Ints w v p) (z : Int) => spec_DeskNew_ok w v p h z
  have litown : True := trivial
  have stop3 : True := trivial
  focus
    have szE0 := E0.size; refine W_seq ?_; refine W_region rfl ?_; refine Wo_alloc2 rfl flat53 ?_; rintro b1 w1 hb1 E1 hB1; have hlb1 := hB1.lt; have hr := hr.ext E1; have hG := grownBy_ext hG E1; have hs1 := E1.size; refine Wo_nil ?_
    refine W_seq ?_; refine W_region rfl ?_; refine Wo rfl (opv_move (v := .pointer _) rfl) ?_; refine Wo_call rfl (opc2 (a := .pointer _) (b := .int _ _) Tryd.call77 rfl rfl) (Twin_ok _ _ (by assumption) (by omega) (by omega)) ?_
    rintro u1 w2 ⟨E2, hr1, x1, hO1, hy1⟩; (try dsimp only at hy1); have hlhr1 := hr1.lt; have Ehr1 := hr1.old; have hB1 := hB1.grown E2 (by simp only [ne_eq, Option.some.injEq]; omega); have hG := grownBy_trans hG E2
    have hs2 := E2.size; refine Wo rfl (opv_assign (v := u1) rfl) ?_; refine Wo_nil ?_; refine W_seq ?_; refine W_region rfl ?_; refine Wo rfl (opv_move (v := u1) rfl) ?_; refine Wo rfl (opv_move (v := .pointer _) rfl) ?_
    refine Wo rfl (opv_move (v := u1) rfl) ?_; refine Wo rfl (opv_len Tryd.underlying49 rfl (Owned.read hO1)) ?_
    refine Wo_call rfl (opc2 (a := .pointer _) (b := .int _ _) Tryd.call54 rfl rfl) (pick_ok _ _ (by assumption) (by omega)) ?_; rintro _ w3 ⟨y1, rfl, E3, hr2, hy2⟩; (try dsimp only at hy2); have hlhr2 := hr2.lt; have Ehr2 := hr2.old
    have hO1 := hO1.toB.grown E3 (by omega); have hB1 := hB1.grown E3 (by simp only [ne_eq, Option.some.injEq]; omega); have hG := grownBy_trans hG E3; have hs3 := E3.size
    refine Wo_call rfl (opc2 (a := u1) (b := .int _ _) Tryd.call33 rfl rfl) (k1 _ _ _ ((OwnedB.read hO1)) _) ?_; rintro _ w4 ⟨u2, q1, m1, rfl, E4, hO2, hQ1, hm1, hn1⟩; have icu2 := OwnedB.isC hO2; have cpu2 := OwnedB.capOk hO2
    have icq1 := OwnedB.isC (Owned.toB hQ1); have cpq1 := OwnedB.capOk (Owned.toB hQ1); have hr2 := hr2.ext E4; have hG := grownBy_ext hG E4; have hs4 := E4.size; refine Wo rfl (opv_move (v := .tuple _) rfl) ?_
    refine Wo rfl (opv_extract (v := .agg _) rfl rfl) ?_; refine Wo rfl (opv_extract (v := .bool _) rfl rfl) ?_; refine Wo_alloc2 rfl flat53 ?_; rintro b2 w5 hb2 E5 hB2; have hlb2 := hB2.lt; have hr2 := hr2.ext E5
    have hG := grownBy_ext hG E5; have hs5 := E5.size; refine Wo_st2 rfl Tryd.sizeOf53 rfl rfl (by first | rfl | assumption) (by first | rfl | assumption) hB2 (by omega) ((Ehr2.trans E4).trans E5) ?_; rintro w6 E6 hB2 K1 hz1
    have E7 := (E4.trans E5).wroteAt ((Ehr2.trans E4).trans E5) E6 K1 hz1 (by omega); have szE7 := E7.size; have E8 := E5.wroteAt ((Ehr2.trans E4).trans E5) E6 K1 hz1 (by omega); have szE8 := E8.size
    have hO1 := (hO1.ext (E4.trans E5)).wrote K1 (by omega); have hB1 := (hB1.ext (E4.trans E5)).of_heap (K1 _ (by omega)); have hO2 := (hO2.ext E5).wrote K1 (by omega); have hQ1 := (hQ1.toB.ext E5).wrote K1 (by omega)
    have hr2 := hr2.wrote E6 (K1 _ (by omega)) hz1; have hG := grownBy_wrote hG ((Ehr2.trans E4).trans E5) E6 K1 hz1 (by first | exact .inr rfl | omega); refine Wo rfl (opv_assign (v := .bool _) rfl) ?_; refine Wo_nil ?_
    refine W_seq ?_; refine W_seq ?_
  clear stop3
  have i1 := icu2
  have i2 := icq1
  have hA := (hO2.rd.wide (Nat.le_refl _) (show m1 ≤ w4.heap.size by omega))
  have hC := (hQ1.rd.wide (show w3.heap.size ≤ m1 by omega) (Nat.le_refl _))
  have hd : DI ⟨if Nod x1 (y1 : Int) then lst x1 (y1 : Int).toNat else [], []⟩ := by
    by_cases hz : Nod x1 (y1 : Int)
    · rw [if_pos hz]
      have hl : (y1 : Int).toNat < x1.length := by have := hz.2; omega
      exact .inr ⟨LeastP.lst hz.1.gr hl (Nat.le_trans (lst_le hz.1.gr hl) hz.1.2.1), by simp, fun p hp => by cases hp⟩
    · rw [if_neg hz]; exact .inl rfl
  generalize (if Nod x1 (y1 : Int) then lst x1 (y1 : Int).toNat else []) = now at *
  generalize hpast : ([] : List (List (List Int))) = past at hC hd
  clear hO1 hO2 hQ1
  focus
    have szE8 := E8.size; have szE7 := E7.size; have szE6 := E6.size; have szE5 := E5.size; have szE4 := E4.size; have szEhr2 := Ehr2.size; have szEhr1 := Ehr1.size; have szE1 := E1.size; have szE0 := E0.size; refine W_region rfl ?_
    refine Wo rfl (opv_move (v := .pointer _) rfl) ?_; refine Wo_call rfl (opc2 (a := .pointer _) (b := .int _ _) Tryd.call54 rfl rfl) (pick_ok _ _ (by assumption) (by omega)) ?_; rintro _ w7 ⟨y2, rfl, E9, hr3, hy3⟩
    (try dsimp only at hy3); have hlhr3 := hr3.lt; have Ehr3 := hr3.old; have hO1 := (hO1.ext E7).grown E9 (by omega); have hQ1 := (hQ1.toB.ext E8).grown E9 (by omega)
    have hB2 := hB2.grown E9 (by simp only [ne_eq, Option.some.injEq]; omega); have hB1 := hB1.grown E9 (by simp only [ne_eq, Option.some.injEq]; omega); have hG := grownBy_trans hG E9; have hO2 := (hO2.ext E8).grown E9 (by omega)
    have hA := hA.grown E9 (by omega); have hC := hC.grown E9 (by omega); have hs6 := E9.size; refine Wo rfl (opv_assign (v := .int _ _) rfl) ?_; refine Wo_nil ?_; refine W_block ?_
  have hy2' := hy3 (by omega)
  refine W_loop [8, 9, 10, 24, 25, 26, 27, 28, 29, 30, 31, 32, 33, 34, 35, 36, 37] (fun ((k, v1, v2, d, lo, hi) : Nat × Value × Value × Dsk × Nat × Nat) => [(8, .int .i64 (k : Nat))]) (fun (k, v1, v2, d, lo, hi) w' => w.grownBy w' (some br) ∧ Rdr w0 w' br (m + 65 + 10 * (4 - k)) ∧ k ≤ 4 ∧ w6.heap.size ≤ w'.heap.size ∧ Blk w' b1 [.slice none 0 0, .slice none 0 0] ∧ Blk w' b2 [v1, v2] ∧ b1 < lo ∧ lo < w'.heap.size ∧ hi ≤ w'.heap.size ∧ (hi ≤ b2 ∨ b2 < lo) ∧ OwnedB lo hi (XRd (ESl Ints)) w' v1 d.now ∧ OwnedB lo hi (XRd (ESl (ESl Ints))) w' v2 d.past ∧ isCell v1 = true ∧ isCell v2 = true ∧ DI d) (fun x => x.1) (y2, u2, q1, ⟨now, past⟩, w3.heap.size, w4.heap.size) (by repeat (first | exact trivial | refine And.intro rfl ?_)) ?_ ?_
  · exact ⟨hG, by first | exact hr3.le (by omega) | exact hr2.le (by omega) | exact hr1.le (by omega), by omega, by omega, hB1, hB2, by omega, by omega, by omega, by omega, hA, hC, i1, i2, hd⟩
  clear hr1 hG hA hC hB1 hB2
  rintro ⟨k, v1, v2, d, lo, hi⟩ ρj w7 ⟨hG, hr, hk, hsz, hB1, hB2, hbl, hlw, hhw, hb2, hA, hC, ic1, ic2, hd⟩
  have E7 := hr.old
  have kD : ∀ (w : World) (m' : Nat) (hr : Rdr w0 w br m') (hm : m' ≤ 10000000) (hA : OwnedB lo hi (XRd (ESl Ints)) w v1 d.now), lo < w.heap.size → Does Tryd.prog 51 [.pointer (some ⟨br, 0, none⟩), .agg #[v1, v2]] w (RetDD w0 w br (m' + 10) DrP) := fun w m' hr hm hA hl => Deed_ok w v1 v2 d.now hr hm hA.above (by omega) hl ic2 hd.now
  have kS : ∀ (w : World) (k n : Int) (t : List UInt8), DrP ⟨k, t, n⟩ → ESl Ints w v1 d.now → ESl (ESl Ints) w v2 d.past → Does Tryd.prog 78 [.agg #[v1, v2], .agg #[.int .i64 k, str t, .int .i64 n]] w (RetDkRB w (if DkOk d then (doV d ⟨k, t, n⟩).1.now else []) (if DkOk d then (doV d ⟨k, t, n⟩).1.past else []) (decide (DkOk d) && (doV d ⟨k, t, n⟩).2)) := fun w k n t ht h1 h2 => (spec_DeskDo_ok w v1 v2 d h1 h2 k n t (by have := ht.2.2.1; simp only at this; omega)).mono fun _ _ h => h.r
  by_cases hk0 : 0 < k
  · have stop6 : True := trivial
    focus
      have szE7 := E7.size; have szEhr3 := Ehr3.size; have szE8 := E8.size; have szE7 := E7.size; have szE6 := E6.size; have szE5 := E5.size; have szE4 := E4.size; have szEhr2 := Ehr2.size; have szEhr1 := Ehr1.size; have szE1 := E1.size
      have szE0 := E0.size; refine W_seq ?_; refine W_seq ?_; refine W_region rfl ?_; refine Wo rfl (opv_move (v := .int _ _) rfl) ?_; refine Wo rfl (opv_gtr rfl rfl) ?_; refine Wo_nil ?_
      refine W_cond_dec rfl (fun h1 => ?_) (fun h1 => ?_); refine W_skip ?_; refine W_seq ?_; refine W_block ?_; refine W_seq ?_; rotate_left; (exfalso; omega)
    clear stop6
    refine W_mid [28, 29, 30, 31, 32, 33, 34, 35, 9, 10] (fun ((b9, x1, x2, d', lo', hi', ok) : Nat × Value × Value × Dsk × Nat × Nat × Bool) => [(9, .pointer (some ⟨b9, 0, none⟩)), (10, .bool ok)]) (fun (b9, x1, x2, d', lo', hi', ok) w' => w.grownBy w' (some br) ∧ Rdr w0 w' br (m + 65 + 10 * (4 - k) + 10) ∧ w6.heap.size ≤ w'.heap.size ∧ Blk w' b1 [.slice none 0 0, .slice none 0 0] ∧ Blk w' b2 [v1, v2] ∧ Blk w' b9 [x1, x2] ∧ lo < w'.heap.size ∧ hi ≤ w'.heap.size ∧ OwnedB lo hi (XRd (ESl Ints)) w' v1 d.now ∧ OwnedB lo hi (XRd (ESl (ESl Ints))) w' v2 d.past ∧ b1 < lo' ∧ lo' < w'.heap.size ∧ hi' ≤ w'.heap.size ∧ b2 < lo' ∧ OwnedB lo' hi' (XRd (ESl Ints)) w' x1 d'.now ∧ OwnedB lo' hi' (XRd (ESl (ESl Ints))) w' x2 d'.past ∧ isCell x1 = true ∧ isCell x2 = true ∧ DI d') ?_ ?_
    · focus
        have szE7 := E7.size; have szEhr3 := Ehr3.size; have szE8 := E8.size; have szE7 := E7.size; have szE6 := E6.size; have szE5 := E5.size; have szE4 := E4.size; have szEhr2 := Ehr2.size; have szEhr1 := Ehr1.size; have szE1 := E1.size
        have szE0 := E0.size; refine W_held (fun _ => True) mixed rfl (by kernel_rfl) ?_; intro w8 E10 K2 hz2; have hG := grownBy_ext hG E10; have hr := hr.ext E10; have hs7 := E10.size
        refine Wh_take 1 rfl (by kernel_rfl) (by kernel_rfl) rfl (fun _ _ => opv_move (v := .pointer _) rfl) trivial ?_; refine Wh_all (rs := [0, 2, 8]) (by kernel_rfl) rfl ?_; refine WhAll_cons rfl ?_ ?_
        refine Wo (v := .agg _) rfl (opv_load2 Tryd.isAgg53 Tryd.sizeOf53 rfl (hB2.ext E10)) ?_; refine Wo_nil ?_; refine ⟨trivial, ?_⟩; refine Wh_all (rs := [2, 8]) (by kernel_rfl) rfl ?_; refine WhAll_cons rfl ?_ ?_
        refine Wo (v := .agg _) rfl (opv_load2 Tryd.isAgg53 Tryd.sizeOf53 rfl (hB2.ext E10)) ?_; refine Wo_nil ?_; refine ⟨trivial, ?_⟩; refine Wh_all (rs := [3, 8]) (by kernel_rfl) rfl ?_; refine WhAll_cons rfl ?_ ?_
        refine Wo_call rfl (opc2 (a := .pointer _) (b := .agg _) Tryd.call51 rfl rfl) (kD _ _ (by assumption) (by omega) ((hA.ext E10)) (by omega)) ?_; rintro _ w9 ⟨k2, t1, n1, rfl, E11, hr1, hy4⟩; (try dsimp only at hy4)
        have hlhr1 := hr1.lt; have Ehr1 := hr1.old; have hB1 := (hB1.ext E10).grown E11 (by simp only [ne_eq, Option.some.injEq]; omega); have hB2 := (hB2.ext E10).grown E11 (by simp only [ne_eq, Option.some.injEq]; omega)
        have hA := (hA.ext E10).grown E11 (by omega); have hC := (hC.ext E10).grown E11 (by omega); have hG := grownBy_trans hG E11; have hs8 := E11.size; refine Wo_nil ?_; refine ⟨trivial, ?_⟩
        refine Wh_all (rs := [4, 8]) (by kernel_rfl) rfl ?_; refine WhAll_cons rfl ?_ ?_; refine Wo_call rfl (opc2 (a := .agg _) (b := .agg _) Tryd.call78 rfl rfl) (kS _ _ _ _ (by assumption) ((OwnedB.read hA)) ((OwnedB.read hC))) ?_
        rintro _ w10 ⟨u3, q2, rfl, E12, hA1, hC1, icu3, icq2, gwu3⟩; have hr1 := hr1.ext E12; have hG := grownBy_ext hG E12; have hs9 := E12.size; refine Wo_nil ?_; refine ⟨trivial, ?_⟩
        refine Wh_take 5 rfl (by kernel_rfl) (by kernel_rfl) rfl (fun _ _ => opv_move (v := .tuple _) rfl) trivial ?_; refine Wh_take 6 rfl (by kernel_rfl) (by kernel_rfl) rfl (fun _ _ => opv_extract (v := .agg _) rfl rfl) trivial ?_
        refine Wh_take 7 rfl (by kernel_rfl) (by kernel_rfl) rfl (fun _ _ => opv_extract (v := .bool _) rfl rfl) trivial ?_; refine Wh_all (rs := [8]) (by kernel_rfl) rfl ?_; refine WhAll_cons rfl ?_ ?_; refine Wo_alloc2 rfl flat53 ?_
        rintro b3 w11 hb3 E13 hB3; have hlb3 := hB3.lt; have hr1 := hr1.ext E13; have hG := grownBy_ext hG E13; have hs10 := E13.size; refine Wo_nil ?_; refine ⟨trivial, ?_⟩; refine Wh_all (rs := [9]) (by kernel_rfl) rfl ?_
        refine WhAll_cons rfl ?_ ?_; refine Wo_st2 rfl Tryd.sizeOf53 rfl rfl (by first | rfl | assumption) (by first | rfl | assumption) hB3 (by omega) ((Ehr1.trans E12).trans E13) ?_; rintro w12 E14 hB3 K3 hz3
        have E15 := (E12.trans E13).wroteAt ((Ehr1.trans E12).trans E13) E14 K3 hz3 (by omega); have szE15 := E15.size; have E16 := E13.wroteAt ((Ehr1.trans E12).trans E13) E14 K3 hz3 (by omega); have szE16 := E16.size
        have hB1 := (hB1.ext (E12.trans E13)).of_heap (K3 _ (by omega)); have hB2 := (hB2.ext (E12.trans E13)).of_heap (K3 _ (by omega)); have hA := (hA.ext (E12.trans E13)).wrote K3 (by omega)
        have hC := (hC.ext (E12.trans E13)).wrote K3 (by omega); have hA1 := (hA1.ext E13).wrote K3 (by omega); have hC1 := (hC1.ext E13).wrote K3 (by omega); have hr1 := hr1.wrote E14 (K3 _ (by omega)) hz3
        have hG := grownBy_wrote hG ((Ehr1.trans E12).trans E13) E14 K3 hz3 (by first | exact .inr rfl | omega); refine Wo_nil ?_; refine ⟨trivial, ?_⟩
        refine Wh_take 10 rfl (by kernel_rfl) (by kernel_rfl) rfl (fun _ _ => opv_assign (v := .bool _) rfl) trivial ?_; refine Wh_done (by kernel_rfl) ?_; rotate_left; exact WhAll_nil; exact WhAll_nil; refine WhAll_cons rfl ?_ ?_
        refine Wo_alloc2 rfl flat53 ?_; rintro b3 w10 hb3 E12 hB3; have hlb3 := hB3.lt; have hr1 := hr1.ext E12; have hG := grownBy_ext hG E12; have hs9 := E12.size; refine Wo_nil ?_; refine ⟨trivial, ?_⟩
        refine Wh_all (rs := [4]) (by kernel_rfl) rfl ?_; refine WhAll_cons rfl ?_ ?_
        refine Wo_call rfl (opc2 (a := .agg _) (b := .agg _) Tryd.call78 rfl rfl) (kS _ _ _ _ (by assumption) ((Mono.mono E12 (OwnedB.read hA))) ((Mono.mono E12 (OwnedB.read hC)))) ?_
        rintro _ w11 ⟨u3, q2, rfl, E13, hA1, hC1, icu3, icq2, gwu3⟩; have hr1 := hr1.ext E13; have hG := grownBy_ext hG E13; have hs10 := E13.size; refine Wo_nil ?_; refine ⟨trivial, ?_⟩
        refine Wh_take 5 rfl (by kernel_rfl) (by kernel_rfl) rfl (fun _ _ => opv_move (v := .tuple _) rfl) trivial ?_; refine Wh_take 6 rfl (by kernel_rfl) (by kernel_rfl) rfl (fun _ _ => opv_extract (v := .agg _) rfl rfl) trivial ?_
        refine Wh_take 7 rfl (by kernel_rfl) (by kernel_rfl) rfl (fun _ _ => opv_extract (v := .bool _) rfl rfl) trivial ?_; refine Wh_all (rs := [9]) (by kernel_rfl) rfl ?_; refine WhAll_cons rfl ?_ ?_
        refine Wo_st2 rfl Tryd.sizeOf53 rfl rfl (by first | rfl | assumption) (by first | rfl | assumption) (hB3.ext E13) (by omega) ((Ehr1.trans E12).trans E13) ?_; rintro w12 E14 hB3 K3 hz3
        have E15 := (E12.trans E13).wroteAt ((Ehr1.trans E12).trans E13) E14 K3 hz3 (by omega); have szE15 := E15.size; have hB1 := (hB1.ext (E12.trans E13)).of_heap (K3 _ (by omega))
        have hB2 := (hB2.ext (E12.trans E13)).of_heap (K3 _ (by omega)); have hA := (hA.ext (E12.trans E13)).wrote K3 (by omega); have hC := (hC.ext (E12.trans E13)).wrote K3 (by omega); have hA1 := hA1.wrote K3 (by omega)
        have hC1 := hC1.wrote K3 (by omega); have hr1 := hr1.wrote E14 (K3 _ (by omega)) hz3; have hG := grownBy_wrote hG ((Ehr1.trans E12).trans E13) E14 K3 hz3 (by first | exact .inr rfl | omega); refine Wo_nil ?_; refine ⟨trivial, ?_⟩
        refine Wh_take 10 rfl (by kernel_rfl) (by kernel_rfl) rfl (fun _ _ => opv_assign (v := .bool _) rfl) trivial ?_; refine Wh_done (by kernel_rfl) ?_; rotate_left; exact WhAll_nil; exact WhAll_nil; exact WhAll_nil
        refine WhAll_cons rfl ?_ ?_; refine Wo_alloc2 rfl flat53 ?_; rintro b3 w9 hb3 E11 hB3; have hlb3 := hB3.lt; have hG := grownBy_ext hG E11; have hr := hr.ext E11; have hs8 := E11.size; refine Wo_nil ?_; refine ⟨trivial, ?_⟩
        refine Wh_all (rs := [3]) (by kernel_rfl) rfl ?_; refine WhAll_cons rfl ?_ ?_
        refine Wo_call rfl (opc2 (a := .pointer _) (b := .agg _) Tryd.call51 rfl rfl) (kD _ _ (by assumption) (by omega) ((hA.ext (E10.trans E11))) (by omega)) ?_; rintro _ w10 ⟨k2, t1, n1, rfl, E12, hr1, hy4⟩; (try dsimp only at hy4)
        have hlhr1 := hr1.lt; have Ehr1 := hr1.old; have hB1 := (hB1.ext (E10.trans E11)).grown E12 (by simp only [ne_eq, Option.some.injEq]; omega)
        have hB2 := (hB2.ext (E10.trans E11)).grown E12 (by simp only [ne_eq, Option.some.injEq]; omega); have hA := (hA.ext (E10.trans E11)).grown E12 (by omega); have hC := (hC.ext (E10.trans E11)).grown E12 (by omega)
        have hB3 := hB3.grown E12 (by simp only [ne_eq, Option.some.injEq]; omega); have hG := grownBy_trans hG E12; have hs9 := E12.size; refine Wo_nil ?_; refine ⟨trivial, ?_⟩; refine Wh_all (rs := [4]) (by kernel_rfl) rfl ?_
        refine WhAll_cons rfl ?_ ?_; refine Wo_call rfl (opc2 (a := .agg _) (b := .agg _) Tryd.call78 rfl rfl) (kS _ _ _ _ (by assumption) ((OwnedB.read hA)) ((OwnedB.read hC))) ?_
        rintro _ w11 ⟨u3, q2, rfl, E13, hA1, hC1, icu3, icq2, gwu3⟩; have hr1 := hr1.ext E13; have hG := grownBy_ext hG E13; have hs10 := E13.size; refine Wo_nil ?_; refine ⟨trivial, ?_⟩
        refine Wh_take 5 rfl (by kernel_rfl) (by kernel_rfl) rfl (fun _ _ => opv_move (v := .tuple _) rfl) trivial ?_; refine Wh_take 6 rfl (by kernel_rfl) (by kernel_rfl) rfl (fun _ _ => opv_extract (v := .agg _) rfl rfl) trivial ?_
        refine Wh_take 7 rfl (by kernel_rfl) (by kernel_rfl) rfl (fun _ _ => opv_extract (v := .bool _) rfl rfl) trivial ?_; refine Wh_all (rs := [9]) (by kernel_rfl) rfl ?_; refine WhAll_cons rfl ?_ ?_
        refine Wo_st2 rfl Tryd.sizeOf53 rfl rfl (by first | rfl | assumption) (by first | rfl | assumption) (hB3.ext E13) (by omega) (Ehr1.trans E13) ?_; rintro w12 E14 hB3 K3 hz3; have hB1 := (hB1.ext E13).of_heap (K3 _ (by omega))
        have hB2 := (hB2.ext E13).of_heap (K3 _ (by omega)); have hA := (hA.ext E13).wrote K3 (by omega); have hC := (hC.ext E13).wrote K3 (by omega); have hA1 := hA1.wrote K3 (by omega); have hC1 := hC1.wrote K3 (by omega)
        have hr1 := hr1.wrote E14 (K3 _ (by omega)) hz3; have hG := grownBy_wrote hG (Ehr1.trans E13) E14 K3 hz3 (by first | exact .inr rfl | omega); refine Wo_nil ?_; refine ⟨trivial, ?_⟩
        refine Wh_take 10 rfl (by kernel_rfl) (by kernel_rfl) rfl (fun _ _ => opv_assign (v := .bool _) rfl) trivial ?_; refine Wh_done (by kernel_rfl) ?_; rotate_left; exact WhAll_nil; exact WhAll_nil; exact WhAll_nil; exact WhAll_nil
        refine WhAll_cons rfl ?_ ?_; refine Wo_alloc2 rfl flat53 ?_; rintro b3 w9 hb3 E11 hB3; have hlb3 := hB3.lt; have hG := grownBy_ext hG E11; have hr := hr.ext E11; have hs8 := E11.size; refine Wo_nil ?_; refine ⟨trivial, ?_⟩
        refine Wh_all (rs := [2]) (by kernel_rfl) rfl ?_; refine WhAll_cons rfl ?_ ?_; refine Wo (v := .agg _) rfl (opv_load2 Tryd.isAgg53 Tryd.sizeOf53 rfl (hB2.ext (E10.trans E11))) ?_; refine Wo_nil ?_; refine ⟨trivial, ?_⟩
        refine Wh_all (rs := [3]) (by kernel_rfl) rfl ?_; refine WhAll_cons rfl ?_ ?_
        refine Wo_call rfl (opc2 (a := .pointer _) (b := .agg _) Tryd.call51 rfl rfl) (kD _ _ (by assumption) (by omega) ((hA.ext (E10.trans E11))) (by omega)) ?_; rintro _ w10 ⟨k2, t1, n1, rfl, E12, hr1, hy4⟩; (try dsimp only at hy4)
        have hlhr1 := hr1.lt; have Ehr1 := hr1.old; have hB1 := (hB1.ext (E10.trans E11)).grown E12 (by simp only [ne_eq, Option.some.injEq]; omega)
        have hB2 := (hB2.ext (E10.trans E11)).grown E12 (by simp only [ne_eq, Option.some.injEq]; omega); have hA := (hA.ext (E10.trans E11)).grown E12 (by omega); have hC := (hC.ext (E10.trans E11)).grown E12 (by omega)
        have hB3 := hB3.grown E12 (by simp only [ne_eq, Option.some.injEq]; omega); have hG := grownBy_trans hG E12; have hs9 := E12.size; refine Wo_nil ?_; refine ⟨trivial, ?_⟩; refine Wh_all (rs := [4]) (by kernel_rfl) rfl ?_
        refine WhAll_cons rfl ?_ ?_; refine Wo_call rfl (opc2 (a := .agg _) (b := .agg _) Tryd.call78 rfl rfl) (kS _ _ _ _ (by assumption) ((OwnedB.read hA)) ((OwnedB.read hC))) ?_
        rintro _ w11 ⟨u3, q2, rfl, E13, hA1, hC1, icu3, icq2, gwu3⟩; have hr1 := hr1.ext E13; have hG := grownBy_ext hG E13; have hs10 := E13.size; refine Wo_nil ?_; refine ⟨trivial, ?_⟩
        refine Wh_take 5 rfl (by kernel_rfl) (by kernel_rfl) rfl (fun _ _ => opv_move (v := .tuple _) rfl) trivial ?_; refine Wh_take 6 rfl (by kernel_rfl) (by kernel_rfl) rfl (fun _ _ => opv_extract (v := .agg _) rfl rfl) trivial ?_
        refine Wh_take 7 rfl (by kernel_rfl) (by kernel_rfl) rfl (fun _ _ => opv_extract (v := .bool _) rfl rfl) trivial ?_; refine Wh_all (rs := [9]) (by kernel_rfl) rfl ?_; refine WhAll_cons rfl ?_ ?_
        refine Wo_st2 rfl Tryd.sizeOf53 rfl rfl (by first | rfl | assumption) (by first | rfl | assumption) (hB3.ext E13) (by omega) (Ehr1.trans E13) ?_; rintro w12 E14 hB3 K3 hz3; have hB1 := (hB1.ext E13).of_heap (K3 _ (by omega))
        have hB2 := (hB2.ext E13).of_heap (K3 _ (by omega)); have hA := (hA.ext E13).wrote K3 (by omega); have hC := (hC.ext E13).wrote K3 (by omega); have hA1 := hA1.wrote K3 (by omega); have hC1 := hC1.wrote K3 (by omega)
        have hr1 := hr1.wrote E14 (K3 _ (by omega)) hz3; have hG := grownBy_wrote hG (Ehr1.trans E13) E14 K3 hz3 (by first | exact .inr rfl | omega); refine Wo_nil ?_; refine ⟨trivial, ?_⟩
        refine Wh_take 10 rfl (by kernel_rfl) (by kernel_rfl) rfl (fun _ _ => opv_assign (v := .bool _) rfl) trivial ?_; refine Wh_done (by kernel_rfl) ?_; rotate_left; exact WhAll_nil; exact WhAll_nil; exact WhAll_nil; exact WhAll_nil
        exact WhAll_nil; refine WhAll_cons rfl ?_ ?_; refine Wo (v := .agg _) rfl (opv_load2 Tryd.isAgg53 Tryd.sizeOf53 rfl (hB2.ext E10)) ?_; refine Wo_nil ?_; refine ⟨trivial, ?_⟩; refine Wh_all (rs := [0, 3, 8]) (by kernel_rfl) rfl ?_
        refine WhAll_cons rfl ?_ ?_; refine Wo (v := .agg _) rfl (opv_load2 Tryd.isAgg53 Tryd.sizeOf53 rfl (hB2.ext E10)) ?_; refine Wo_nil ?_; refine ⟨trivial, ?_⟩; refine Wh_all (rs := [3, 8]) (by kernel_rfl) rfl ?_
        refine WhAll_cons rfl ?_ ?_; refine Wo_call rfl (opc2 (a := .pointer _) (b := .agg _) Tryd.call51 rfl rfl) (kD _ _ (by assumption) (by omega) ((hA.ext E10)) (by omega)) ?_; rintro _ w9 ⟨k2, t1, n1, rfl, E11, hr1, hy4⟩
        (try dsimp only at hy4); have hlhr1 := hr1.lt; have Ehr1 := hr1.old; have hB1 := (hB1.ext E10).grown E11 (by simp only [ne_eq, Option.some.injEq]; omega)
        have hB2 := (hB2.ext E10).grown E11 (by simp only [ne_eq, Option.some.injEq]; omega); have hA := (hA.ext E10).grown E11 (by omega); have hC := (hC.ext E10).grown E11 (by omega); have hG := grownBy_trans hG E11; have hs8 := E11.size
        refine Wo_nil ?_; refine ⟨trivial, ?_⟩; refine Wh_all (rs := [4, 8]) (by kernel_rfl) rfl ?_; refine WhAll_cons rfl ?_ ?_
        refine Wo_call rfl (opc2 (a := .agg _) (b := .agg _) Tryd.call78 rfl rfl) (kS _ _ _ _ (by assumption) ((OwnedB.read hA)) ((OwnedB.read hC))) ?_; rintro _ w10 ⟨u3, q2, rfl, E12, hA1, hC1, icu3, icq2, gwu3⟩; have hr1 := hr1.ext E12
        have hG := grownBy_ext hG E12; have hs9 := E12.size; refine Wo_nil ?_; refine ⟨trivial, ?_⟩; refine Wh_take 5 rfl (by kernel_rfl) (by kernel_rfl) rfl (fun _ _ => opv_move (v := .tuple _) rfl) trivial ?_
        refine Wh_take 6 rfl (by kernel_rfl) (by kernel_rfl) rfl (fun _ _ => opv_extract (v := .agg _) rfl rfl) trivial ?_; refine Wh_take 7 rfl (by kernel_rfl) (by kernel_rfl) rfl (fun _ _ => opv_extract (v := .bool _) rfl rfl) trivial ?_
        refine Wh_all (rs := [8]) (by kernel_rfl) rfl ?_; refine WhAll_cons rfl ?_ ?_; refine Wo_alloc2 rfl flat53 ?_; rintro b3 w11 hb3 E13 hB3; have hlb3 := hB3.lt; have hr1 := hr1.ext E13; have hG := grownBy_ext hG E13
        have hs10 := E13.size; refine Wo_nil ?_; refine ⟨trivial, ?_⟩; refine Wh_all (rs := [9]) (by kernel_rfl) rfl ?_; refine WhAll_cons rfl ?_ ?_
        refine Wo_st2 rfl Tryd.sizeOf53 rfl rfl (by first | rfl | assumption) (by first | rfl | assumption) hB3 (by omega) ((Ehr1.trans E12).trans E13) ?_; rintro w12 E14 hB3 K3 hz3
        have E15 := (E12.trans E13).wroteAt ((Ehr1.trans E12).trans E13) E14 K3 hz3 (by omega); have szE15 := E15.size; have E16 := E13.wroteAt ((Ehr1.trans E12).trans E13) E14 K3 hz3 (by omega); have szE16 := E16.size
        have hB1 := (hB1.ext (E12.trans E13)).of_heap (K3 _ (by omega)); have hB2 := (hB2.ext (E12.trans E13)).of_heap (K3 _ (by omega)); have hA := (hA.ext (E12.trans E13)).wrote K3 (by omega)
        have hC := (hC.ext (E12.trans E13)).wrote K3 (by omega); have hA1 := (hA1.ext E13).wrote K3 (by omega); have hC1 := (hC1.ext E13).wrote K3 (by omega); have hr1 := hr1.wrote E14 (K3 _ (by omega)) hz3
        have hG := grownBy_wrote hG ((Ehr1.trans E12).trans E13) E14 K3 hz3 (by first | exact .inr rfl | omega); refine Wo_nil ?_; refine ⟨trivial, ?_⟩
        refine Wh_take 10 rfl (by kernel_rfl) (by kernel_rfl) rfl (fun _ _ => opv_assign (v := .bool _) rfl) trivial ?_; refine Wh_done (by kernel_rfl) ?_; rotate_left; exact WhAll_nil; exact WhAll_nil; refine WhAll_cons rfl ?_ ?_
        refine Wo_alloc2 rfl flat53 ?_; rintro b3 w10 hb3 E12 hB3; have hlb3 := hB3.lt; have hr1 := hr1.ext E12; have hG := grownBy_ext hG E12; have hs9 := E12.size; refine Wo_nil ?_; refine ⟨trivial, ?_⟩
        refine Wh_all (rs := [4]) (by kernel_rfl) rfl ?_; refine WhAll_cons rfl ?_ ?_
        refine Wo_call rfl (opc2 (a := .agg _) (b := .agg _) Tryd.call78 rfl rfl) (kS _ _ _ _ (by assumption) ((Mono.mono E12 (OwnedB.read hA))) ((Mono.mono E12 (OwnedB.read hC)))) ?_
        rintro _ w11 ⟨u3, q2, rfl, E13, hA1, hC1, icu3, icq2, gwu3⟩; have hr1 := hr1.ext E13; have hG := grownBy_ext hG E13; have hs10 := E13.size; refine Wo_nil ?_; refine ⟨trivial, ?_⟩
        refine Wh_take 5 rfl (by kernel_rfl) (by kernel_rfl) rfl (fun _ _ => opv_move (v := .tuple _) rfl) trivial ?_; refine Wh_take 6 rfl (by kernel_rfl) (by kernel_rfl) rfl (fun _ _ => opv_extract (v := .agg _) rfl rfl) trivial ?_
        refine Wh_take 7 rfl (by kernel_rfl) (by kernel_rfl) rfl (fun _ _ => opv_extract (v := .bool _) rfl rfl) trivial ?_; refine Wh_all (rs := [9]) (by kernel_rfl) rfl ?_; refine WhAll_cons rfl ?_ ?_
        refine Wo_st2 rfl Tryd.sizeOf53 rfl rfl (by first | rfl | assumption) (by first | rfl | assumption) (hB3.ext E13) (by omega) ((Ehr1.trans E12).trans E13) ?_; rintro w12 E14 hB3 K3 hz3
        have E15 := (E12.trans E13).wroteAt ((Ehr1.trans E12).trans E13) E14 K3 hz3 (by omega); have szE15 := E15.size; have hB1 := (hB1.ext (E12.trans E13)).of_heap (K3 _ (by omega))
        have hB2 := (hB2.ext (E12.trans E13)).of_heap (K3 _ (by omega)); have hA := (hA.ext (E12.trans E13)).wrote K3 (by omega); have hC := (hC.ext (E12.trans E13)).wrote K3 (by omega); have hA1 := hA1.wrote K3 (by omega)
        have hC1 := hC1.wrote K3 (by omega); have hr1 := hr1.wrote E14 (K3 _ (by omega)) hz3; have hG := grownBy_wrote hG ((Ehr1.trans E12).trans E13) E14 K3 hz3 (by first | exact .inr rfl | omega); refine Wo_nil ?_; refine ⟨trivial, ?_⟩
        refine Wh_take 10 rfl (by kernel_rfl) (by kernel_rfl) rfl (fun _ _ => opv_assign (v := .bool _) rfl) trivial ?_; refine Wh_done (by kernel_rfl) ?_; rotate_left; exact WhAll_nil; exact WhAll_nil; exact WhAll_nil
        refine WhAll_cons rfl ?_ ?_; refine Wo_alloc2 rfl flat53 ?_; rintro b3 w9 hb3 E11 hB3; have hlb3 := hB3.lt; have hG := grownBy_ext hG E11; have hr := hr.ext E11; have hs8 := E11.size; refine Wo_nil ?_; refine ⟨trivial, ?_⟩
        refine Wh_all (rs := [3]) (by kernel_rfl) rfl ?_; refine WhAll_cons rfl ?_ ?_
        refine Wo_call rfl (opc2 (a := .pointer _) (b := .agg _) Tryd.call51 rfl rfl) (kD _ _ (by assumption) (by omega) ((hA.ext (E10.trans E11))) (by omega)) ?_; rintro _ w10 ⟨k2, t1, n1, rfl, E12, hr1, hy4⟩; (try dsimp only at hy4)
        have hlhr1 := hr1.lt; have Ehr1 := hr1.old; have hB1 := (hB1.ext (E10.trans E11)).grown E12 (by simp only [ne_eq, Option.some.injEq]; omega)
        have hB2 := (hB2.ext (E10.trans E11)).grown E12 (by simp only [ne_eq, Option.some.injEq]; omega); have hA := (hA.ext (E10.trans E11)).grown E12 (by omega); have hC := (hC.ext (E10.trans E11)).grown E12 (by omega)
        have hB3 := hB3.grown E12 (by simp only [ne_eq, Option.some.injEq]; omega); have hG := grownBy_trans hG E12; have hs9 := E12.size; refine Wo_nil ?_; refine ⟨trivial, ?_⟩; refine Wh_all (rs := [4]) (by kernel_rfl) rfl ?_
        refine WhAll_cons rfl ?_ ?_; refine Wo_call rfl (opc2 (a := .agg _) (b := .agg _) Tryd.call78 rfl rfl) (kS _ _ _ _ (by assumption) ((OwnedB.read hA)) ((OwnedB.read hC))) ?_
        rintro _ w11 ⟨u3, q2, rfl, E13, hA1, hC1, icu3, icq2, gwu3⟩; have hr1 := hr1.ext E13; have hG := grownBy_ext hG E13; have hs10 := E13.size; refine Wo_nil ?_; refine ⟨trivial, ?_⟩
        refine Wh_take 5 rfl (by kernel_rfl) (by kernel_rfl) rfl (fun _ _ => opv_move (v := .tuple _) rfl) trivial ?_; refine Wh_take 6 rfl (by kernel_rfl) (by kernel_rfl) rfl (fun _ _ => opv_extract (v := .agg _) rfl rfl) trivial ?_
        refine Wh_take 7 rfl (by kernel_rfl) (by kernel_rfl) rfl (fun _ _ => opv_extract (v := .bool _) rfl rfl) trivial ?_; refine Wh_all (rs := [9]) (by kernel_rfl) rfl ?_; refine WhAll_cons rfl ?_ ?_
        refine Wo_st2 rfl Tryd.sizeOf53 rfl rfl (by first | rfl | assumption) (by first | rfl | assumption) (hB3.ext E13) (by omega) (Ehr1.trans E13) ?_; rintro w12 E14 hB3 K3 hz3; have hB1 := (hB1.ext E13).of_heap (K3 _ (by omega))
        have hB2 := (hB2.ext E13).of_heap (K3 _ (by omega)); have hA := (hA.ext E13).wrote K3 (by omega); have hC := (hC.ext E13).wrote K3 (by omega); have hA1 := hA1.wrote K3 (by omega); have hC1 := hC1.wrote K3 (by omega)
        have hr1 := hr1.wrote E14 (K3 _ (by omega)) hz3; have hG := grownBy_wrote hG (Ehr1.trans E13) E14 K3 hz3 (by first | exact .inr rfl | omega); refine Wo_nil ?_; refine ⟨trivial, ?_⟩
        refine Wh_take 10 rfl (by kernel_rfl) (by kernel_rfl) rfl (fun _ _ => opv_assign (v := .bool _) rfl) trivial ?_; refine Wh_done (by kernel_rfl) ?_; rotate_left; exact WhAll_nil; exact WhAll_nil; exact WhAll_nil; exact WhAll_nil
        refine WhAll_cons rfl ?_ ?_; refine Wo_call rfl (opc2 (a := .pointer _) (b := .agg _) Tryd.call51 rfl rfl) (kD _ _ (by assumption) (by omega) ((hA.ext E10)) (by omega)) ?_; rintro _ w9 ⟨k2, t1, n1, rfl, E11, hr1, hy4⟩
        (try dsimp only at hy4); have hlhr1 := hr1.lt; have Ehr1 := hr1.old; have hB1 := (hB1.ext E10).grown E11 (by simp only [ne_eq, Option.some.injEq]; omega)
        have hB2 := (hB2.ext E10).grown E11 (by simp only [ne_eq, Option.some.injEq]; omega); have hA := (hA.ext E10).grown E11 (by omega); have hC := (hC.ext E10).grown E11 (by omega); have hG := grownBy_trans hG E11; have hs8 := E11.size
        refine Wo_nil ?_; refine ⟨trivial, ?_⟩; refine Wh_all (rs := [0, 8]) (by kernel_rfl) rfl ?_; refine WhAll_cons rfl ?_ ?_; refine Wo (v := .agg _) rfl (opv_load2 Tryd.isAgg53 Tryd.sizeOf53 rfl hB2) ?_; refine Wo_nil ?_
        refine ⟨trivial, ?_⟩; refine Wh_all (rs := [4, 8]) (by kernel_rfl) rfl ?_; refine WhAll_cons rfl ?_ ?_
        refine Wo_call rfl (opc2 (a := .agg _) (b := .agg _) Tryd.call78 rfl rfl) (kS _ _ _ _ (by assumption) ((OwnedB.read hA)) ((OwnedB.read hC))) ?_; rintro _ w10 ⟨u3, q2, rfl, E12, hA1, hC1, icu3, icq2, gwu3⟩; have hr1 := hr1.ext E12
        have hG := grownBy_ext hG E12; have hs9 := E12.size; refine Wo_nil ?_; refine ⟨trivial, ?_⟩; refine Wh_take 5 rfl (by kernel_rfl) (by kernel_rfl) rfl (fun _ _ => opv_move (v := .tuple _) rfl) trivial ?_
        refine Wh_take 6 rfl (by kernel_rfl) (by kernel_rfl) rfl (fun _ _ => opv_extract (v := .agg _) rfl rfl) trivial ?_; refine Wh_take 7 rfl (by kernel_rfl) (by kernel_rfl) rfl (fun _ _ => opv_extract (v := .bool _) rfl rfl) trivial ?_
        refine Wh_all (rs := [8]) (by kernel_rfl) rfl ?_; refine WhAll_cons rfl ?_ ?_; refine Wo_alloc2 rfl flat53 ?_; rintro b3 w11 hb3 E13 hB3; have hlb3 := hB3.lt; have hr1 := hr1.ext E13; have hG := grownBy_ext hG E13
        have hs10 := E13.size; refine Wo_nil ?_; refine ⟨trivial, ?_⟩; refine Wh_all (rs := [9]) (by kernel_rfl) rfl ?_; refine WhAll_cons rfl ?_ ?_
        refine Wo_st2 rfl Tryd.sizeOf53 rfl rfl (by first | rfl | assumption) (by first | rfl | assumption) hB3 (by omega) ((Ehr1.trans E12).trans E13) ?_; rintro w12 E14 hB3 K3 hz3
        have E15 := (E12.trans E13).wroteAt ((Ehr1.trans E12).trans E13) E14 K3 hz3 (by omega); have szE15 := E15.size; have E16 := E13.wroteAt ((Ehr1.trans E12).trans E13) E14 K3 hz3 (by omega); have szE16 := E16.size
        have hB1 := (hB1.ext (E12.trans E13)).of_heap (K3 _ (by omega)); have hB2 := (hB2.ext (E12.trans E13)).of_heap (K3 _ (by omega)); have hA := (hA.ext (E12.trans E13)).wrote K3 (by omega)
        have hC := (hC.ext (E12.trans E13)).wrote K3 (by omega); have hA1 := (hA1.ext E13).wrote K3 (by omega); have hC1 := (hC1.ext E13).wrote K3 (by omega); have hr1 := hr1.wrote E14 (K3 _ (by omega)) hz3
        have hG := grownBy_wrote hG ((Ehr1.trans E12).trans E13) E14 K3 hz3 (by first | exact .inr rfl | omega); refine Wo_nil ?_; refine ⟨trivial, ?_⟩
        refine Wh_take 10 rfl (by kernel_rfl) (by kernel_rfl) rfl (fun _ _ => opv_assign (v := .bool _) rfl) trivial ?_; refine Wh_done (by kernel_rfl) ?_; rotate_left; exact WhAll_nil; exact WhAll_nil; refine WhAll_cons rfl ?_ ?_
        refine Wo_alloc2 rfl flat53 ?_; rintro b3 w10 hb3 E12 hB3; have hlb3 := hB3.lt; have hr1 := hr1.ext E12; have hG := grownBy_ext hG E12; have hs9 := E12.size; refine Wo_nil ?_; refine ⟨trivial, ?_⟩
        refine Wh_all (rs := [4]) (by kernel_rfl) rfl ?_; refine WhAll_cons rfl ?_ ?_
        refine Wo_call rfl (opc2 (a := .agg _) (b := .agg _) Tryd.call78 rfl rfl) (kS _ _ _ _ (by assumption) ((Mono.mono E12 (OwnedB.read hA))) ((Mono.mono E12 (OwnedB.read hC)))) ?_
        rintro _ w11 ⟨u3, q2, rfl, E13, hA1, hC1, icu3, icq2, gwu3⟩; have hr1 := hr1.ext E13; have hG := grownBy_ext hG E13; have hs10 := E13.size; refine Wo_nil ?_; refine ⟨trivial, ?_⟩
        refine Wh_take 5 rfl (by kernel_rfl) (by kernel_rfl) rfl (fun _ _ => opv_move (v := .tuple _) rfl) trivial ?_; refine Wh_take 6 rfl (by kernel_rfl) (by kernel_rfl) rfl (fun _ _ => opv_extract (v := .agg _) rfl rfl) trivial ?_
        refine Wh_take 7 rfl (by kernel_rfl) (by kernel_rfl) rfl (fun _ _ => opv_extract (v := .bool _) rfl rfl) trivial ?_; refine Wh_all (rs := [9]) (by kernel_rfl) rfl ?_; refine WhAll_cons rfl ?_ ?_
        refine Wo_st2 rfl Tryd.sizeOf53 rfl rfl (by first | rfl | assumption) (by first | rfl | assumption) (hB3.ext E13) (by omega) ((Ehr1.trans E12).trans E13) ?_; rintro w12 E14 hB3 K3 hz3
        have E15 := (E12.trans E13).wroteAt ((Ehr1.trans E12).trans E13) E14 K3 hz3 (by omega); have szE15 := E15.size; have hB1 := (hB1.ext (E12.trans E13)).of_heap (K3 _ (by omega))
        have hB2 := (hB2.ext (E12.trans E13)).of_heap (K3 _ (by omega)); have hA := (hA.ext (E12.trans E13)).wrote K3 (by omega); have hC := (hC.ext (E12.trans E13)).wrote K3 (by omega); have hA1 := hA1.wrote K3 (by omega)
        have hC1 := hC1.wrote K3 (by omega); have hr1 := hr1.wrote E14 (K3 _ (by omega)) hz3; have hG := grownBy_wrote hG ((Ehr1.trans E12).trans E13) E14 K3 hz3 (by first | exact .inr rfl | omega); refine Wo_nil ?_; refine ⟨trivial, ?_⟩
        refine Wh_take 10 rfl (by kernel_rfl) (by kernel_rfl) rfl (fun _ _ => opv_assign (v := .bool _) rfl) trivial ?_; refine Wh_done (by kernel_rfl) ?_; rotate_left; exact WhAll_nil; exact WhAll_nil; exact WhAll_nil
        refine WhAll_cons rfl ?_ ?_; refine Wo_alloc2 rfl flat53 ?_; rintro b3 w10 hb3 E12 hB3; have hlb3 := hB3.lt; have hr1 := hr1.ext E12; have hG := grownBy_ext hG E12; have hs9 := E12.size; refine Wo_nil ?_; refine ⟨trivial, ?_⟩
        refine Wh_all (rs := [0]) (by kernel_rfl) rfl ?_; refine WhAll_cons rfl ?_ ?_; refine Wo (v := .agg _) rfl (opv_load2 Tryd.isAgg53 Tryd.sizeOf53 rfl (hB2.ext E12)) ?_; refine Wo_nil ?_; refine ⟨trivial, ?_⟩
        refine Wh_all (rs := [4]) (by kernel_rfl) rfl ?_; refine WhAll_cons rfl ?_ ?_
        refine Wo_call rfl (opc2 (a := .agg _) (b := .agg _) Tryd.call78 rfl rfl) (kS _ _ _ _ (by assumption) ((Mono.mono E12 (OwnedB.read hA))) ((Mono.mono E12 (OwnedB.read hC)))) ?_
        rintro _ w11 ⟨u3, q2, rfl, E13, hA1, hC1, icu3, icq2, gwu3⟩; have hr1 := hr1.ext E13; have hG := grownBy_ext hG E13; have hs10 := E13.size; refine Wo_nil ?_; refine ⟨trivial, ?_⟩
        refine Wh_take 5 rfl (by kernel_rfl) (by kernel_rfl) rfl (fun _ _ => opv_move (v := .tuple _) rfl) trivial ?_; refine Wh_take 6 rfl (by kernel_rfl) (by kernel_rfl) rfl (fun _ _ => opv_extract (v := .agg _) rfl rfl) trivial ?_
        refine Wh_take 7 rfl (by kernel_rfl) (by kernel_rfl) rfl (fun _ _ => opv_extract (v := .bool _) rfl rfl) trivial ?_; refine Wh_all (rs := [9]) (by kernel_rfl) rfl ?_; refine WhAll_cons rfl ?_ ?_
        refine Wo_st2 rfl Tryd.sizeOf53 rfl rfl (by first | rfl | assumption) (by first | rfl | assumption) (hB3.ext E13) (by omega) ((Ehr1.trans E12).trans E13) ?_; rintro w12 E14 hB3 K3 hz3
        have E15 := (E12.trans E13).wroteAt ((Ehr1.trans E12).trans E13) E14 K3 hz3 (by omega); have szE15 := E15.size; have hB1 := (hB1.ext (E12.trans E13)).of_heap (K3 _ (by omega))
        have hB2 := (hB2.ext (E12.trans E13)).of_heap (K3 _ (by omega)); have hA := (hA.ext (E12.trans E13)).wrote K3 (by omega); have hC := (hC.ext (E12.trans E13)).wrote K3 (by omega); have hA1 := hA1.wrote K3 (by omega)
        have hC1 := hC1.wrote K3 (by omega); have hr1 := hr1.wrote E14 (K3 _ (by omega)) hz3; have hG := grownBy_wrote hG ((Ehr1.trans E12).trans E13) E14 K3 hz3 (by first | exact .inr rfl | omega); refine Wo_nil ?_; refine ⟨trivial, ?_⟩
        refine Wh_take 10 rfl (by kernel_rfl) (by kernel_rfl) rfl (fun _ _ => opv_assign (v := .bool _) rfl) trivial ?_; refine Wh_done (by kernel_rfl) ?_; rotate_left; exact WhAll_nil; exact WhAll_nil; exact WhAll_nil; exact WhAll_nil
        refine WhAll_cons rfl ?_ ?_; refine Wo_alloc2 rfl flat53 ?_; rintro b3 w9 hb3 E11 hB3; have hlb3 := hB3.lt; have hG := grownBy_ext hG E11; have hr := hr.ext E11; have hs8 := E11.size; refine Wo_nil ?_; refine ⟨trivial, ?_⟩
        refine Wh_all (rs := [0, 3]) (by kernel_rfl) rfl ?_; refine WhAll_cons rfl ?_ ?_; refine Wo (v := .agg _) rfl (opv_load2 Tryd.isAgg53 Tryd.sizeOf53 rfl (hB2.ext (E10.trans E11))) ?_; refine Wo_nil ?_; refine ⟨trivial, ?_⟩
        refine Wh_all (rs := [3]) (by kernel_rfl) rfl ?_; refine WhAll_cons rfl ?_ ?_
        refine Wo_call rfl (opc2 (a := .pointer _) (b := .agg _) Tryd.call51 rfl rfl) (kD _ _ (by assumption) (by omega) ((hA.ext (E10.trans E11))) (by omega)) ?_; rintro _ w10 ⟨k2, t1, n1, rfl, E12, hr1, hy4⟩; (try dsimp only at hy4)
        have hlhr1 := hr1.lt; have Ehr1 := hr1.old; have hB1 := (hB1.ext (E10.trans E11)).grown E12 (by simp only [ne_eq, Option.some.injEq]; omega)
        have hB2 := (hB2.ext (E10.trans E11)).grown E12 (by simp only [ne_eq, Option.some.injEq]; omega); have hA := (hA.ext (E10.trans E11)).grown E12 (by omega); have hC := (hC.ext (E10.trans E11)).grown E12 (by omega)
        have hB3 := hB3.grown E12 (by simp only [ne_eq, Option.some.injEq]; omega); have hG := grownBy_trans hG E12; have hs9 := E12.size; refine Wo_nil ?_; refine ⟨trivial, ?_⟩; refine Wh_all (rs := [4]) (by kernel_rfl) rfl ?_
        refine WhAll_cons rfl ?_ ?_; refine Wo_call rfl (opc2 (a := .agg _) (b := .agg _) Tryd.call78 rfl rfl) (kS _ _ _ _ (by assumption) ((OwnedB.read hA)) ((OwnedB.read hC))) ?_
        rintro _ w11 ⟨u3, q2, rfl, E13, hA1, hC1, icu3, icq2, gwu3⟩; have hr1 := hr1.ext E13; have hG := grownBy_ext hG E13; have hs10 := E13.size; refine Wo_nil ?_; refine ⟨trivial, ?_⟩
        refine Wh_take 5 rfl (by kernel_rfl) (by kernel_rfl) rfl (fun _ _ => opv_move (v := .tuple _) rfl) trivial ?_; refine Wh_take 6 rfl (by kernel_rfl) (by kernel_rfl) rfl (fun _ _ => opv_extract (v := .agg _) rfl rfl) trivial ?_
        refine Wh_take 7 rfl (by kernel_rfl) (by kernel_rfl) rfl (fun _ _ => opv_extract (v := .bool _) rfl rfl) trivial ?_; refine Wh_all (rs := [9]) (by kernel_rfl) rfl ?_; refine WhAll_cons rfl ?_ ?_
        refine Wo_st2 rfl Tryd.sizeOf53 rfl rfl (by first | rfl | assumption) (by first | rfl | assumption) (hB3.ext E13) (by omega) (Ehr1.trans E13) ?_; rintro w12 E14 hB3 K3 hz3; have hB1 := (hB1.ext E13).of_heap (K3 _ (by omega))
        have hB2 := (hB2.ext E13).of_heap (K3 _ (by omega)); have hA := (hA.ext E13).wrote K3 (by omega); have hC := (hC.ext E13).wrote K3 (by omega); have hA1 := hA1.wrote K3 (by omega); have hC1 := hC1.wrote K3 (by omega)
        have hr1 := hr1.wrote E14 (K3 _ (by omega)) hz3; have hG := grownBy_wrote hG (Ehr1.trans E13) E14 K3 hz3 (by first | exact .inr rfl | omega); refine Wo_nil ?_; refine ⟨trivial, ?_⟩
        refine Wh_take 10 rfl (by kernel_rfl) (by kernel_rfl) rfl (fun _ _ => opv_assign (v := .bool _) rfl) trivial ?_; refine Wh_done (by kernel_rfl) ?_; rotate_left; exact WhAll_nil; exact WhAll_nil; exact WhAll_nil
        refine WhAll_cons rfl ?_ ?_; refine Wo_call rfl (opc2 (a := .pointer _) (b := .agg _) Tryd.call51 rfl rfl) (kD _ _ (by assumption) (by omega) ((hA.ext (E10.trans E11))) (by omega)) ?_; rintro _ w10 ⟨k2, t1, n1, rfl, E12, hr1, hy4⟩
        (try dsimp only at hy4); have hlhr1 := hr1.lt; have Ehr1 := hr1.old; have hB1 := (hB1.ext (E10.trans E11)).grown E12 (by simp only [ne_eq, Option.some.injEq]; omega)
        have hB2 := (hB2.ext (E10.trans E11)).grown E12 (by simp only [ne_eq, Option.some.injEq]; omega); have hA := (hA.ext (E10.trans E11)).grown E12 (by omega); have hC := (hC.ext (E10.trans E11)).grown E12 (by omega)
        have hB3 := hB3.grown E12 (by simp only [ne_eq, Option.some.injEq]; omega); have hG := grownBy_trans hG E12; have hs9 := E12.size; refine Wo_nil ?_; refine ⟨trivial, ?_⟩; refine Wh_all (rs := [0]) (by kernel_rfl) rfl ?_
        refine WhAll_cons rfl ?_ ?_; refine Wo (v := .agg _) rfl (opv_load2 Tryd.isAgg53 Tryd.sizeOf53 rfl hB2) ?_; refine Wo_nil ?_; refine ⟨trivial, ?_⟩; refine Wh_all (rs := [4]) (by kernel_rfl) rfl ?_; refine WhAll_cons rfl ?_ ?_
        refine Wo_call rfl (opc2 (a := .agg _) (b := .agg _) Tryd.call78 rfl rfl) (kS _ _ _ _ (by assumption) ((OwnedB.read hA)) ((OwnedB.read hC))) ?_; rintro _ w11 ⟨u3, q2, rfl, E13, hA1, hC1, icu3, icq2, gwu3⟩; have hr1 := hr1.ext E13
        have hG := grownBy_ext hG E13; have hs10 := E13.size; refine Wo_nil ?_; refine ⟨trivial, ?_⟩; refine Wh_take 5 rfl (by kernel_rfl) (by kernel_rfl) rfl (fun _ _ => opv_move (v := .tuple _) rfl) trivial ?_
        refine Wh_take 6 rfl (by kernel_rfl) (by kernel_rfl) rfl (fun _ _ => opv_extract (v := .agg _) rfl rfl) trivial ?_; refine Wh_take 7 rfl (by kernel_rfl) (by kernel_rfl) rfl (fun _ _ => opv_extract (v := .bool _) rfl rfl) trivial ?_
        refine Wh_all (rs := [9]) (by kernel_rfl) rfl ?_; refine WhAll_cons rfl ?_ ?_; refine Wo_st2 rfl Tryd.sizeOf53 rfl rfl (by first | rfl | assumption) (by first | rfl | assumption) (hB3.ext E13) (by omega) (Ehr1.trans E13) ?_
        rintro w12 E14 hB3 K3 hz3; have hB1 := (hB1.ext E13).of_heap (K3 _ (by omega)); have hB2 := (hB2.ext E13).of_heap (K3 _ (by omega)); have hA := (hA.ext E13).wrote K3 (by omega); have hC := (hC.ext E13).wrote K3 (by omega)
        have hA1 := hA1.wrote K3 (by omega); have hC1 := hC1.wrote K3 (by omega); have hr1 := hr1.wrote E14 (K3 _ (by omega)) hz3; have hG := grownBy_wrote hG (Ehr1.trans E13) E14 K3 hz3 (by first | exact .inr rfl | omega); refine Wo_nil ?_
        refine ⟨trivial, ?_⟩; refine Wh_take 10 rfl (by kernel_rfl) (by kernel_rfl) rfl (fun _ _ => opv_assign (v := .bool _) rfl) trivial ?_; refine Wh_done (by kernel_rfl) ?_; rotate_left; exact WhAll_nil; exact WhAll_nil; exact WhAll_nil
        exact WhAll_nil; exact WhAll_nil; refine WhAll_cons rfl ?_ ?_; refine Wo_alloc2 rfl flat53 ?_; rintro b3 w9 hb3 E11 hB3; have hlb3 := hB3.lt; have hG := grownBy_ext hG E11; have hr := hr.ext E11; have hs8 := E11.size
        refine Wo_nil ?_; refine ⟨trivial, ?_⟩; refine Wh_all (rs := [0, 2]) (by kernel_rfl) rfl ?_; refine WhAll_cons rfl ?_ ?_; refine Wo (v := .agg _) rfl (opv_load2 Tryd.isAgg53 Tryd.sizeOf53 rfl (hB2.ext (E10.trans E11))) ?_
        refine Wo_nil ?_; refine ⟨trivial, ?_⟩; refine Wh_all (rs := [2]) (by kernel_rfl) rfl ?_; refine WhAll_cons rfl ?_ ?_; refine Wo (v := .agg _) rfl (opv_load2 Tryd.isAgg53 Tryd.sizeOf53 rfl (hB2.ext (E10.trans E11))) ?_
        refine Wo_nil ?_; refine ⟨trivial, ?_⟩; refine Wh_all (rs := [3]) (by kernel_rfl) rfl ?_; refine WhAll_cons rfl ?_ ?_
        refine Wo_call rfl (opc2 (a := .pointer _) (b := .agg _) Tryd.call51 rfl rfl) (kD _ _ (by assumption) (by omega) ((hA.ext (E10.trans E11))) (by omega)) ?_; rintro _ w10 ⟨k2, t1, n1, rfl, E12, hr1, hy4⟩; (try dsimp only at hy4)
        have hlhr1 := hr1.lt; have Ehr1 := hr1.old; have hB1 := (hB1.ext (E10.trans E11)).grown E12 (by simp only [ne_eq, Option.some.injEq]; omega)
        have hB2 := (hB2.ext (E10.trans E11)).grown E12 (by simp only [ne_eq, Option.some.injEq]; omega); have hA := (hA.ext (E10.trans E11)).grown E12 (by omega); have hC := (hC.ext (E10.trans E11)).grown E12 (by omega)
        have hB3 := hB3.grown E12 (by simp only [ne_eq, Option.some.injEq]; omega); have hG := grownBy_trans hG E12; have hs9 := E12.size; refine Wo_nil ?_; refine ⟨trivial, ?_⟩; refine Wh_all (rs := [4]) (by kernel_rfl) rfl ?_
        refine WhAll_cons rfl ?_ ?_; refine Wo_call rfl (opc2 (a := .agg _) (b := .agg _) Tryd.call78 rfl rfl) (kS _ _ _ _ (by assumption) ((OwnedB.read hA)) ((OwnedB.read hC))) ?_
        rintro _ w11 ⟨u3, q2, rfl, E13, hA1, hC1, icu3, icq2, gwu3⟩; have hr1 := hr1.ext E13; have hG := grownBy_ext hG E13; have hs10 := E13.size; refine Wo_nil ?_; refine ⟨trivial, ?_⟩
        refine Wh_take 5 rfl (by kernel_rfl) (by kernel_rfl) rfl (fun _ _ => opv_move (v := .tuple _) rfl) trivial ?_; refine Wh_take 6 rfl (by kernel_rfl) (by kernel_rfl) rfl (fun _ _ => opv_extract (v := .agg _) rfl rfl) trivial ?_
        refine Wh_take 7 rfl (by kernel_rfl) (by kernel_rfl) rfl (fun _ _ => opv_extract (v := .bool _) rfl rfl) trivial ?_; refine Wh_all (rs := [9]) (by kernel_rfl) rfl ?_; refine WhAll_cons rfl ?_ ?_
        refine Wo_st2 rfl Tryd.sizeOf53 rfl rfl (by first | rfl | assumption) (by first | rfl | assumption) (hB3.ext E13) (by omega) (Ehr1.trans E13) ?_; rintro w12 E14 hB3 K3 hz3; have hB1 := (hB1.ext E13).of_heap (K3 _ (by omega))
        have hB2 := (hB2.ext E13).of_heap (K3 _ (by omega)); have hA := (hA.ext E13).wrote K3 (by omega); have hC := (hC.ext E13).wrote K3 (by omega); have hA1 := hA1.wrote K3 (by omega); have hC1 := hC1.wrote K3 (by omega)
        have hr1 := hr1.wrote E14 (K3 _ (by omega)) hz3; have hG := grownBy_wrote hG (Ehr1.trans E13) E14 K3 hz3 (by first | exact .inr rfl | omega); refine Wo_nil ?_; refine ⟨trivial, ?_⟩
        refine Wh_take 10 rfl (by kernel_rfl) (by kernel_rfl) rfl (fun _ _ => opv_assign (v := .bool _) rfl) trivial ?_; refine Wh_done (by kernel_rfl) ?_; rotate_left; exact WhAll_nil; exact WhAll_nil; exact WhAll_nil; exact WhAll_nil
        refine WhAll_cons rfl ?_ ?_; refine Wo (v := .agg _) rfl (opv_load2 Tryd.isAgg53 Tryd.sizeOf53 rfl (hB2.ext (E10.trans E11))) ?_; refine Wo_nil ?_; refine ⟨trivial, ?_⟩; refine Wh_all (rs := [0, 3]) (by kernel_rfl) rfl ?_
        refine WhAll_cons rfl ?_ ?_; refine Wo (v := .agg _) rfl (opv_load2 Tryd.isAgg53 Tryd.sizeOf53 rfl (hB2.ext (E10.trans E11))) ?_; refine Wo_nil ?_; refine ⟨trivial, ?_⟩; refine Wh_all (rs := [3]) (by kernel_rfl) rfl ?_
        refine WhAll_cons rfl ?_ ?_; refine Wo_call rfl (opc2 (a := .pointer _) (b := .agg _) Tryd.call51 rfl rfl) (kD _ _ (by assumption) (by omega) ((hA.ext (E10.trans E11))) (by omega)) ?_; rintro _ w10 ⟨k2, t1, n1, rfl, E12, hr1, hy4⟩
        (try dsimp only at hy4); have hlhr1 := hr1.lt; have Ehr1 := hr1.old; have hB1 := (hB1.ext (E10.trans E11)).grown E12 (by simp only [ne_eq, Option.some.injEq]; omega)
        have hB2 := (hB2.ext (E10.trans E11)).grown E12 (by simp only [ne_eq, Option.some.injEq]; omega); have hA := (hA.ext (E10.trans E11)).grown E12 (by omega); have hC := (hC.ext (E10.trans E11)).grown E12 (by omega)
        have hB3 := hB3.grown E12 (by simp only [ne_eq, Option.some.injEq]; omega); have hG := grownBy_trans hG E12; have hs9 := E12.size; refine Wo_nil ?_; refine ⟨trivial, ?_⟩; refine Wh_all (rs := [4]) (by kernel_rfl) rfl ?_
        refine WhAll_cons rfl ?_ ?_; refine Wo_call rfl (opc2 (a := .agg _) (b := .agg _) Tryd.call78 rfl rfl) (kS _ _ _ _ (by assumption) ((OwnedB.read hA)) ((OwnedB.read hC))) ?_
        rintro _ w11 ⟨u3, q2, rfl, E13, hA1, hC1, icu3, icq2, gwu3⟩; have hr1 := hr1.ext E13; have hG := grownBy_ext hG E13; have hs10 := E13.size; refine Wo_nil ?_; refine ⟨trivial, ?_⟩
        refine Wh_take 5 rfl (by kernel_rfl) (by kernel_rfl) rfl (fun _ _ => opv_move (v := .tuple _) rfl) trivial ?_; refine Wh_take 6 rfl (by kernel_rfl) (by kernel_rfl) rfl (fun _ _ => opv_extract (v := .agg _) rfl rfl) trivial ?_
        refine Wh_take 7 rfl (by kernel_rfl) (by kernel_rfl) rfl (fun _ _ => opv_extract (v := .bool _) rfl rfl) trivial ?_; refine Wh_all (rs := [9]) (by kernel_rfl) rfl ?_; refine WhAll_cons rfl ?_ ?_
        refine Wo_st2 rfl Tryd.sizeOf53 rfl rfl (by first | rfl | assumption) (by first | rfl | assumption) (hB3.ext E13) (by omega) (Ehr1.trans E13) ?_; rintro w12 E14 hB3 K3 hz3; have hB1 := (hB1.ext E13).of_heap (K3 _ (by omega))
        have hB2 := (hB2.ext E13).of_heap (K3 _ (by omega)); have hA := (hA.ext E13).wrote K3 (by omega); have hC := (hC.ext E13).wrote K3 (by omega); have hA1 := hA1.wrote K3 (by omega); have hC1 := hC1.wrote K3 (by omega)
        have hr1 := hr1.wrote E14 (K3 _ (by omega)) hz3; have hG := grownBy_wrote hG (Ehr1.trans E13) E14 K3 hz3 (by first | exact .inr rfl | omega); refine Wo_nil ?_; refine ⟨trivial, ?_⟩
        refine Wh_take 10 rfl (by kernel_rfl) (by kernel_rfl) rfl (fun _ _ => opv_assign (v := .bool _) rfl) trivial ?_; refine Wh_done (by kernel_rfl) ?_; rotate_left; exact WhAll_nil; exact WhAll_nil; exact WhAll_nil
        refine WhAll_cons rfl ?_ ?_; refine Wo_call rfl (opc2 (a := .pointer _) (b := .agg _) Tryd.call51 rfl rfl) (kD _ _ (by assumption) (by omega) ((hA.ext (E10.trans E11))) (by omega)) ?_; rintro _ w10 ⟨k2, t1, n1, rfl, E12, hr1, hy4⟩
        (try dsimp only at hy4); have hlhr1 := hr1.lt; have Ehr1 := hr1.old; have hB1 := (hB1.ext (E10.trans E11)).grown E12 (by simp only [ne_eq, Option.some.injEq]; omega)
        have hB2 := (hB2.ext (E10.trans E11)).grown E12 (by simp only [ne_eq, Option.some.injEq]; omega); have hA := (hA.ext (E10.trans E11)).grown E12 (by omega); have hC := (hC.ext (E10.trans E11)).grown E12 (by omega)
        have hB3 := hB3.grown E12 (by simp only [ne_eq, Option.some.injEq]; omega); have hG := grownBy_trans hG E12; have hs9 := E12.size; refine Wo_nil ?_; refine ⟨trivial, ?_⟩; refine Wh_all (rs := [0]) (by kernel_rfl) rfl ?_
        refine WhAll_cons rfl ?_ ?_; refine Wo (v := .agg _) rfl (opv_load2 Tryd.isAgg53 Tryd.sizeOf53 rfl hB2) ?_; refine Wo_nil ?_; refine ⟨trivial, ?_⟩; refine Wh_all (rs := [4]) (by kernel_rfl) rfl ?_; refine WhAll_cons rfl ?_ ?_
        refine Wo_call rfl (opc2 (a := .agg _) (b := .agg _) Tryd.call78 rfl rfl) (kS _ _ _ _ (by assumption) ((OwnedB.read hA)) ((OwnedB.read hC))) ?_; rintro _ w11 ⟨u3, q2, rfl, E13, hA1, hC1, icu3, icq2, gwu3⟩; have hr1 := hr1.ext E13
        have hG := grownBy_ext hG E13; have hs10 := E13.size; refine Wo_nil ?_; refine ⟨trivial, ?_⟩; refine Wh_take 5 rfl (by kernel_rfl) (by kernel_rfl) rfl (fun _ _ => opv_move (v := .tuple _) rfl) trivial ?_
        refine Wh_take 6 rfl (by kernel_rfl) (by kernel_rfl) rfl (fun _ _ => opv_extract (v := .agg _) rfl rfl) trivial ?_; refine Wh_take 7 rfl (by kernel_rfl) (by kernel_rfl) rfl (fun _ _ => opv_extract (v := .bool _) rfl rfl) trivial ?_
        refine Wh_all (rs := [9]) (by kernel_rfl) rfl ?_; refine WhAll_cons rfl ?_ ?_; refine Wo_st2 rfl Tryd.sizeOf53 rfl rfl (by first | rfl | assumption) (by first | rfl | assumption) (hB3.ext E13) (by omega) (Ehr1.trans E13) ?_
        rintro w12 E14 hB3 K3 hz3; have hB1 := (hB1.ext E13).of_heap (K3 _ (by omega)); have hB2 := (hB2.ext E13).of_heap (K3 _ (by omega)); have hA := (hA.ext E13).wrote K3 (by omega); have hC := (hC.ext E13).wrote K3 (by omega)
        have hA1 := hA1.wrote K3 (by omega); have hC1 := hC1.wrote K3 (by omega); have hr1 := hr1.wrote E14 (K3 _ (by omega)) hz3; have hG := grownBy_wrote hG (Ehr1.trans E13) E14 K3 hz3 (by first | exact .inr rfl | omega); refine Wo_nil ?_
        refine ⟨trivial, ?_⟩; refine Wh_take 10 rfl (by kernel_rfl) (by kernel_rfl) rfl (fun _ _ => opv_assign (v := .bool _) rfl) trivial ?_; refine Wh_done (by kernel_rfl) ?_; rotate_left; exact WhAll_nil; exact WhAll_nil; exact WhAll_nil
        exact WhAll_nil; exact WhAll_nil; exact WhAll_nil
      all_goals exact ⟨(b3, u3, q2, ⟨if DkOk d then (doV d ⟨k2, t1, n1⟩).1.now else [], if DkOk d then (doV d ⟨k2, t1, n1⟩).1.past else []⟩, _, _, _), ⟨rfl, rfl, trivial⟩, by repeat (first | with_reducible exact Same.refl | refine Same.upd rfl ?_ | refine Same.upds rfl ?_ | refine Same.mix rfl ?_), hG, hr1, by omega, hB1, hB2, hB3, by omega, by omega, hA, hC, by omega, by omega, by omega, by omega, hA1, hC1, icu3, icq2, hd.do _⟩
    clear hr hG hA hC hB1 hB2 kD kS
    rintro ⟨b9, x1', x2', d', lo', hi', ok⟩ ρ8 w8 ⟨hG, hr, hs8, hB1, hB2, hB9, hlw8, hhw8, hA, hC, hbl', hlw', hhw', hb2', hA', hC', ic1', ic2', hd'⟩
    have E8' := hr.old
    cases ok
    · focus
        have szE8' := E8'.size; have szE7 := E7.size; have szEhr3 := Ehr3.size; have szE8 := E8.size; have szE7 := E7.size; have szE6 := E6.size; have szE5 := E5.size; have szE4 := E4.size; have szEhr2 := Ehr2.size; have szEhr1 := Ehr1.size
        have szE1 := E1.size; have szE0 := E0.size; refine W_seq ?_; refine W_region rfl ?_; refine Wo rfl (opv_move (v := .bool _) rfl) ?_; refine Wo_nil ?_; refine W_cond_false rfl ?_; refine W_skip ?_; refine W_region rfl ?_
        refine Wo rfl (opv_move (v := .int _ _) rfl) ?_; refine Wo rfl (opv_sub rfl rfl (by omega)) ?_; refine Wo rfl (opv_assign (v := .int _ _) rfl) ?_; refine Wo_nil ?_
      refine ⟨(k - 1, v1, v2, d, lo, hi), ⟨congrArg (Value.int .i64) (show (k : Int) - 1 = ((k - 1 : Nat) : Int) by omega), trivial⟩, by repeat (first | with_reducible exact Same.refl | refine Same.upd rfl ?_ | refine Same.upds rfl ?_ | refine Same.mix rfl ?_), ?_, by simp only; omega⟩
      exact ⟨hG, by first | exact hr1.le (by omega) | exact hr.le (by omega), by omega, by omega, hB1, hB2, hbl, by omega, by omega, hb2, hA, hC, ic1, ic2, hd⟩
    · focus
        have szE8' := E8'.size; have szE7 := E7.size; have szEhr3 := Ehr3.size; have szE8 := E8.size; have szE7 := E7.size; have szE6 := E6.size; have szE5 := E5.size; have szE4 := E4.size; have szEhr2 := Ehr2.size; have szEhr1 := Ehr1.size
        have szE1 := E1.size; have szE0 := E0.size; refine W_seq ?_; refine W_region rfl ?_; refine Wo rfl (opv_move (v := .bool _) rfl) ?_; refine Wo_nil ?_; refine W_cond_true rfl ?_; refine W_region rfl ?_
        refine Wo (v := .agg _) rfl (opv_load2 Tryd.isAgg53 Tryd.sizeOf53 rfl hB9) ?_; refine Wo_st2 rfl Tryd.sizeOf53 rfl rfl (by first | rfl | assumption) (by first | rfl | assumption) hB2 (by omega) E8' ?_; rintro w9 E10 hB2 K2 hz2
        have hG := grownBy_wrote hG E8' E10 K2 hz2 (by first | exact .inr rfl | omega); have hr := hr.wrote E10 (K2 _ (by omega)) hz2; have hB1 := hB1.of_heap (K2 _ (by omega)); have hA := hA.wrote K2 (by omega)
        have hC := hC.wrote K2 (by omega); have hA' := hA'.wrote K2 (by omega); have hC' := hC'.wrote K2 (by omega); refine Wo_nil ?_; refine W_region rfl ?_; refine Wo rfl (opv_move (v := .int _ _) rfl) ?_
        refine Wo rfl (opv_sub rfl rfl (by omega)) ?_; refine Wo rfl (opv_assign (v := .int _ _) rfl) ?_; refine Wo_nil ?_
      refine ⟨(k - 1, x1', x2', d', lo', hi'), ⟨congrArg (Value.int .i64) (show (k : Int) - 1 = ((k - 1 : Nat) : Int) by omega), trivial⟩, by repeat (first | with_reducible exact Same.refl | refine Same.upd rfl ?_ | refine Same.upds rfl ?_ | refine Same.mix rfl ?_), ?_, by simp only; omega⟩
      exact ⟨hG, by first | exact hr1.le (by omega) | exact hr.le (by omega), by omega, by omega, hB1, hB2, hbl', by omega, by omega, .inr hb2', hA', hC', ic1', ic2', hd'⟩
  · focus
      have szE7 := E7.size; have szEhr3 := Ehr3.size; have szE8 := E8.size; have szE7 := E7.size; have szE6 := E6.size; have szE5 := E5.size; have szE4 := E4.size; have szEhr2 := Ehr2.size; have szEhr1 := Ehr1.size; have szE1 := E1.size
      have szE0 := E0.size; refine W_seq ?_; refine W_seq ?_; refine W_region rfl ?_; refine Wo rfl (opv_move (v := .int _ _) rfl) ?_; refine Wo rfl (opv_gtr rfl rfl) ?_; refine Wo_nil ?_
      refine W_cond_dec rfl (fun h1 => ?_) (fun h1 => ?_); (exfalso; omega); refine W_exit ?_; refine exitX_same ?_; refine W_seq ?_; refine W_seq ?_; refine W_region rfl ?_; refine Wo rfl (opv_move (v := .pointer _) rfl) ?_
      refine Wo rfl (opv_move (v := .int _ _) rfl) ?_; refine Wo_call rfl (opc2 (a := .pointer _) (b := .int _ _) Tryd.call57 rfl rfl) (odd0_ok _ _) ?_; rintro _ w8 ⟨rfl, E10⟩; have hG := grownBy_ext hG E10; have hr := hr.ext E10
      have hs7 := E10.size; refine Wo_nil ?_; refine W_cond_false rfl ?_; refine W_skip ?_; refine W_seq ?_; refine W_region rfl ?_; refine Wo (v := .agg _) rfl (opv_load2 Tryd.isAgg53 Tryd.sizeOf53 rfl (hB2.ext E10)) ?_
      refine Wo_st2 rfl Tryd.sizeOf53 rfl rfl (by first | rfl | assumption) (by first | rfl | assumption) (hB1.ext E10) (by omega) (E7.trans E10) ?_; rintro w9 E11 hB1 K2 hz2; have hB2 := (hB2.ext E10).of_heap (K2 _ (by omega))
      have hA := (hA.ext E10).wrote K2 (by omega); have hC := (hC.ext E10).wrote K2 (by omega); have hG := grownBy_wrote hG (E7.trans E10) E11 K2 hz2 (by first | exact .inr rfl | omega); have hr := hr.wrote E11 (K2 _ (by omega)) hz2
      refine Wo_nil ?_; refine W_ret ?_
    exact ⟨b1, v1, v2, rfl, hB1, v1, v2, _, _, rfl, hG, hr.le (by omega), hA.above.mono (by omega), hC.above.mono (by omega), ic1, ic2, by omega, hd⟩

end Go.Proofs.YtgphoihilheoeaaDoor
namespace Go.Proofs.YtgphoihilheoeaaDoor
open Go.Hs
set_option maxRecDepth 10000
set_option maxHeartbeats 4000000
set_option linter.unusedVariables false
set_option linter.unusedSimpArgs false

theorem impl_deedText_ok (w : World) (k n : Int) (t : List UInt8) (hM : EMx gMx w (.bool true) ()) (ht : t.length ≤ 1048576) :
    Does Tryd.prog 44 [.agg #[.int .i64 k, str t, .int .i64 n]] w (Ret w (str (dtV ⟨k, t, n⟩))) := by
  obtain ⟨B, hB⟩ : ∃ B, B = (rdP t).isSome := ⟨_, rfl⟩
  have k1 : ∀ w, EMx gMx w (.bool true) () → Does Tryd.prog 73 [str t] w (RetOB w XR ((rdP t).getD []) B) := fun w hM => hB ▸ readPicture_ok w t hM ht
  have k2 : ∀ w, 0 ≤ n → n ≤ 9 → Does Tryd.prog 72 [.int .i64 n] w (Ret w (str [dig n.toNat])) := fun w h h' => by
    obtain ⟨d, rfl⟩ := Int.eq_ofNat_of_zero_le h
    exact Itoa_ok w d (by omega)
  refine fn_of_W1 Tryd.func44 rfl Tryd.results44 Tryd.ntmps44 rfl ?_
  focus
    refine W_seq ?_; refine W_region rfl ?_; refine Wo_box rfl rfl rfl ?_; rintro b1 w1 hb1 E1 hB1; have hlb1 := hB1.lt; have hs1 := E1.size; refine Wo rfl (opv_assign (v := .string _) rfl) ?_; refine Wo_nil ?_; refine W_seq ?_
    refine W_block ?_; refine W_seq ?_; refine W_region rfl ?_; refine Wo rfl (opv_fieldAddr Tryd.underlying26 rfl rfl Tryd.sizeOf3 rfl) ?_; refine Wo (v := .int _ _) rfl (opv_load Tryd.isAgg3 rfl (hB1.cell rfl)) ?_
    refine Wo rfl (opv_eql rfl rfl) ?_; refine Wo_split_dec rfl (opv_move (v := .bool _) rfl) (fun h1 => ?_) (fun h1 => ?_); refine Wo rfl (opv_fieldAddr Tryd.underlying26 rfl rfl Tryd.sizeOf9 rfl) ?_
    refine Wo (v := .string _) rfl (opv_load Tryd.isAgg9 rfl (hB1.cell rfl)) ?_; refine Wo rfl (opv_eql_str rfl rfl) ?_; refine Wo rfl (opv_pick_t (v := .bool _) rfl rfl) ?_
    refine Wo_split_dec rfl (opv_move (v := .bool _) rfl) (fun h2 => ?_) (fun h2 => ?_); refine Wo rfl (opv_fieldAddr Tryd.underlying26 rfl rfl Tryd.sizeOf3 rfl) ?_
    refine Wo (v := .int _ _) rfl (opv_load Tryd.isAgg3 rfl (hB1.cell rfl)) ?_; refine Wo rfl (opv_eql rfl rfl) ?_; refine Wo rfl (opv_pick_t (v := .bool _) rfl rfl) ?_; refine Wo rfl (opv_assign (v := .bool _) rfl) ?_; refine Wo_nil ?_
    refine W_cond_dec rfl (fun h3 => ?_) (fun h3 => ?_); refine W_seq ?_; refine W_region rfl ?_; refine Wo rfl (opv_assign (v := .string _) rfl) ?_; refine Wo_nil ?_; refine W_ret ?_; refine at_ret (v := .string _) rfl ?_
    refine ⟨congrArg str ?_, E1⟩; rotate_left; refine W_seq ?_; refine W_region rfl ?_; refine Wo rfl (opv_fieldAddr Tryd.underlying26 rfl rfl Tryd.sizeOf3 rfl) ?_
    refine Wo (v := .int _ _) rfl (opv_load Tryd.isAgg3 rfl (hB1.cell rfl)) ?_; refine Wo rfl (opv_eql rfl rfl) ?_; refine Wo_split_dec rfl (opv_move (v := .bool _) rfl) (fun h4 => ?_) (fun h4 => ?_); (exfalso; omega)
    refine Wo_skip rfl ?_; refine Wo_skip rfl ?_; refine Wo_skip rfl ?_; refine Wo rfl (opv_pick_f (v := .bool _) rfl rfl) ?_; refine Wo rfl (opv_move (v := .bool _) rfl) ?_; refine Wo_skip rfl ?_; refine Wo_skip rfl ?_
    refine Wo_skip rfl ?_; refine Wo rfl (opv_pick_f (v := .bool _) rfl rfl) ?_; refine Wo rfl (opv_assign (v := .bool _) rfl) ?_; refine Wo_nil ?_; refine W_cond_false rfl ?_; refine W_seq ?_; refine W_region rfl ?_
    refine Wo rfl (opv_fieldAddr Tryd.underlying26 rfl rfl Tryd.sizeOf3 rfl) ?_; refine Wo (v := .int _ _) rfl (opv_load Tryd.isAgg3 rfl (hB1.cell rfl)) ?_; refine Wo rfl (opv_eql rfl rfl) ?_
    refine Wo_split_dec rfl (opv_move (v := .bool _) rfl) (fun h5 => ?_) (fun h5 => ?_); (exfalso; omega); refine Wo_skip rfl ?_; refine Wo_skip rfl ?_; refine Wo_skip rfl ?_; refine Wo rfl (opv_pick_f (v := .bool _) rfl rfl) ?_
    refine Wo rfl (opv_move (v := .bool _) rfl) ?_; refine Wo_skip rfl ?_; refine Wo_skip rfl ?_; refine Wo_skip rfl ?_; refine Wo rfl (opv_pick_f (v := .bool _) rfl rfl) ?_; refine Wo rfl (opv_move (v := .bool _) rfl) ?_
    refine Wo_skip rfl ?_; refine Wo_skip rfl ?_; refine Wo_skip rfl ?_; refine Wo rfl (opv_pick_f (v := .bool _) rfl rfl) ?_; refine Wo rfl (opv_assign (v := .bool _) rfl) ?_; refine Wo_nil ?_; refine W_cond_false rfl ?_
    refine W_skip ?_; refine W_seq ?_; refine W_seq ?_; refine W_region rfl ?_; refine Wo rfl (opv_fieldAddr Tryd.underlying26 rfl rfl Tryd.sizeOf9 rfl) ?_; refine Wo (v := .string _) rfl (opv_load Tryd.isAgg9 rfl (hB1.cell rfl)) ?_
    refine Wo_call rfl (opc1 (a := .string _) Tryd.call73 rfl) (k1 _ ((Mono.mono E1 hM))) ?_; rintro _ w2 ⟨u1, rfl, E2, hO1⟩; have hs2 := E2.size; refine Wo rfl (opv_move (v := .tuple _) rfl) ?_
    refine Wo rfl (opv_extract (v := u1) rfl rfl) ?_; refine Wo rfl (opv_extract (v := .bool _) rfl rfl) ?_; refine Wo rfl (opv_assign (v := u1) rfl) ?_; refine Wo rfl (opv_assign (v := .bool _) rfl) ?_; refine Wo_nil ?_
    refine W_seq ?_; refine W_region rfl ?_; refine Wo rfl (opv_move (v := .bool _) rfl) ?_; refine Wo rfl (opv_not rfl) ?_; refine Wo_split rfl (opv_move (v := .bool _) rfl) (fun h6 => ?_) (fun h6 => ?_); refine Wo_skip rfl ?_
    refine Wo_skip rfl ?_; refine Wo_skip rfl ?_; refine Wo rfl (opv_pick_t (v := .bool _) rfl rfl) ?_; refine Wo_nil ?_; refine W_cond_true rfl ?_; refine W_seq ?_; refine W_region rfl ?_
    refine Wo rfl (opv_assign (v := .string _) rfl) ?_; refine Wo_nil ?_; refine W_ret ?_; refine at_ret (v := .string _) rfl ?_; refine ⟨congrArg str ?_, (E1.trans E2)⟩; rotate_left
    refine Wo rfl (opv_fieldAddr Tryd.underlying26 rfl rfl Tryd.sizeOf3 rfl) ?_; refine Wo (v := .int _ _) rfl (opv_load Tryd.isAgg3 rfl ((hB1.ext E2).cell rfl)) ?_; refine Wo rfl (opv_neq rfl rfl) ?_
    refine Wo rfl (opv_pick_f (v := .bool _) rfl rfl) ?_; refine Wo_nil ?_; refine W_cond_ndec rfl (fun h7 => ?_) (fun h7 => ?_); refine W_seq ?_; refine W_region rfl ?_; refine Wo rfl (opv_assign (v := .string _) rfl) ?_
    refine Wo_nil ?_; refine W_ret ?_; refine at_ret (v := .string _) rfl ?_; refine ⟨congrArg str ?_, (E1.trans E2)⟩; rotate_left; contradiction; refine Wo_skip rfl ?_; refine Wo_skip rfl ?_; refine Wo_skip rfl ?_
    refine Wo rfl (opv_pick_f (v := .bool _) rfl rfl) ?_; refine Wo rfl (opv_assign (v := .bool _) rfl) ?_; refine Wo_nil ?_; refine W_cond_false rfl ?_; refine W_seq ?_; refine W_region rfl ?_
    refine Wo rfl (opv_fieldAddr Tryd.underlying26 rfl rfl Tryd.sizeOf3 rfl) ?_; refine Wo (v := .int _ _) rfl (opv_load Tryd.isAgg3 rfl (hB1.cell rfl)) ?_; refine Wo rfl (opv_eql rfl rfl) ?_
    refine Wo_split_dec rfl (opv_move (v := .bool _) rfl) (fun h3 => ?_) (fun h3 => ?_); (exfalso; omega); refine Wo_skip rfl ?_; refine Wo_skip rfl ?_; refine Wo_skip rfl ?_; refine Wo rfl (opv_pick_f (v := .bool _) rfl rfl) ?_
    refine Wo rfl (opv_move (v := .bool _) rfl) ?_; refine Wo_skip rfl ?_; refine Wo_skip rfl ?_; refine Wo_skip rfl ?_; refine Wo rfl (opv_pick_f (v := .bool _) rfl rfl) ?_; refine Wo rfl (opv_assign (v := .bool _) rfl) ?_
    refine Wo_nil ?_; refine W_cond_false rfl ?_; refine W_seq ?_; refine W_region rfl ?_; refine Wo rfl (opv_fieldAddr Tryd.underlying26 rfl rfl Tryd.sizeOf3 rfl) ?_
    refine Wo (v := .int _ _) rfl (opv_load Tryd.isAgg3 rfl (hB1.cell rfl)) ?_; refine Wo rfl (opv_eql rfl rfl) ?_; refine Wo_split_dec rfl (opv_move (v := .bool _) rfl) (fun h4 => ?_) (fun h4 => ?_); (exfalso; omega)
    refine Wo_skip rfl ?_; refine Wo_skip rfl ?_; refine Wo_skip rfl ?_; refine Wo rfl (opv_pick_f (v := .bool _) rfl rfl) ?_; refine Wo rfl (opv_move (v := .bool _) rfl) ?_; refine Wo_skip rfl ?_; refine Wo_skip rfl ?_
    refine Wo_skip rfl ?_; refine Wo rfl (opv_pick_f (v := .bool _) rfl rfl) ?_; refine Wo rfl (opv_move (v := .bool _) rfl) ?_; refine Wo_skip rfl ?_; refine Wo_skip rfl ?_; refine Wo_skip rfl ?_
    refine Wo rfl (opv_pick_f (v := .bool _) rfl rfl) ?_; refine Wo rfl (opv_assign (v := .bool _) rfl) ?_; refine Wo_nil ?_; refine W_cond_false rfl ?_; refine W_skip ?_; refine W_seq ?_; refine W_seq ?_; refine W_region rfl ?_
    refine Wo rfl (opv_fieldAddr Tryd.underlying26 rfl rfl Tryd.sizeOf9 rfl) ?_; refine Wo (v := .string _) rfl (opv_load Tryd.isAgg9 rfl (hB1.cell rfl)) ?_
    refine Wo_call rfl (opc1 (a := .string _) Tryd.call73 rfl) (k1 _ ((Mono.mono E1 hM))) ?_; rintro _ w2 ⟨u1, rfl, E2, hO1⟩; have hs2 := E2.size; refine Wo rfl (opv_move (v := .tuple _) rfl) ?_
    refine Wo rfl (opv_extract (v := u1) rfl rfl) ?_; refine Wo rfl (opv_extract (v := .bool _) rfl rfl) ?_; refine Wo rfl (opv_assign (v := u1) rfl) ?_; refine Wo rfl (opv_assign (v := .bool _) rfl) ?_; refine Wo_nil ?_
    refine W_seq ?_; refine W_region rfl ?_; refine Wo rfl (opv_move (v := .bool _) rfl) ?_; refine Wo rfl (opv_not rfl) ?_; refine Wo_split rfl (opv_move (v := .bool _) rfl) (fun h5 => ?_) (fun h5 => ?_); refine Wo_skip rfl ?_
    refine Wo_skip rfl ?_; refine Wo_skip rfl ?_; refine Wo rfl (opv_pick_t (v := .bool _) rfl rfl) ?_; refine Wo_nil ?_; refine W_cond_true rfl ?_; refine W_seq ?_; refine W_region rfl ?_
    refine Wo rfl (opv_assign (v := .string _) rfl) ?_; refine Wo_nil ?_; refine W_ret ?_; refine at_ret (v := .string _) rfl ?_; refine ⟨congrArg str ?_, (E1.trans E2)⟩; rotate_left
    refine Wo rfl (opv_fieldAddr Tryd.underlying26 rfl rfl Tryd.sizeOf3 rfl) ?_; refine Wo (v := .int _ _) rfl (opv_load Tryd.isAgg3 rfl ((hB1.ext E2).cell rfl)) ?_; refine Wo rfl (opv_neq rfl rfl) ?_
    refine Wo rfl (opv_pick_f (v := .bool _) rfl rfl) ?_; refine Wo_nil ?_; refine W_cond_ndec rfl (fun h6 => ?_) (fun h6 => ?_); refine W_seq ?_; refine W_region rfl ?_; refine Wo rfl (opv_assign (v := .string _) rfl) ?_
    refine Wo_nil ?_; refine W_ret ?_; refine at_ret (v := .string _) rfl ?_; refine ⟨congrArg str ?_, (E1.trans E2)⟩; rotate_left; refine W_skip ?_; refine W_seq ?_; refine W_seq ?_; refine W_region rfl ?_
    refine Wo rfl (opv_fieldAddr Tryd.underlying26 rfl rfl Tryd.sizeOf3 rfl) ?_; refine Wo (v := .int _ _) rfl (opv_load Tryd.isAgg3 rfl ((hB1.ext E2).cell rfl)) ?_; refine Wo_nil ?_; refine W_block ?_; refine W_seq ?_
    refine W_region rfl ?_; refine Wo rfl (opv_eql rfl rfl) ?_; refine Wo rfl (opv_assign (v := .bool _) rfl) ?_; refine Wo_nil ?_; refine W_cond_dec rfl (fun h7 => ?_) (fun h7 => ?_); (exfalso; omega); refine W_seq ?_
    refine W_region rfl ?_; refine Wo rfl (opv_eql rfl rfl) ?_; refine Wo rfl (opv_assign (v := .bool _) rfl) ?_; refine Wo_nil ?_; refine W_cond_dec rfl (fun h8 => ?_) (fun h8 => ?_); (exfalso; omega); refine W_skip ?_; refine W_seq ?_
    refine W_region rfl ?_; refine Wo rfl (opv_assign (v := .string _) rfl) ?_; refine Wo_nil ?_; refine W_ret ?_; refine at_ret (v := .string _) rfl ?_; refine ⟨congrArg str ?_, (E1.trans E2)⟩; rotate_left; refine Wo_skip rfl ?_
    refine Wo_skip rfl ?_; refine Wo_skip rfl ?_; refine Wo rfl (opv_pick_f (v := .bool _) rfl rfl) ?_; refine Wo rfl (opv_move (v := .bool _) rfl) ?_; refine Wo_skip rfl ?_; refine Wo_skip rfl ?_; refine Wo_skip rfl ?_
    refine Wo rfl (opv_pick_f (v := .bool _) rfl rfl) ?_; refine Wo rfl (opv_assign (v := .bool _) rfl) ?_; refine Wo_nil ?_; refine W_cond_false rfl ?_; refine W_seq ?_; refine W_region rfl ?_
    refine Wo rfl (opv_fieldAddr Tryd.underlying26 rfl rfl Tryd.sizeOf3 rfl) ?_; refine Wo (v := .int _ _) rfl (opv_load Tryd.isAgg3 rfl (hB1.cell rfl)) ?_; refine Wo rfl (opv_eql rfl rfl) ?_
    refine Wo_split_dec rfl (opv_move (v := .bool _) rfl) (fun h2 => ?_) (fun h2 => ?_); refine Wo rfl (opv_fieldAddr Tryd.underlying26 rfl rfl Tryd.sizeOf9 rfl) ?_
    refine Wo (v := .string _) rfl (opv_load Tryd.isAgg9 rfl (hB1.cell rfl)) ?_; refine Wo rfl (opv_eql_str rfl rfl) ?_; refine Wo rfl (opv_pick_t (v := .bool _) rfl rfl) ?_
    refine Wo_split_dec rfl (opv_move (v := .bool _) rfl) (fun h3 => ?_) (fun h3 => ?_); refine Wo rfl (opv_fieldAddr Tryd.underlying26 rfl rfl Tryd.sizeOf3 rfl) ?_
    refine Wo (v := .int _ _) rfl (opv_load Tryd.isAgg3 rfl (hB1.cell rfl)) ?_; refine Wo rfl (opv_eql rfl rfl) ?_; refine Wo rfl (opv_pick_t (v := .bool _) rfl rfl) ?_; refine Wo rfl (opv_assign (v := .bool _) rfl) ?_; refine Wo_nil ?_
    refine W_cond_dec rfl (fun h4 => ?_) (fun h4 => ?_); refine W_seq ?_; refine W_region rfl ?_; refine Wo rfl (opv_assign (v := .string _) rfl) ?_; refine Wo_nil ?_; refine W_ret ?_; refine at_ret (v := .string _) rfl ?_
    refine ⟨congrArg str ?_, E1⟩; rotate_left; refine W_seq ?_; refine W_region rfl ?_; refine Wo rfl (opv_fieldAddr Tryd.underlying26 rfl rfl Tryd.sizeOf3 rfl) ?_
    refine Wo (v := .int _ _) rfl (opv_load Tryd.isAgg3 rfl (hB1.cell rfl)) ?_; refine Wo rfl (opv_eql rfl rfl) ?_; refine Wo_split_dec rfl (opv_move (v := .bool _) rfl) (fun h5 => ?_) (fun h5 => ?_); (exfalso; omega)
    refine Wo_skip rfl ?_; refine Wo_skip rfl ?_; refine Wo_skip rfl ?_; refine Wo rfl (opv_pick_f (v := .bool _) rfl rfl) ?_; refine Wo rfl (opv_move (v := .bool _) rfl) ?_; refine Wo_skip rfl ?_; refine Wo_skip rfl ?_
    refine Wo_skip rfl ?_; refine Wo rfl (opv_pick_f (v := .bool _) rfl rfl) ?_; refine Wo rfl (opv_move (v := .bool _) rfl) ?_; refine Wo_skip rfl ?_; refine Wo_skip rfl ?_; refine Wo_skip rfl ?_
    refine Wo rfl (opv_pick_f (v := .bool _) rfl rfl) ?_; refine Wo rfl (opv_assign (v := .bool _) rfl) ?_; refine Wo_nil ?_; refine W_cond_false rfl ?_; refine W_skip ?_; refine W_seq ?_; refine W_seq ?_; refine W_region rfl ?_
    refine Wo rfl (opv_fieldAddr Tryd.underlying26 rfl rfl Tryd.sizeOf9 rfl) ?_; refine Wo (v := .string _) rfl (opv_load Tryd.isAgg9 rfl (hB1.cell rfl)) ?_
    refine Wo_call rfl (opc1 (a := .string _) Tryd.call73 rfl) (k1 _ ((Mono.mono E1 hM))) ?_; rintro _ w2 ⟨u1, rfl, E2, hO1⟩; have hs2 := E2.size; refine Wo rfl (opv_move (v := .tuple _) rfl) ?_
    refine Wo rfl (opv_extract (v := u1) rfl rfl) ?_; refine Wo rfl (opv_extract (v := .bool _) rfl rfl) ?_; refine Wo rfl (opv_assign (v := u1) rfl) ?_; refine Wo rfl (opv_assign (v := .bool _) rfl) ?_; refine Wo_nil ?_
    refine W_seq ?_; refine W_region rfl ?_; refine Wo rfl (opv_move (v := .bool _) rfl) ?_; refine Wo rfl (opv_not rfl) ?_; refine Wo_split rfl (opv_move (v := .bool _) rfl) (fun h6 => ?_) (fun h6 => ?_); refine Wo_skip rfl ?_
    refine Wo_skip rfl ?_; refine Wo_skip rfl ?_; refine Wo rfl (opv_pick_t (v := .bool _) rfl rfl) ?_; refine Wo_nil ?_; refine W_cond_true rfl ?_; refine W_seq ?_; refine W_region rfl ?_
    refine Wo rfl (opv_assign (v := .string _) rfl) ?_; refine Wo_nil ?_; refine W_ret ?_; refine at_ret (v := .string _) rfl ?_; refine ⟨congrArg str ?_, (E1.trans E2)⟩; rotate_left
    refine Wo rfl (opv_fieldAddr Tryd.underlying26 rfl rfl Tryd.sizeOf3 rfl) ?_; refine Wo (v := .int _ _) rfl (opv_load Tryd.isAgg3 rfl ((hB1.ext E2).cell rfl)) ?_; refine Wo rfl (opv_neq rfl rfl) ?_
    refine Wo rfl (opv_pick_f (v := .bool _) rfl rfl) ?_; refine Wo_nil ?_; refine W_cond_ndec rfl (fun h7 => ?_) (fun h7 => ?_); refine W_seq ?_; refine W_region rfl ?_; refine Wo rfl (opv_assign (v := .string _) rfl) ?_
    refine Wo_nil ?_; refine W_ret ?_; refine at_ret (v := .string _) rfl ?_; refine ⟨congrArg str ?_, (E1.trans E2)⟩; rotate_left; contradiction; refine Wo_skip rfl ?_; refine Wo_skip rfl ?_; refine Wo_skip rfl ?_
    refine Wo rfl (opv_pick_f (v := .bool _) rfl rfl) ?_; refine Wo rfl (opv_assign (v := .bool _) rfl) ?_; refine Wo_nil ?_; refine W_cond_false rfl ?_; refine W_seq ?_; refine W_region rfl ?_
    refine Wo rfl (opv_fieldAddr Tryd.underlying26 rfl rfl Tryd.sizeOf3 rfl) ?_; refine Wo (v := .int _ _) rfl (opv_load Tryd.isAgg3 rfl (hB1.cell rfl)) ?_; refine Wo rfl (opv_eql rfl rfl) ?_
    refine Wo_split_dec rfl (opv_move (v := .bool _) rfl) (fun h4 => ?_) (fun h4 => ?_); (exfalso; omega); refine Wo_skip rfl ?_; refine Wo_skip rfl ?_; refine Wo_skip rfl ?_; refine Wo rfl (opv_pick_f (v := .bool _) rfl rfl) ?_
    refine Wo rfl (opv_move (v := .bool _) rfl) ?_; refine Wo_skip rfl ?_; refine Wo_skip rfl ?_; refine Wo_skip rfl ?_; refine Wo rfl (opv_pick_f (v := .bool _) rfl rfl) ?_; refine Wo rfl (opv_move (v := .bool _) rfl) ?_
    refine Wo_skip rfl ?_; refine Wo_skip rfl ?_; refine Wo_skip rfl ?_; refine Wo rfl (opv_pick_f (v := .bool _) rfl rfl) ?_; refine Wo rfl (opv_assign (v := .bool _) rfl) ?_; refine Wo_nil ?_; refine W_cond_false rfl ?_
    refine W_skip ?_; refine W_seq ?_; refine W_seq ?_; refine W_region rfl ?_; refine Wo rfl (opv_fieldAddr Tryd.underlying26 rfl rfl Tryd.sizeOf9 rfl) ?_; refine Wo (v := .string _) rfl (opv_load Tryd.isAgg9 rfl (hB1.cell rfl)) ?_
    refine Wo_call rfl (opc1 (a := .string _) Tryd.call73 rfl) (k1 _ ((Mono.mono E1 hM))) ?_; rintro _ w2 ⟨u1, rfl, E2, hO1⟩; have hs2 := E2.size; refine Wo rfl (opv_move (v := .tuple _) rfl) ?_
    refine Wo rfl (opv_extract (v := u1) rfl rfl) ?_; refine Wo rfl (opv_extract (v := .bool _) rfl rfl) ?_; refine Wo rfl (opv_assign (v := u1) rfl) ?_; refine Wo rfl (opv_assign (v := .bool _) rfl) ?_; refine Wo_nil ?_
    refine W_seq ?_; refine W_region rfl ?_; refine Wo rfl (opv_move (v := .bool _) rfl) ?_; refine Wo rfl (opv_not rfl) ?_; refine Wo_split rfl (opv_move (v := .bool _) rfl) (fun h5 => ?_) (fun h5 => ?_); refine Wo_skip rfl ?_
    refine Wo_skip rfl ?_; refine Wo_skip rfl ?_; refine Wo rfl (opv_pick_t (v := .bool _) rfl rfl) ?_; refine Wo_nil ?_; refine W_cond_true rfl ?_; refine W_seq ?_; refine W_region rfl ?_
    refine Wo rfl (opv_assign (v := .string _) rfl) ?_; refine Wo_nil ?_; refine W_ret ?_; refine at_ret (v := .string _) rfl ?_; refine ⟨congrArg str ?_, (E1.trans E2)⟩; rotate_left
    refine Wo rfl (opv_fieldAddr Tryd.underlying26 rfl rfl Tryd.sizeOf3 rfl) ?_; refine Wo (v := .int _ _) rfl (opv_load Tryd.isAgg3 rfl ((hB1.ext E2).cell rfl)) ?_; refine Wo rfl (opv_neq rfl rfl) ?_
    refine Wo rfl (opv_pick_f (v := .bool _) rfl rfl) ?_; refine Wo_nil ?_; refine W_cond_ndec rfl (fun h6 => ?_) (fun h6 => ?_); refine W_seq ?_; refine W_region rfl ?_; refine Wo rfl (opv_assign (v := .string _) rfl) ?_
    refine Wo_nil ?_; refine W_ret ?_; refine at_ret (v := .string _) rfl ?_; refine ⟨congrArg str ?_, (E1.trans E2)⟩; rotate_left; refine W_skip ?_; refine W_seq ?_; refine W_seq ?_; refine W_region rfl ?_
    refine Wo rfl (opv_fieldAddr Tryd.underlying26 rfl rfl Tryd.sizeOf3 rfl) ?_; refine Wo (v := .int _ _) rfl (opv_load Tryd.isAgg3 rfl ((hB1.ext E2).cell rfl)) ?_; refine Wo_nil ?_; refine W_block ?_; refine W_seq ?_
    refine W_region rfl ?_; refine Wo rfl (opv_eql rfl rfl) ?_; refine Wo rfl (opv_assign (v := .bool _) rfl) ?_; refine Wo_nil ?_; refine W_cond_dec rfl (fun h7 => ?_) (fun h7 => ?_); (exfalso; omega); refine W_seq ?_
    refine W_region rfl ?_; refine Wo rfl (opv_eql rfl rfl) ?_; refine Wo rfl (opv_assign (v := .bool _) rfl) ?_; refine Wo_nil ?_; refine W_cond_dec rfl (fun h8 => ?_) (fun h8 => ?_); (exfalso; omega); refine W_skip ?_; refine W_seq ?_
    refine W_region rfl ?_; refine Wo rfl (opv_assign (v := .string _) rfl) ?_; refine Wo_nil ?_; refine W_ret ?_; refine at_ret (v := .string _) rfl ?_; refine ⟨congrArg str ?_, (E1.trans E2)⟩; rotate_left; refine Wo_skip rfl ?_
    refine Wo_skip rfl ?_; refine Wo_skip rfl ?_; refine Wo rfl (opv_pick_f (v := .bool _) rfl rfl) ?_; refine Wo rfl (opv_move (v := .bool _) rfl) ?_; refine Wo_skip rfl ?_; refine Wo_skip rfl ?_; refine Wo_skip rfl ?_
    refine Wo rfl (opv_pick_f (v := .bool _) rfl rfl) ?_; refine Wo rfl (opv_assign (v := .bool _) rfl) ?_; refine Wo_nil ?_; refine W_cond_false rfl ?_; refine W_seq ?_; refine W_region rfl ?_
    refine Wo rfl (opv_fieldAddr Tryd.underlying26 rfl rfl Tryd.sizeOf3 rfl) ?_; refine Wo (v := .int _ _) rfl (opv_load Tryd.isAgg3 rfl (hB1.cell rfl)) ?_; refine Wo rfl (opv_eql rfl rfl) ?_
    refine Wo_split_dec rfl (opv_move (v := .bool _) rfl) (fun h3 => ?_) (fun h3 => ?_); refine Wo rfl (opv_fieldAddr Tryd.underlying26 rfl rfl Tryd.sizeOf9 rfl) ?_
    refine Wo (v := .string _) rfl (opv_load Tryd.isAgg9 rfl (hB1.cell rfl)) ?_; refine Wo rfl (opv_eql_str rfl rfl) ?_; refine Wo rfl (opv_pick_t (v := .bool _) rfl rfl) ?_
    refine Wo_split_dec rfl (opv_move (v := .bool _) rfl) (fun h4 => ?_) (fun h4 => ?_); refine Wo rfl (opv_fieldAddr Tryd.underlying26 rfl rfl Tryd.sizeOf3 rfl) ?_
    refine Wo (v := .int _ _) rfl (opv_load Tryd.isAgg3 rfl (hB1.cell rfl)) ?_; refine Wo rfl (opv_geq rfl rfl) ?_; refine Wo rfl (opv_pick_t (v := .bool _) rfl rfl) ?_
    refine Wo_split_dec rfl (opv_move (v := .bool _) rfl) (fun h5 => ?_) (fun h5 => ?_); refine Wo rfl (opv_fieldAddr Tryd.underlying26 rfl rfl Tryd.sizeOf3 rfl) ?_
    refine Wo (v := .int _ _) rfl (opv_load Tryd.isAgg3 rfl (hB1.cell rfl)) ?_; refine Wo rfl (opv_leq rfl rfl) ?_; refine Wo rfl (opv_pick_t (v := .bool _) rfl rfl) ?_; refine Wo rfl (opv_assign (v := .bool _) rfl) ?_; refine Wo_nil ?_
    refine W_cond_dec rfl (fun h6 => ?_) (fun h6 => ?_); refine W_seq ?_; refine W_region rfl ?_; refine Wo rfl (opv_fieldAddr Tryd.underlying26 rfl rfl Tryd.sizeOf3 rfl) ?_
    refine Wo (v := .int _ _) rfl (opv_load Tryd.isAgg3 rfl (hB1.cell rfl)) ?_; refine Wo_call rfl (opc1 (a := .int _ _) Tryd.call72 rfl) (k2 _ (by assumption) (by assumption)) ?_; rintro _ w2 ⟨rfl, E2⟩; have hs2 := E2.size
    refine Wo rfl (opv_add_str rfl rfl (by simp <;> omega)) ?_; refine Wo rfl (opv_assign (v := .string _) rfl) ?_; refine Wo_nil ?_; refine W_ret ?_; refine at_ret (v := .string _) rfl ?_; refine ⟨congrArg str ?_, (E1.trans E2)⟩
    rotate_left; refine W_skip ?_; refine W_seq ?_; refine W_seq ?_; refine W_region rfl ?_; refine Wo rfl (opv_fieldAddr Tryd.underlying26 rfl rfl Tryd.sizeOf9 rfl) ?_
    refine Wo (v := .string _) rfl (opv_load Tryd.isAgg9 rfl (hB1.cell rfl)) ?_; refine Wo_call rfl (opc1 (a := .string _) Tryd.call73 rfl) (k1 _ ((Mono.mono E1 hM))) ?_; rintro _ w2 ⟨u1, rfl, E2, hO1⟩; have hs2 := E2.size
    refine Wo rfl (opv_move (v := .tuple _) rfl) ?_; refine Wo rfl (opv_extract (v := u1) rfl rfl) ?_; refine Wo rfl (opv_extract (v := .bool _) rfl rfl) ?_; refine Wo rfl (opv_assign (v := u1) rfl) ?_
    refine Wo rfl (opv_assign (v := .bool _) rfl) ?_; refine Wo_nil ?_; refine W_seq ?_; refine W_region rfl ?_; refine Wo rfl (opv_move (v := .bool _) rfl) ?_; refine Wo rfl (opv_not rfl) ?_
    refine Wo_split rfl (opv_move (v := .bool _) rfl) (fun h7 => ?_) (fun h7 => ?_); refine Wo_skip rfl ?_; refine Wo_skip rfl ?_; refine Wo_skip rfl ?_; refine Wo rfl (opv_pick_t (v := .bool _) rfl rfl) ?_; refine Wo_nil ?_
    refine W_cond_true rfl ?_; refine W_seq ?_; refine W_region rfl ?_; refine Wo rfl (opv_assign (v := .string _) rfl) ?_; refine Wo_nil ?_; refine W_ret ?_; refine at_ret (v := .string _) rfl ?_
    refine ⟨congrArg str ?_, (E1.trans E2)⟩; rotate_left; refine Wo rfl (opv_fieldAddr Tryd.underlying26 rfl rfl Tryd.sizeOf3 rfl) ?_; refine Wo (v := .int _ _) rfl (opv_load Tryd.isAgg3 rfl ((hB1.ext E2).cell rfl)) ?_
    refine Wo rfl (opv_neq rfl rfl) ?_; refine Wo rfl (opv_pick_f (v := .bool _) rfl rfl) ?_; refine Wo_nil ?_; refine W_cond_ndec rfl (fun h8 => ?_) (fun h8 => ?_); refine W_seq ?_; refine W_region rfl ?_
    refine Wo rfl (opv_assign (v := .string _) rfl) ?_; refine Wo_nil ?_; refine W_ret ?_; refine at_ret (v := .string _) rfl ?_; refine ⟨congrArg str ?_, (E1.trans E2)⟩; rotate_left; (exfalso; omega); refine Wo_skip rfl ?_
    refine Wo_skip rfl ?_; refine Wo_skip rfl ?_; refine Wo rfl (opv_pick_f (v := .bool _) rfl rfl) ?_; refine Wo rfl (opv_assign (v := .bool _) rfl) ?_; refine Wo_nil ?_; refine W_cond_false rfl ?_; refine W_skip ?_; refine W_seq ?_
    refine W_seq ?_; refine W_region rfl ?_; refine Wo rfl (opv_fieldAddr Tryd.underlying26 rfl rfl Tryd.sizeOf9 rfl) ?_; refine Wo (v := .string _) rfl (opv_load Tryd.isAgg9 rfl (hB1.cell rfl)) ?_
    refine Wo_call rfl (opc1 (a := .string _) Tryd.call73 rfl) (k1 _ ((Mono.mono E1 hM))) ?_; rintro _ w2 ⟨u1, rfl, E2, hO1⟩; have hs2 := E2.size; refine Wo rfl (opv_move (v := .tuple _) rfl) ?_
    refine Wo rfl (opv_extract (v := u1) rfl rfl) ?_; refine Wo rfl (opv_extract (v := .bool _) rfl rfl) ?_; refine Wo rfl (opv_assign (v := u1) rfl) ?_; refine Wo rfl (opv_assign (v := .bool _) rfl) ?_; refine Wo_nil ?_
    refine W_seq ?_; refine W_region rfl ?_; refine Wo rfl (opv_move (v := .bool _) rfl) ?_; refine Wo rfl (opv_not rfl) ?_; refine Wo_split rfl (opv_move (v := .bool _) rfl) (fun h6 => ?_) (fun h6 => ?_); refine Wo_skip rfl ?_
    refine Wo_skip rfl ?_; refine Wo_skip rfl ?_; refine Wo rfl (opv_pick_t (v := .bool _) rfl rfl) ?_; refine Wo_nil ?_; refine W_cond_true rfl ?_; refine W_seq ?_; refine W_region rfl ?_
    refine Wo rfl (opv_assign (v := .string _) rfl) ?_; refine Wo_nil ?_; refine W_ret ?_; refine at_ret (v := .string _) rfl ?_; refine ⟨congrArg str ?_, (E1.trans E2)⟩; rotate_left
    refine Wo rfl (opv_fieldAddr Tryd.underlying26 rfl rfl Tryd.sizeOf3 rfl) ?_; refine Wo (v := .int _ _) rfl (opv_load Tryd.isAgg3 rfl ((hB1.ext E2).cell rfl)) ?_; refine Wo rfl (opv_neq rfl rfl) ?_
    refine Wo rfl (opv_pick_f (v := .bool _) rfl rfl) ?_; refine Wo_nil ?_; refine W_cond_ndec rfl (fun h7 => ?_) (fun h7 => ?_); refine W_seq ?_; refine W_region rfl ?_; refine Wo rfl (opv_assign (v := .string _) rfl) ?_
    refine Wo_nil ?_; refine W_ret ?_; refine at_ret (v := .string _) rfl ?_; refine ⟨congrArg str ?_, (E1.trans E2)⟩; rotate_left; (exfalso; omega); refine Wo_skip rfl ?_; refine Wo_skip rfl ?_; refine Wo_skip rfl ?_
    refine Wo rfl (opv_pick_f (v := .bool _) rfl rfl) ?_; refine Wo rfl (opv_move (v := .bool _) rfl) ?_; refine Wo_skip rfl ?_; refine Wo_skip rfl ?_; refine Wo_skip rfl ?_; refine Wo rfl (opv_pick_f (v := .bool _) rfl rfl) ?_
    refine Wo rfl (opv_assign (v := .bool _) rfl) ?_; refine Wo_nil ?_; refine W_cond_false rfl ?_; refine W_skip ?_; refine W_seq ?_; refine W_seq ?_; refine W_region rfl ?_
    refine Wo rfl (opv_fieldAddr Tryd.underlying26 rfl rfl Tryd.sizeOf9 rfl) ?_; refine Wo (v := .string _) rfl (opv_load Tryd.isAgg9 rfl (hB1.cell rfl)) ?_
    refine Wo_call rfl (opc1 (a := .string _) Tryd.call73 rfl) (k1 _ ((Mono.mono E1 hM))) ?_; rintro _ w2 ⟨u1, rfl, E2, hO1⟩; have hs2 := E2.size; refine Wo rfl (opv_move (v := .tuple _) rfl) ?_
    refine Wo rfl (opv_extract (v := u1) rfl rfl) ?_; refine Wo rfl (opv_extract (v := .bool _) rfl rfl) ?_; refine Wo rfl (opv_assign (v := u1) rfl) ?_; refine Wo rfl (opv_assign (v := .bool _) rfl) ?_; refine Wo_nil ?_
    refine W_seq ?_; refine W_region rfl ?_; refine Wo rfl (opv_move (v := .bool _) rfl) ?_; refine Wo rfl (opv_not rfl) ?_; refine Wo_split rfl (opv_move (v := .bool _) rfl) (fun h5 => ?_) (fun h5 => ?_); refine Wo_skip rfl ?_
    refine Wo_skip rfl ?_; refine Wo_skip rfl ?_; refine Wo rfl (opv_pick_t (v := .bool _) rfl rfl) ?_; refine Wo_nil ?_; refine W_cond_true rfl ?_; refine W_seq ?_; refine W_region rfl ?_
    refine Wo rfl (opv_assign (v := .string _) rfl) ?_; refine Wo_nil ?_; refine W_ret ?_; refine at_ret (v := .string _) rfl ?_; refine ⟨congrArg str ?_, (E1.trans E2)⟩; rotate_left
    refine Wo rfl (opv_fieldAddr Tryd.underlying26 rfl rfl Tryd.sizeOf3 rfl) ?_; refine Wo (v := .int _ _) rfl (opv_load Tryd.isAgg3 rfl ((hB1.ext E2).cell rfl)) ?_; refine Wo rfl (opv_neq rfl rfl) ?_
    refine Wo rfl (opv_pick_f (v := .bool _) rfl rfl) ?_; refine Wo_nil ?_; refine W_cond_ndec rfl (fun h6 => ?_) (fun h6 => ?_); refine W_seq ?_; refine W_region rfl ?_; refine Wo rfl (opv_assign (v := .string _) rfl) ?_
    refine Wo_nil ?_; refine W_ret ?_; refine at_ret (v := .string _) rfl ?_; refine ⟨congrArg str ?_, (E1.trans E2)⟩; rotate_left; refine W_skip ?_; refine W_seq ?_; refine W_seq ?_; refine W_region rfl ?_
    refine Wo rfl (opv_fieldAddr Tryd.underlying26 rfl rfl Tryd.sizeOf3 rfl) ?_; refine Wo (v := .int _ _) rfl (opv_load Tryd.isAgg3 rfl ((hB1.ext E2).cell rfl)) ?_; refine Wo_nil ?_; refine W_block ?_; refine W_seq ?_
    refine W_region rfl ?_; refine Wo rfl (opv_eql rfl rfl) ?_; refine Wo rfl (opv_assign (v := .bool _) rfl) ?_; refine Wo_nil ?_; refine W_cond_dec rfl (fun h7 => ?_) (fun h7 => ?_); (exfalso; omega); refine W_seq ?_
    refine W_region rfl ?_; refine Wo rfl (opv_eql rfl rfl) ?_; refine Wo rfl (opv_assign (v := .bool _) rfl) ?_; refine Wo_nil ?_; refine W_cond_dec rfl (fun h8 => ?_) (fun h8 => ?_); (exfalso; omega); refine W_skip ?_; refine W_seq ?_
    refine W_region rfl ?_; refine Wo rfl (opv_assign (v := .string _) rfl) ?_; refine Wo_nil ?_; refine W_ret ?_; refine at_ret (v := .string _) rfl ?_; refine ⟨congrArg str ?_, (E1.trans E2)⟩; rotate_left; refine Wo_skip rfl ?_
    refine Wo_skip rfl ?_; refine Wo_skip rfl ?_; refine Wo rfl (opv_pick_f (v := .bool _) rfl rfl) ?_; refine Wo rfl (opv_move (v := .bool _) rfl) ?_; refine Wo_skip rfl ?_; refine Wo_skip rfl ?_; refine Wo_skip rfl ?_
    refine Wo rfl (opv_pick_f (v := .bool _) rfl rfl) ?_; refine Wo rfl (opv_move (v := .bool _) rfl) ?_; refine Wo_skip rfl ?_; refine Wo_skip rfl ?_; refine Wo_skip rfl ?_; refine Wo rfl (opv_pick_f (v := .bool _) rfl rfl) ?_
    refine Wo rfl (opv_assign (v := .bool _) rfl) ?_; refine Wo_nil ?_; refine W_cond_false rfl ?_; refine W_skip ?_; refine W_seq ?_; refine W_seq ?_; refine W_region rfl ?_
    refine Wo rfl (opv_fieldAddr Tryd.underlying26 rfl rfl Tryd.sizeOf9 rfl) ?_; refine Wo (v := .string _) rfl (opv_load Tryd.isAgg9 rfl (hB1.cell rfl)) ?_
    refine Wo_call rfl (opc1 (a := .string _) Tryd.call73 rfl) (k1 _ ((Mono.mono E1 hM))) ?_; rintro _ w2 ⟨u1, rfl, E2, hO1⟩; have hs2 := E2.size; refine Wo rfl (opv_move (v := .tuple _) rfl) ?_
    refine Wo rfl (opv_extract (v := u1) rfl rfl) ?_; refine Wo rfl (opv_extract (v := .bool _) rfl rfl) ?_; refine Wo rfl (opv_assign (v := u1) rfl) ?_; refine Wo rfl (opv_assign (v := .bool _) rfl) ?_; refine Wo_nil ?_
    refine W_seq ?_; refine W_region rfl ?_; refine Wo rfl (opv_move (v := .bool _) rfl) ?_; refine Wo rfl (opv_not rfl) ?_; refine Wo_split rfl (opv_move (v := .bool _) rfl) (fun h4 => ?_) (fun h4 => ?_); refine Wo_skip rfl ?_
    refine Wo_skip rfl ?_; refine Wo_skip rfl ?_; refine Wo rfl (opv_pick_t (v := .bool _) rfl rfl) ?_; refine Wo_nil ?_; refine W_cond_true rfl ?_; refine W_seq ?_; refine W_region rfl ?_
    refine Wo rfl (opv_assign (v := .string _) rfl) ?_; refine Wo_nil ?_; refine W_ret ?_; refine at_ret (v := .string _) rfl ?_; refine ⟨congrArg str ?_, (E1.trans E2)⟩; rotate_left
    refine Wo rfl (opv_fieldAddr Tryd.underlying26 rfl rfl Tryd.sizeOf3 rfl) ?_; refine Wo (v := .int _ _) rfl (opv_load Tryd.isAgg3 rfl ((hB1.ext E2).cell rfl)) ?_; refine Wo rfl (opv_neq rfl rfl) ?_
    refine Wo rfl (opv_pick_f (v := .bool _) rfl rfl) ?_; refine Wo_nil ?_; refine W_cond_ndec rfl (fun h5 => ?_) (fun h5 => ?_); refine W_seq ?_; refine W_region rfl ?_; refine Wo rfl (opv_assign (v := .string _) rfl) ?_
    refine Wo_nil ?_; refine W_ret ?_; refine at_ret (v := .string _) rfl ?_; refine ⟨congrArg str ?_, (E1.trans E2)⟩; rotate_left; refine W_skip ?_; refine W_seq ?_; refine W_seq ?_; refine W_region rfl ?_
    refine Wo rfl (opv_fieldAddr Tryd.underlying26 rfl rfl Tryd.sizeOf3 rfl) ?_; refine Wo (v := .int _ _) rfl (opv_load Tryd.isAgg3 rfl ((hB1.ext E2).cell rfl)) ?_; refine Wo_nil ?_; refine W_block ?_; refine W_seq ?_
    refine W_region rfl ?_; refine Wo rfl (opv_eql rfl rfl) ?_; refine Wo rfl (opv_assign (v := .bool _) rfl) ?_; refine Wo_nil ?_; refine W_cond_dec rfl (fun h6 => ?_) (fun h6 => ?_); refine W_seq ?_; refine W_region rfl ?_
    refine Wo rfl (opv_fieldAddr Tryd.underlying26 rfl rfl Tryd.sizeOf9 rfl) ?_; refine Wo (v := .string _) rfl (opv_load Tryd.isAgg9 rfl ((hB1.ext E2).cell rfl)) ?_; refine Wo rfl (opv_add_str rfl rfl (by simp <;> omega)) ?_
    refine Wo rfl (opv_assign (v := .string _) rfl) ?_; refine Wo_nil ?_; refine W_ret ?_; refine at_ret (v := .string _) rfl ?_; refine ⟨congrArg str ?_, (E1.trans E2)⟩; rotate_left; refine W_seq ?_; refine W_region rfl ?_
    refine Wo rfl (opv_eql rfl rfl) ?_; refine Wo rfl (opv_assign (v := .bool _) rfl) ?_; refine Wo_nil ?_; refine W_cond_dec rfl (fun h7 => ?_) (fun h7 => ?_); refine W_seq ?_; refine W_region rfl ?_
    refine Wo rfl (opv_fieldAddr Tryd.underlying26 rfl rfl Tryd.sizeOf9 rfl) ?_; refine Wo (v := .string _) rfl (opv_load Tryd.isAgg9 rfl ((hB1.ext E2).cell rfl)) ?_; refine Wo rfl (opv_add_str rfl rfl (by simp <;> omega)) ?_
    refine Wo rfl (opv_assign (v := .string _) rfl) ?_; refine Wo_nil ?_; refine W_ret ?_; refine at_ret (v := .string _) rfl ?_; refine ⟨congrArg str ?_, (E1.trans E2)⟩; rotate_left; refine W_skip ?_; refine W_seq ?_
    refine W_region rfl ?_; refine Wo rfl (opv_assign (v := .string _) rfl) ?_; refine Wo_nil ?_; refine W_ret ?_; refine at_ret (v := .string _) rfl ?_; refine ⟨congrArg str ?_, (E1.trans E2)⟩; rotate_left
  all_goals (unfold dtV; simp only [Deed.mk.injEq] at *)
  all_goals (try subst hB)
  all_goals try (simp_all [sSingle, sBack, sAdd, sDrop, sInto]; done)
  all_goals (repeat' split)
  all_goals first
    | rfl
    | (simp_all [sSingle, sBack, sAdd, sDrop, sInto]; done)
    | (exfalso; simp_all; omega)

end Go.Proofs.YtgphoihilheoeaaDoor
set_option linter.unusedVariables false
set_option linter.unusedSimpArgs false
namespace Go.Hs
open Go.RowKit (Below)
/-- the cells of deeds -/
def dcs (l : List Deed) : List Value := l.flatMap fun a => [.int .i64 a.kind, str a.text, .int .i64 a.node]
theorem dcs_len (l : List Deed) : (dcs l).length = l.length * 3 := by
  induction l with
  | nil => rfl
  | cons a l ih => simp only [dcs, List.flatMap_cons, List.length_append, List.length_cons, List.length_nil] at ih ⊢; omega
theorem dcs_app (l m : List Deed) : dcs (l ++ m) = dcs l ++ dcs m := by simp [dcs]
theorem dcs_at : ∀ (l : List Deed) (i : Nat) (h : i < l.length), (dcs l)[i * 3]? = some (.int .i64 l[i].kind) ∧ (dcs l)[i * 3 + 1]? = some (str l[i].text) ∧ (dcs l)[i * 3 + 2]? = some (.int .i64 l[i].node)
  | a :: l, 0, _ => ⟨rfl, rfl, rfl⟩
  | a :: l, i + 1, h => by
    have := dcs_at l i (by simpa using h)
    simp only [List.getElem_cons_succ]
    have e : dcs (a :: l) = [.int .i64 a.kind, str a.text, .int .i64 a.node] ++ dcs l := rfl
    have e1 : (i + 1) * 3 = i * 3 + 3 := by omega
    rw [e, e1]
    refine ⟨?_, ?_, ?_⟩
    · rw [List.getElem?_append_right (by simp)]; simpa using this.1
    · rw [List.getElem?_append_right (by simp)]; simpa using this.2.1
    · rw [List.getElem?_append_right (by simp)]; simpa using this.2.2
theorem dcs_one {l : List Deed} {u : Value} (h : u ∈ dcs l) : isCell u = true := by
  obtain ⟨a, _, h⟩ := List.mem_flatMap.1 h
  simp only [List.mem_cons, List.not_mem_nil, or_false] at h
  rcases h with rfl | rfl | rfl <;> rfl
/-- a slice of deeds of the call's own, its block from lo on -/
def OD (e : TypeId) (lo : Nat) (w : World) (v : Value) (l : List Deed) : Prop := w.ownsRow lo e 3 v l.length (dcs l) ∧ ∀ a ∈ l, a.text.length ≤ 9223372036854775807
section
variable {e : TypeId} {lo : Nat} {w w' w0 : World} {v : Value} {l m : List Deed}
theorem OD.ext (h : OD e lo w v l) (k : Ext w w') : OD e lo w' v l :=
  ⟨h.1.kept (row := none) ⟨k.os, k.tape, k.output, k.size, fun i hi _ => k.block i hi⟩ (by cases hv : v.ownBlock <;> simp), h.2⟩
instance : Mono (OD e lo) := ⟨fun k h => h.ext k⟩
theorem OD.nil : OD e lo w (.slice none 0 0) [] := ⟨World.ownsRow_nil w lo e 3, fun a h => by cases h⟩
theorem OD.lt (h : OD e lo w v l) {k : Nat} (hk : v.ownBlock = some k) : lo ≤ k ∧ k < w.heap.size := h.1.lt k hk
theorem OD.read (h : OD e lo w v l) : ESD w v l := by
  have hA := h.1.2
  rcases hA with ⟨rfl, h0⟩ | ⟨g, cap, cur, rfl, hb, hg, hnc, hcm, hcs, ht⟩
  · have : l = [] := List.eq_nil_of_length_eq_zero h0
    subst this
    exact ⟨none, 0, rfl, by simp, .inl rfl⟩
  · refine ⟨_, _, rfl, by unfold maxLen at hcm; omega, .inr ⟨g, 0, rfl, fun i hi => ?_⟩⟩
    obtain ⟨h1, h2, h3⟩ := dcs_at l i hi
    have c0 := h.1.cellAt (i * 3) (by omega)
    have c1 := h.1.cellAt (i * 3 + 1) (by omega)
    have c2 := h.1.cellAt (i * 3 + 2) (by omega)
    rw [Nat.zero_add]
    exact ⟨c0.trans h1, c1.trans h2, c2.trans h3, h.2 _ (List.getElem_mem hi)⟩
theorem OD.blk {b n : Nat} (hb : w.heap[b]? = some (.cells (dcs l).toArray e (0, 0))) (hl : lo ≤ b) (hn : l.length = n) (hm : n ≤ maxLen) (hx : ∀ a ∈ l, a.text.length ≤ 9223372036854775807) : OD e lo w (.slice (some ⟨b, 0, none⟩) n n) l := by
  subst hn
  exact ⟨⟨dcs_len l, .inr ⟨b, l.length, (dcs l).toArray, rfl, hl, hb, Nat.le_refl _, hm, by simp [dcs_len], by rw [List.take_of_length_le (by simp [dcs_len])]⟩⟩, hx⟩
end
/-- a slice of deeds: what the program tells of its types -/
structure ElD (P : Program) (t e : TypeId) : Prop where
  und : P.underlying t = some (.slice e)
  info : ∃ i, P.info? e = some i ∧ i.zero = some (.agg #[.int .i64 0, str [], .int .i64 0]) ∧ i.size = 3 ∧ i.bytes ≤ 64
  size : ∀ w, (sizeOf e).run P w = .ok 3 w
  zero : ∀ w, (zeroValue e).run P w = .ok (.agg #[.int .i64 0, str [], .int .i64 0]) w
theorem ElD.of {P : Program} {t e : TypeId} (hu : P.underlying t = some (.slice e)) (h : (P.info? e).map (fun i => (i.zero, i.size, Nat.ble i.bytes 64)) = some (some (.agg #[.int .i64 0, str [], .int .i64 0]), 3, true))
    (hs : ∀ w, (sizeOf e).run P w = .ok 3 w) (hz : ∀ w, (zeroValue e).run P w = .ok (.agg #[.int .i64 0, str [], .int .i64 0]) w) : ElD P t e := by
  refine ⟨hu, ?_, hs, hz⟩
  cases hi : P.info? e with
  | none => rw [hi] at h; cases h
  | some i =>
    rw [hi] at h
    simp only [Option.map_some, Option.some.injEq, Prod.mk.injEq] at h
    exact ⟨i, rfl, h.1, h.2.1, by simpa using h.2.2⟩
section
variable {P : Program} {n : Nat} {N : Env → World → Prop} {ρ : Env} {w w0 : World} {all : Array Oper} {rest : List Oper} {d : Nat} {ty t el : TypeId} {pos : String} {after : Array Edge} {g : Option (Nat × Bool)} {x y z s : Operand} {v : Value} {l m : List Deed} {lo : Nat} {a1 a2 a3 : Deed}
theorem run_buildD1 (hT : ElD P t el) : (Instr.buildSlice t 1 #[(0, dv a1)]).run P w = .ok (.slice (some ⟨w.heap.size, 0, none⟩) 1 1) (w.alloc (.cells (dcs [a1]).toArray el)) := by
  simp [Instr.buildSlice, run_und hT.und, hT.size, hT.zero, newRow, Instr.fill, dv, Value.cells, dcs, Array.range]
  refine congrArg (fun c => w.alloc (Obj.cells c el)) ?_
  apply Array.ext'
  simp [List.ofFn, Fin.foldr, Fin.foldr.loop]
theorem Wo_buildD0 (hw : wantedE all ⟨some d, .buildSlice t 0 #[], ty, pos, after, g⟩ ρ = true) (hT : ElD P t el)
    (hk : ∀ b w1, w.heap.size ≤ b → Ext w w1 → OD el w.heap.size w1 (.slice (some ⟨b, 0, none⟩) 0 0) [] → Wops P n all rest N (upd ρ d (.slice (some ⟨b, 0, none⟩) 0 0)) w1) :
    Wops P n all (⟨some d, .buildSlice t 0 #[], ty, pos, after, g⟩ :: rest) N ρ w := by
  refine Wo_w hw (show OpW P (.buildSlice t 0 #[]) ty ρ w (.slice (some ⟨w.heap.size, 0, none⟩) 0 0) (w.alloc (.cells (dcs []).toArray el)) from ?_) (hk _ _ (Nat.le_refl _) ((Ext.refl w).alloc _) (OD.blk (heap_alloc_new w _) (Nat.le_refl _) rfl (by unfold maxLen; omega) (fun a h => by cases h)))
  simp [OpW, execOp, Instr.buildSlice, run_und hT.und, hT.size, newRow, show Array.range 0 = #[] from rfl, Instr.fill, dcs]
theorem Wo_buildD1 (hw : wantedE all ⟨some d, .buildSlice t 1 #[(0, x)], ty, pos, after, g⟩ ρ = true) (hT : ElD P t el) (hx : evalE ρ x = dv a1) (h1 : a1.text.length ≤ 9223372036854775807)
    (hk : ∀ b w1, w.heap.size ≤ b → Ext w w1 → OD el w.heap.size w1 (.slice (some ⟨b, 0, none⟩) 1 1) [a1] → Wops P n all rest N (upd ρ d (.slice (some ⟨b, 0, none⟩) 1 1)) w1) :
    Wops P n all (⟨some d, .buildSlice t 1 #[(0, x)], ty, pos, after, g⟩ :: rest) N ρ w := by
  refine Wo_w hw (show OpW P (.buildSlice t 1 #[(0, x)]) ty ρ w (.slice (some ⟨w.heap.size, 0, none⟩) 1 1) (w.alloc (.cells (dcs [a1]).toArray el)) from ?_) (hk _ _ (Nat.le_refl _) ((Ext.refl w).alloc _) (OD.blk (heap_alloc_new w _) (Nat.le_refl _) rfl (by unfold maxLen; omega) (by simpa using h1)))
  simp [OpW, execOp, hx, run_buildD1 hT]
/-- append(list, more...) -/
theorem Wo_appD {b c k lo2 : Nat} (hw : wantedE all ⟨some d, .call { callee := .builtin .append, args := #[s, x], argTypes := #[t, t] }, ty, pos, after, g⟩ ρ = true) (hT : ElD P t el)
    (hv : evalE ρ s = v) (hx : evalE ρ x = .slice (some ⟨b, 0, none⟩) k c) (h : OD el lo w v l) (hy : OD el lo2 w (.slice (some ⟨b, 0, none⟩) k c) m) (hbig : l.length + m.length ≤ 1099511627776) (hlw : lo ≤ w.heap.size) (h0 : Ext w0 w) (hl0 : w0.heap.size ≤ lo)
    (hk : ∀ v' w', OD el lo w' v' (l ++ m) → Ext w0 w' → w.grownBy w' v.ownBlock → Wops P n all rest N (upd ρ d v') w') :
    Wops P n all (⟨some d, .call { callee := .builtin .append, args := #[s, x], argTypes := #[t, t] }, ty, pos, after, g⟩ :: rest) N ρ w := by
  obtain ⟨i, hi, hz, hs, hby⟩ := hT.info
  have hkl : k = m.length := by
    rcases hy.1.2 with ⟨e, _⟩ | ⟨g', cap, cur, e, _⟩
    · cases e
    · injection e
  subst hkl
  have hmul : (l.length + m.length) * i.bytes ≤ 140737488355328 := by have := Nat.mul_le_mul hbig hby; omega
  have hcell : ∀ j u, (dcs m)[j]? = some u → w.cell? ((⟨b, 0, none⟩ : Addr).add j) = some u := hy.1.cells (g := b) rfl
  obtain ⟨v', w', hr, h2, h3, h4⟩ := run_append_own (P := P) w lo t ty el i _ 3 i.bytes hT.und hi hz hs rfl rfl (by omega) v l.length (dcs l) h.1 ⟨b, 0, none⟩ m.length c (dcs m) (dcs_len m) hcell (fun u hu => oneCell_of (dcs_one hu)) (by unfold maxLen; omega) hmul hlw
  have hOD : OD el lo w' v' (l ++ m) := ⟨by rw [List.length_append, dcs_app]; exact h2, fun a ha => (List.mem_append.1 ha).elim (h.2 a) (hy.2 a)⟩
  refine Wo_run (v := v') (w' := w') hw ?_ (hk v' w' hOD ((Only.grownBy (fp := v.ownBlock.toList) h3 (fun k hk => by simp [hk])).ext h0 (fun k hk => ?_)) h3)
  · simp only [execOp, resolve, invoke, builtin, Sem.run_bind, Sem.run_pure, Result.andThen_ok, List.map_toArray, List.map_cons, List.map_nil, hv, hx, hr]
  · have : v.ownBlock = some k := by simpa using hk
    have := (h.lt this).1
    omega
end
end Go.Hs
set_option linter.unusedVariables false
set_option linter.unusedSimpArgs false
namespace Go.Hs
section
variable {e : TypeId} {lo : Nat} {w w' w0 : World} {v : Value} {l m : List Deed} {b n c k : Nat} {u : Value}
theorem OD.lit (h : OD e lo w v l) (hp : 0 < l.length) : ∃ b c, v = .slice (some ⟨b, 0, none⟩) l.length c := by
  rcases h.1.2 with ⟨rfl, h0⟩ | ⟨g, cap, cur, rfl, _⟩
  · omega
  · exact ⟨_, _, rfl⟩
theorem OD.len (h : OD e lo w (.slice (some ⟨b, 0, none⟩) n c) l) : n = l.length := by
  rcases h.1.2 with ⟨h0, _⟩ | ⟨g, cap, cur, h0, _⟩
  · cases h0
  · injection h0
theorem OD.le (h : OD e lo w v l) : l.length ≤ 9223372036854775807 := h.read.le
theorem OD.free (h : OD e lo w (.slice (some ⟨b, 0, none⟩) n c) l) (j : Nat) : w.frozen? ⟨b, j, none⟩ = false := by
  rcases h.1.2 with ⟨h0, _⟩ | ⟨g, cap, cur, h0, _, hg, _⟩
  · cases h0
  · injection h0 with h1 h2 h3
    injection h1 with h1
    injection h1 with h1 _ _
    subst h1
    simp [World.frozen?, hg]
theorem OD.at (h : OD e lo w (.slice (some ⟨b, 0, none⟩) n c) l) (hk : k < l.length) : DeedAt w b (0 + k * 3) l[k] := by
  obtain rfl := h.len
  obtain ⟨h1, h2, h3⟩ := dcs_at l k hk
  rw [Nat.zero_add]
  exact ⟨(h.1.cellAt (k * 3) (by omega)).trans h1, (h.1.cellAt (k * 3 + 1) (by omega)).trans h2, (h.1.cellAt (k * 3 + 2) (by omega)).trans h3, h.2 _ (List.getElem_mem hk)⟩
theorem OD.wrote {b' : Nat} (h : OD e lo w v l) (K : ∀ k, k ≠ b' → w'.heap[k]? = w.heap[k]?) (hb : v.ownBlock ≠ some b') : OD e lo w' v l := by
  refine ⟨?_, h.2⟩
  rcases h.1.2 with ⟨rfl, h0⟩ | ⟨g, cap, cur, rfl, hb2, hg, hnc, hcm, hcs, ht⟩
  · exact ⟨h.1.1, .inl ⟨rfl, h0⟩⟩
  · exact ⟨h.1.1, .inr ⟨g, cap, cur, rfl, hb2, (K g (fun e => hb (by rw [← e]; rfl))).trans hg, hnc, hcm, hcs, ht⟩⟩
end
section
variable {P : Program} {N : Env → World → Prop} {ρ : Env} {w w0 : World} {all : Array Oper} {rest : List Oper} {d : Nat} {ty t el e : TypeId} {pos : String} {after : Array Edge} {g : Option (Nat × Bool)} {x y : Operand} {l : List Deed} {lo b n c k : Nat} {nn : Nat}
/-- xs[i], a deed, in a region of drawn order -/
theorem Wq_getD {M : Env → Prop} {d2 : Nat} {tl ty2 : TypeId} {pos2 : String} {after2 : Array Edge} {g2 : Option (Nat × Bool)} {v : Value} (ht : P.underlying t = some (.slice el)) (hs : ∀ w, (sizeOf el).run P w = .ok 3 w) (hta : ∀ w, (isAgg tl).run P w = .ok true w) (hts : ∀ w, (sizeOf tl).run P w = .ok 3 w)
    (hw : wantedE all ⟨some d, .indexAddr t x y, ty, pos, after, g⟩ ρ = true) (hw2 : ∀ v, wantedE all ⟨some d2, .load tl (.tmp d), ty2, pos2, after2, g2⟩ (upd ρ d v) = true)
    (hx : evalE ρ x = v) (hR : ESD w0 v l) (hE : Ext w0 w) (hy : evalE ρ y = .int .i64 (k : Int)) (hk : k < l.length)
    (hk' : ∀ ad, Wq P nn all w rest M (upd (upd ρ d (.pointer (some ad))) d2 (dv l[k]))) : Wq P nn all w (⟨some d, .indexAddr t x y, ty, pos, after, g⟩ :: ⟨some d2, .load tl (.tmp d), ty2, pos2, after2, g2⟩ :: rest) M ρ := by
  obtain ⟨a, c, rfl, h1, h2⟩ := hR
  rcases h2 with rfl | ⟨b, o, rfl, h⟩
  · cases hk
  have hD := (h k hk).ext hE
  refine Wq_o hw (fun w' _ => opv_indexAddr3 ht hs hx hy hk) ?_
  refine Wq_o (hw2 _) (fun w' hw' => opv_load3o hta hts (by simp [evalE, upd]) (hD.ext hw').1 (hD.ext hw').2.1 (hD.ext hw').2.2.1) ?_
  exact hk' _
end
/-- .. and a number. -/
def RetODZ (w : World) (e : TypeId) (l : List Deed) (z : Int) : Value → World → Prop := fun v w' => ∃ u, v = .tuple #[u, .int .i64 z] ∧ Ext w w' ∧ OD e w.heap.size w' u l
end Go.Hs
namespace Go.Proofs.YtgphoihilheoeaaDoor
open Go.Hs
set_option maxRecDepth 10000
set_option maxHeartbeats 4000000
set_option linter.unusedVariables false
set_option linter.unusedSimpArgs false

theorem elD36 : ElD Tryd.prog 36 26 := ElD.of Tryd.underlying36 (by kernel_rfl) Tryd.sizeOf26 Tryd.zeroValue26

theorem jtV_step {l : List Deed} {k : Nat} (hk : k < l.length) : (l.take (k + 1)).flatMap (fun a => dtV a ++ [10]) = (l.take k).flatMap (fun a => dtV a ++ [10]) ++ dtV l[k] ++ [10] := by
  rw [List.take_succ_eq_append_getElem hk, List.flatMap_append]; simp
theorem jtV_no {l : List Deed} {k : Nat} (hk : k < l.length) (h : dtV l[k] = []) : jtV l = [] := by
  unfold jtV
  exact if_neg fun h2 => h2 _ (List.getElem_mem hk) h
theorem jtV_yes {l : List Deed} {k : Nat} (hk : l.length ≤ k) (h : ∀ a ∈ l.take k, dtV a ≠ []) : jtV l = (l.take k).flatMap (fun a => dtV a ++ [10]) := by
  rw [List.take_of_length_le hk] at h ⊢
  exact if_pos h
theorem spec_JournalText_ok (w : World) (v : Value) (l : List Deed) (h : ESD w v l) (hl : l.length ≤ 1048576) (hx : ∀ a ∈ l, a.text.length ≤ 1048576) :
    Does Tryd.prog 19 [v] w (Ret w (str (jtV l))) := by
  refine fn_of_W1 Tryd.func19 rfl Tryd.results19 Tryd.ntmps19 rfl ?_
  focus
    refine W_seq ?_; refine W_region rfl ?_; refine Wo rfl (opv_assign (v := .string _) rfl) ?_; refine Wo_nil ?_; refine W_seq ?_; refine W_region rfl ?_; refine Wo rfl (opv_assign (v := .string _) rfl) ?_; refine Wo_nil ?_
    refine W_seq ?_; refine W_seq ?_; refine W_region rfl ?_; refine Wo rfl (opv_assign (v := .int _ _) rfl) ?_; refine Wo_nil ?_; refine W_block ?_
  refine W_loop [2, 3, 4, 5, 6, 7, 8, 9, 10, 11, 12, 13, 14, 15, 16, 17, 18, 19, 20, 21, 22, 23, 24] (fun ((k, o) : Nat × List UInt8) => [(4, .int .i64 (k : Nat)), (3, str o)]) (fun (k, o) w' => Ext w w' ∧ k ≤ l.length ∧ o.length ≤ 211 * k ∧ o = (l.take k).flatMap (fun a => dtV a ++ [10]) ∧ ∀ a ∈ l.take k, dtV a ≠ []) (fun x => l.length - x.1) (0, []) (by repeat (first | exact trivial | refine And.intro rfl ?_)) ?_ ?_
  · exact ⟨by first | assumption | exact Ext.refl _, Nat.zero_le _, by simp, by simp, by simp⟩
  rintro ⟨k, o⟩ ρj w2 ⟨E2, hk, ho, heq, hne⟩
  by_cases hkl : k < l.length
  · have hxk := hx l[k] (List.getElem_mem hkl)
    have hdl := dtV_len l[k]
    have kd : ∀ (w : World), Does Tryd.prog 12 [dv l[k]] w (Ret w (str (dtV l[k]))) := fun w => spec_DeedText_ok w _ _ _ hxk
    focus
      have szE2 := E2.size; refine W_seq ?_; refine W_seq ?_; refine W_region rfl ?_; refine Wo rfl (opv_move (v := .int _ _) rfl) ?_; refine Wo rfl (opv_move (v := v) rfl) ?_; refine Wo rfl (opv_lenD Tryd.underlying36 rfl h) ?_
      refine Wo rfl (opv_lss rfl rfl) ?_; refine Wo_nil ?_; refine W_cond_dec rfl (fun h1 => ?_) (fun h1 => ?_); refine W_skip ?_; refine W_seq ?_; refine W_block ?_; refine W_seq ?_; refine W_seq ?_; refine W_region rfl ?_
      refine Wo rfl (opv_move (v := v) rfl) ?_; refine Wo rfl (opv_move (v := .int _ _) rfl) ?_
      refine Wo_getD Tryd.underlying36 Tryd.sizeOf26 Tryd.isAgg26 Tryd.sizeOf26 rfl (fun _ => rfl) rfl h E2 rfl (by first | omega | (simp <;> omega)) ?_; rintro _; refine Wo_call rfl (opc1 (a := .agg _) Tryd.call12 rfl) (kd _) ?_
      rintro _ w1 ⟨rfl, E1⟩; have hs1 := E1.size; refine Wo rfl (opv_eql_str rfl rfl) ?_; refine Wo_nil ?_; refine W_cond_dec rfl (fun h2 => ?_) (fun h2 => ?_); refine W_seq ?_; refine W_region rfl ?_
      refine Wo rfl (opv_assign (v := .string _) rfl) ?_; refine Wo_nil ?_; refine W_ret ?_; refine at_ret (v := .string _) rfl ?_; refine ⟨congrArg str ?_, (E2.trans E1)⟩; rotate_left; refine W_skip ?_; refine W_region rfl ?_
      refine Wo rfl (opv_move (v := .string _) rfl) ?_; refine Wo rfl (opv_move (v := v) rfl) ?_; refine Wo rfl (opv_move (v := .int _ _) rfl) ?_
      refine Wo_getD Tryd.underlying36 Tryd.sizeOf26 Tryd.isAgg26 Tryd.sizeOf26 rfl (fun _ => rfl) rfl h (E2.trans E1) rfl (by first | omega | (simp <;> omega)) ?_; rintro _
      refine Wo_call rfl (opc1 (a := .agg _) Tryd.call12 rfl) (kd _) ?_; rintro _ w3 ⟨rfl, E3⟩; have hs2 := E3.size; refine Wo rfl (opv_add_str rfl rfl (by omega)) ?_; refine Wo rfl (opv_add_str rfl rfl (by simp <;> omega)) ?_
      refine Wo rfl (opv_assign (v := .string _) rfl) ?_; refine Wo_nil ?_; refine W_region rfl ?_; refine Wo rfl (opv_move (v := .int _ _) rfl) ?_; refine Wo rfl (opv_add rfl rfl (by omega)) ?_
      refine Wo rfl (opv_assign (v := .int _ _) rfl) ?_; refine Wo_nil ?_; rotate_left; (exfalso; omega)
    · rw [jtV_no hkl (by assumption)]
    · refine ⟨((k + 1, o ++ dtV l[k] ++ [10])), by repeat (first | exact trivial | refine And.intro rfl ?_), by repeat (first | with_reducible exact Same.refl | refine Same.upd rfl ?_ | refine Same.upds rfl ?_ | refine Same.mix rfl ?_), ?_, ?_⟩
      · refine ⟨by first | assumption | exact E2.trans (by first | assumption | exact Ext.trans (by assumption) (by assumption)), by omega, by simp; omega, by rw [jtV_step hkl, heq], fun a ha => ?_⟩
        rw [List.take_succ_eq_append_getElem hkl] at ha
        rcases List.mem_append.1 ha with ha | ha
        · exact hne a ha
        · obtain rfl := List.mem_singleton.1 ha; assumption
      · simp only; omega
  · focus
      have szE2 := E2.size; refine W_seq ?_; refine W_seq ?_; refine W_region rfl ?_; refine Wo rfl (opv_move (v := .int _ _) rfl) ?_; refine Wo rfl (opv_move (v := v) rfl) ?_; refine Wo rfl (opv_lenD Tryd.underlying36 rfl h) ?_
      refine Wo rfl (opv_lss rfl rfl) ?_; refine Wo_nil ?_; refine W_cond_dec rfl (fun h1 => ?_) (fun h1 => ?_); (exfalso; omega); refine W_exit ?_; refine exitX_same ?_; refine W_seq ?_; refine W_region rfl ?_
      refine Wo rfl (opv_move (v := .string _) rfl) ?_; refine Wo rfl (opv_assign (v := .string _) rfl) ?_; refine Wo_nil ?_; refine W_ret ?_; refine at_ret (v := .string _) rfl ?_; refine ⟨congrArg str ?_, E2⟩
    rw [jtV_yes (by omega) hne, heq]

theorem impl_JournalText_ok (w : World) (v : Value) (l : List Deed) (hM : EMx gMx w (.bool true) ()) (h : ESD w v l) (hl : l.length ≤ 1048576) (hx : ∀ a ∈ l, a.text.length ≤ 1048576) :
    Does Tryd.prog 21 [v] w (Ret w (str (jtV l))) := by
  refine fn_of_W1 Tryd.func21 rfl Tryd.results21 Tryd.ntmps21 rfl ?_
  focus
    refine W_seq ?_; refine W_region rfl ?_; refine Wo rfl (opv_assign (v := .string _) rfl) ?_; refine Wo_nil ?_; refine W_seq ?_; refine W_region rfl ?_; refine Wo rfl (opv_assign (v := .string _) rfl) ?_; refine Wo_nil ?_
    refine W_seq ?_; refine W_seq ?_; refine W_region rfl ?_; refine Wo rfl (opv_move (v := v) rfl) ?_; refine Wo rfl (opv_lenD Tryd.underlying36 rfl h) ?_; refine Wo rfl (opv_move (v := .int _ _) rfl) ?_; refine Wo_nil ?_
    refine W_block ?_
  refine W_loop [2, 3, 5, 6, 9, 10, 11, 12, 13, 14, 15, 16, 17, 18, 19, 20, 21] (fun ((k, o) : Nat × List UInt8) => [(9, .int .i64 (k : Nat)), (3, str o)]) (fun (k, o) w' => Ext w w' ∧ k ≤ l.length ∧ o.length ≤ 211 * k ∧ o = (l.take k).flatMap (fun a => dtV a ++ [10]) ∧ ∀ a ∈ l.take k, dtV a ≠ []) (fun x => l.length - x.1) (0, []) (by repeat (first | exact trivial | refine And.intro rfl ?_)) ?_ ?_
  · exact ⟨by first | assumption | exact Ext.refl _, Nat.zero_le _, by simp, by simp, by simp⟩
  rintro ⟨k, o⟩ ρj w2 ⟨E2, hk, ho, heq, hne⟩
  by_cases hkl : k < l.length
  · have hxk := hx l[k] (List.getElem_mem hkl)
    have hdl := dtV_len l[k]
    have kd : ∀ (w : World), EMx gMx w (.bool true) () → Does Tryd.prog 44 [dv l[k]] w (Ret w (str (dtV l[k]))) := fun w hM => impl_deedText_ok w _ _ _ hM hxk
    focus
      have szE2 := E2.size; refine W_seq ?_; refine W_region rfl ?_; refine Wo rfl (opv_lss rfl rfl) ?_; refine Wo_nil ?_; refine W_seq ?_; refine W_cond_dec rfl (fun h1 => ?_) (fun h1 => ?_); refine W_skip ?_; refine W_seq ?_
      refine W_block ?_; refine W_seq ?_; refine W_region rfl ?_; refine Wo_getD Tryd.underlying36 Tryd.sizeOf26 Tryd.isAgg26 Tryd.sizeOf26 rfl (fun _ => rfl) rfl h E2 rfl (by first | omega | (simp <;> omega)) ?_; rintro _
      refine Wo_allocN rfl flat26 ?_; rintro b1 w1 hb1 E1 hB1; have hlb1 := hB1.lt; have hs1 := E1.size
      refine Wo_st3 rfl Tryd.sizeOf26 rfl rfl (by first | rfl | assumption) (by first | rfl | assumption) (by first | rfl | assumption) hB1 (by omega) (E2.trans E1) ?_; rintro w3 E3 hB1 K1 hz1
      have E4 := E1.wroteAt (E2.trans E1) E3 K1 hz1 (by omega); have szE4 := E4.size; refine Wo_nil ?_; refine W_seq ?_; refine W_region rfl ?_; refine Wo (v := .agg _) rfl (opv_load3 Tryd.isAgg26 Tryd.sizeOf26 rfl hB1) ?_
      refine Wo_call rfl (opc1 (a := .agg _) Tryd.call44 rfl) (kd _ ((Mono.mono E3 hM))) ?_; rintro _ w4 ⟨rfl, E5⟩; have hs2 := E5.size; refine Wo rfl (opv_assign (v := .string _) rfl) ?_; refine Wo_nil ?_; refine W_seq ?_
      refine W_seq ?_; refine W_region rfl ?_; refine Wo rfl (opv_move (v := .string _) rfl) ?_; refine Wo rfl (opv_eql_str rfl rfl) ?_; refine Wo_nil ?_; refine W_cond_dec rfl (fun h2 => ?_) (fun h2 => ?_); refine W_seq ?_
      refine W_region rfl ?_; refine Wo rfl (opv_assign (v := .string _) rfl) ?_; refine Wo_nil ?_; refine W_ret ?_; refine at_ret (v := .string _) rfl ?_; refine ⟨congrArg str ?_, (E3.trans E5)⟩; rotate_left; refine W_skip ?_
      refine W_region rfl ?_; refine Wo rfl (opv_move (v := .string _) rfl) ?_; refine Wo rfl (opv_move (v := .string _) rfl) ?_; refine Wo rfl (opv_add_str rfl rfl (by simp <;> omega)) ?_
      refine Wo rfl (opv_add_str rfl rfl (by simp <;> omega)) ?_; refine Wo rfl (opv_assign (v := .string _) rfl) ?_; refine Wo_nil ?_; refine W_region rfl ?_; refine Wo rfl (opv_add rfl rfl (by omega)) ?_
      refine Wo rfl (opv_move (v := .int _ _) rfl) ?_; refine Wo_nil ?_; rotate_left; (exfalso; omega)
    · rw [jtV_no hkl (by assumption)]
    · refine ⟨((k + 1, o ++ (dtV l[k] ++ [10]))), by repeat (first | exact trivial | refine And.intro rfl ?_), by repeat (first | with_reducible exact Same.refl | refine Same.upd rfl ?_ | refine Same.upds rfl ?_ | refine Same.mix rfl ?_), ?_, ?_⟩
      · refine ⟨by first | assumption | exact E2.trans (by first | assumption | exact Ext.trans (by assumption) (by assumption)), by omega, by simp; omega, by rw [jtV_step hkl, heq]; simp, fun a ha => ?_⟩
        rw [List.take_succ_eq_append_getElem hkl] at ha
        rcases List.mem_append.1 ha with ha | ha
        · exact hne a ha
        · obtain rfl := List.mem_singleton.1 ha; assumption
      · simp only; omega
  · focus
      have szE2 := E2.size; refine W_seq ?_; refine W_region rfl ?_; refine Wo rfl (opv_lss rfl rfl) ?_; refine Wo_nil ?_; refine W_seq ?_; refine W_cond_dec rfl (fun h1 => ?_) (fun h1 => ?_); (exfalso; omega); refine W_exit ?_
      refine exitX_same ?_; refine W_seq ?_; refine W_region rfl ?_; refine Wo rfl (opv_move (v := .string _) rfl) ?_; refine Wo rfl (opv_assign (v := .string _) rfl) ?_; refine Wo_nil ?_; refine W_ret ?_
      refine at_ret (v := .string _) rfl ?_; refine ⟨congrArg str ?_, E2⟩
    rw [jtV_yes (by omega) hne, heq]

end Go.Proofs.YtgphoihilheoeaaDoor
set_option linter.unusedVariables false
set_option linter.unusedSimpArgs false
namespace Go.Hs
/-- an own slice of deeds, its blocks told -/
def XD (e : TypeId) : World → List Nat → Value → List Deed → Prop := fun w fp v l => w.ownsRow 0 e 3 v l.length (dcs l) ∧ fp = v.ownBlock.toList ∧ ∀ a ∈ l, a.text.length ≤ 9223372036854775807
section
variable {e : TypeId} {lo hi : Nat} {w w' w0 w1 : World} {v : Value} {l m : List Deed} {br gb k : Nat}
theorem ownsRow_base {base base' size n : Nat} {xs : List Value} (h : w.ownsRow base e size v n xs) (hb : ∀ g, v.ownBlock = some g → base' ≤ g) : w.ownsRow base' e size v n xs := by
  refine ⟨h.1, ?_⟩
  rcases h.2 with hn | ⟨g, cap, cur, rfl, h1, rest⟩
  · exact .inl hn
  · exact .inr ⟨g, cap, cur, rfl, hb g rfl, rest⟩
instance loc_XD : Loc (XD e) := ⟨by
    rintro w w' fp v l hk ⟨h1, rfl, h3⟩
    refine ⟨⟨h1.1, ?_⟩, rfl, h3⟩
    rcases h1.2 with hn | ⟨g, cap, cur, rfl, hb, hg, rest⟩
    · exact .inl hn
    · exact .inr ⟨g, cap, cur, rfl, hb, by rw [hk g (by simp [Value.ownBlock])]; exact hg, rest⟩, by
    rintro w fp v l ⟨h1, rfl, h3⟩ k hk
    exact (h1.lt k (by simpa using hk)).2, by
    rintro w fp v l ⟨h1, rfl, h3⟩
    rcases h1.2 with ⟨rfl, _⟩ | ⟨g, cap, cur, rfl, _⟩ <;> rfl⟩
theorem OwnedB.od (h : OwnedB lo hi (XD e) w v l) : OD e lo w v l := by
  obtain ⟨fp, h1, h2, h3, rfl, h5⟩ := h
  exact ⟨ownsRow_base h3 fun g hg => (h2 g (by simp [hg])).1, h5⟩
theorem OD.ox (h : OD e lo w v l) : OwnedB lo w.heap.size (XD e) w v l :=
  ⟨v.ownBlock.toList, by cases v.ownBlock <;> simp, fun k hk => h.lt (by simpa using hk), ownsRow_base h.1 fun _ _ => Nat.zero_le _, rfl, h.2⟩
instance shows_XD : Shows (XD e) ESD := ⟨fun {w fp v l} h => by
  obtain ⟨h3, rfl, h5⟩ := h
  exact OD.read (e := e) (lo := 0) ⟨h3, h5⟩⟩
theorem Rdr.beside {m : Nat} (h : Rdr w0 w br m) (g : w.grownBy w' (some gb)) (hne : gb ≠ br) (hg : w0.heap.size ≤ gb) : Rdr w0 w' br m := by
  obtain ⟨h1, h2, h3, vb, bs, p, h4, h5, h6, h7⟩ := h
  exact ⟨(Only.grownBy (fp := [gb]) g (fun k hk => by simp at hk; simp [hk])).ext h1 (fun k hk => by simp at hk; omega), h2, Nat.lt_of_lt_of_le h3 g.size, vb, bs, p, h4, h5, h6.of_heap (g.block br h3 (by simp; omega)), h7⟩
theorem grownBy_beside (h : w1.grownBy w (some br)) (g : w.grownBy w' (some gb)) (hb : w1.heap.size ≤ gb) : w1.grownBy w' (some br) :=
  ⟨g.os.trans h.os, g.tape.trans h.tape, g.output.trans h.output, Nat.le_trans h.size g.size, fun j hj hr => (g.block j (Nat.lt_of_lt_of_le hj h.size) (by simp; omega)).trans (h.block j hj hr)⟩
theorem Ext.beside (h : Ext w0 w) (g : w.grownBy w' (some gb)) (hg : w0.heap.size ≤ gb) : Ext w0 w' := (Only.grownBy (fp := [gb]) g (fun k hk => by simp at hk; simp [hk])).ext h (fun k hk => by simp at hk; omega)
end
section
variable {P : Program} {n : Nat} {N : Env → World → Prop} {ρ : Env} {w w0 : World} {all : Array Oper} {rest : List Oper} {d : Nat} {ty t el : TypeId} {pos : String} {after : Array Edge} {g : Option (Nat × Bool)} {x y z s : Operand} {v : Value} {l m : List Deed} {lo hi : Nat}
/-- append(list, more...), where the list lies told -/
theorem Wo_appX {b c k lo2 : Nat} (hw : wantedE all ⟨some d, .call { callee := .builtin .append, args := #[s, x], argTypes := #[t, t] }, ty, pos, after, g⟩ ρ = true) (hT : ElD P t el)
    (hv : evalE ρ s = v) (hx : evalE ρ x = .slice (some ⟨b, 0, none⟩) k c) (h : OwnedB lo hi (XD el) w v l) (hy : OD el lo2 w (.slice (some ⟨b, 0, none⟩) k c) m) (hbig : l.length + m.length ≤ 1099511627776) (hlw : lo ≤ w.heap.size)
    (hk : ∀ q v' w', lo ≤ q → (q < hi ∨ w.heap.size ≤ q) → w.grownBy w' (some q) → OwnedB lo w'.heap.size (XD el) w' v' (l ++ m) → Wops P n all rest N (upd ρ d v') w') :
    Wops P n all (⟨some d, .call { callee := .builtin .append, args := #[s, x], argTypes := #[t, t] }, ty, pos, after, g⟩ :: rest) N ρ w := by
  obtain ⟨i, hi', hz, hs, hby⟩ := hT.info
  have hkl : k = m.length := by
    rcases hy.1.2 with ⟨e, _⟩ | ⟨g', cap, cur, e, _⟩
    · cases e
    · injection e
  subst hkl
  have hmul : (l.length + m.length) * i.bytes ≤ 140737488355328 := by have := Nat.mul_le_mul hbig hby; omega
  have hcell : ∀ j u, (dcs m)[j]? = some u → w.cell? ((⟨b, 0, none⟩ : Addr).add j) = some u := hy.1.cells (g := b) rfl
  have h0 := h.od
  obtain ⟨v', w', hr, h2, h3, h4⟩ := run_append_own (P := P) w lo t ty el i _ 3 i.bytes hT.und hi' hz hs rfl rfl (by omega) v l.length (dcs l) h0.1 ⟨b, 0, none⟩ m.length c (dcs m) (dcs_len m) hcell (fun u hu => oneCell_of (dcs_one hu)) (by unfold maxLen; omega) hmul hlw
  have hOD : OD el lo w' v' (l ++ m) := ⟨by rw [List.length_append, dcs_app]; exact h2, fun a ha => (List.mem_append.1 ha).elim (h0.2 a) (hy.2 a)⟩
  refine Wo_run (v := v') (w' := w') hw ?_ ?_
  · simp only [execOp, resolve, invoke, builtin, Sem.run_bind, Sem.run_pure, Result.andThen_ok, List.map_toArray, List.map_cons, List.map_nil, hv, hx, hr]
  · cases hob : v.ownBlock with
    | none =>
      rw [hob] at h3
      exact hk w.heap.size v' w' hlw (.inr (Nat.le_refl _)) ⟨h3.os, h3.tape, h3.output, h3.size, fun j hj _ => h3.block j hj (by simp)⟩ hOD.ox
    | some q =>
      rw [hob] at h3
      obtain ⟨fp, f1, f2, f3, rfl, f5⟩ := h
      have := f2 q (by simp [hob])
      exact hk q v' w' this.1 (.inl this.2) h3 hOD.ox
/-- append(list, more...), where the list and what comes of it lie told -/
theorem Wo_appY {b c k lo2 : Nat} (hw : wantedE all ⟨some d, .call { callee := .builtin .append, args := #[s, x], argTypes := #[t, t] }, ty, pos, after, g⟩ ρ = true) (hT : ElD P t el)
    (hv : evalE ρ s = v) (hx : evalE ρ x = .slice (some ⟨b, 0, none⟩) k c) (h : OwnedB lo hi (XD el) w v l) (hy : OD el lo2 w (.slice (some ⟨b, 0, none⟩) k c) m) (hbig : l.length + m.length ≤ 1099511627776) (hlw : lo ≤ w.heap.size)
    (hk : ∀ q v' w', lo ≤ q → (v.ownBlock = some q ∨ w.heap.size ≤ q) → (v'.ownBlock = v.ownBlock ∨ ∃ g, v'.ownBlock = some g ∧ w.heap.size ≤ g) → w.grownBy w' (some q) → OwnedB lo w'.heap.size (XD el) w' v' (l ++ m) → Wops P n all rest N (upd ρ d v') w') :
    Wops P n all (⟨some d, .call { callee := .builtin .append, args := #[s, x], argTypes := #[t, t] }, ty, pos, after, g⟩ :: rest) N ρ w := by
  obtain ⟨i, hi', hz, hs, hby⟩ := hT.info
  have hkl : k = m.length := by
    rcases hy.1.2 with ⟨e, _⟩ | ⟨g', cap, cur, e, _⟩
    · cases e
    · injection e
  subst hkl
  have hmul : (l.length + m.length) * i.bytes ≤ 140737488355328 := by have := Nat.mul_le_mul hbig hby; omega
  have hcell : ∀ j u, (dcs m)[j]? = some u → w.cell? ((⟨b, 0, none⟩ : Addr).add j) = some u := hy.1.cells (g := b) rfl
  have h0 := h.od
  obtain ⟨v', w', hr, h2, h3, h4⟩ := run_append_own (P := P) w lo t ty el i _ 3 i.bytes hT.und hi' hz hs rfl rfl (by omega) v l.length (dcs l) h0.1 ⟨b, 0, none⟩ m.length c (dcs m) (dcs_len m) hcell (fun u hu => oneCell_of (dcs_one hu)) (by unfold maxLen; omega) hmul hlw
  have hOD : OD el lo w' v' (l ++ m) := ⟨by rw [List.length_append, dcs_app]; exact h2, fun a ha => (List.mem_append.1 ha).elim (h0.2 a) (hy.2 a)⟩
  have hl' : (dcs m).length = m.length * i.size := by rw [hs, dcs_len]
  have ho : v'.ownBlock = v.ownBlock ∨ ∃ g, v'.ownBlock = some g ∧ w.heap.size ≤ g := by
    rcases h0.1.2 with ⟨rfl, h9⟩ | ⟨g, cap, cur, rfl, hbg, hg, hnc, hcm, hcs, htake⟩
    · by_cases hm : m.length = 0
      · left; rw [h4.2 ⟨rfl, hm⟩]
      · have hr2 := run_append_nil (P := P) w t ty el i _ hT.und hi' hz ⟨b, 0, none⟩ m.length c (dcs m) hl' hcell (by omega) (by omega) (by rw [h9, Nat.zero_add] at hmul; omega)
        rw [hr] at hr2
        injection hr2 with e1 e2
        right; exact ⟨w.heap.size, by rw [e1]; rfl, Nat.le_refl _⟩
    · by_cases hroom : l.length + m.length ≤ cap
      · obtain ⟨w2, hr2, _⟩ := run_append_fits (P := P) w lo t ty el i 3 hT.und hi' hs g l.length cap (dcs l) h0.1 ⟨b, 0, none⟩ m.length c (dcs m) (dcs_len m) hcell (fun u hu => oneCell_of (dcs_one hu)) hroom
        rw [hr] at hr2
        injection hr2 with e1 e2
        left; rw [e1]; rfl
      · have holds : ∀ j u, (dcs l)[j]? = some u → w.cell? ((⟨g, 0, none⟩ : Addr).add j) = some u := h0.1.cells (g := g) rfl
        have hlc : (dcs l).length = l.length * i.size := by rw [hs, dcs_len]
        have hr2 := run_append_grow (P := P) w t ty el i _ hT.und hi' hz ⟨g, 0, none⟩ l.length cap (dcs l) hlc holds ⟨b, 0, none⟩ m.length c (dcs m) hl' hcell (by omega) (by omega) (growslice_fits (by omega) hmul)
        rw [hr] at hr2
        injection hr2 with e1 e2
        right; exact ⟨w.heap.size, by rw [e1]; rfl, Nat.le_refl _⟩
  refine Wo_run (v := v') (w' := w') hw ?_ ?_
  · simp only [execOp, resolve, invoke, builtin, Sem.run_bind, Sem.run_pure, Result.andThen_ok, List.map_toArray, List.map_cons, List.map_nil, hv, hx, hr]
  · cases hob : v.ownBlock with
    | none =>
      rw [hob] at h3
      exact hk w.heap.size v' w' hlw (.inr (Nat.le_refl _)) ho ⟨h3.os, h3.tape, h3.output, h3.size, fun j hj _ => h3.block j hj (by simp)⟩ hOD.ox
    | some q =>
      rw [hob] at h3
      obtain ⟨fp, f1, f2, f3, rfl, f5⟩ := h
      have := f2 q (by simp [hob])
      exact hk q v' w' this.1 (.inl hob) ho h3 hOD.ox
end
/-- deeds drawn -/
def RetDDs (w0 w : World) (br m : Nat) (e : TypeId) (p : List Deed → Prop) : Value → World → Prop := fun v w' => ∃ l, w.grownBy w' (some br) ∧ Rdr w0 w' br m ∧ OwnedB w.heap.size w'.heap.size (XD e) w' v l ∧ p l
/-- own deeds, and what is known of them -/
def RetODp (w : World) (e : TypeId) (p : List Deed → Prop) : Value → World → Prop := fun v w' => ∃ l, Ext w w' ∧ OD e w.heap.size w' v l ∧ p l
end Go.Hs
namespace Go.Proofs.YtgphoihilheoeaaDoor
open Go.Hs
set_option maxRecDepth 10000
set_option maxHeartbeats 4000000
set_option linter.unusedVariables false
set_option linter.unusedSimpArgs false

theorem Deeds_ok {w0 : World} (w : World) {br m lo : Nat} (u1 u2 : Value) (p : List (List Int)) (hr : Rdr w0 w br m) (hm : m ≤ 1000000) (hA : Above lo (ESl Ints) w u1 p) (hlo : br < lo) (hlo2 : lo < w.heap.size) (i2 : isCell u2 = true) (hp : NowP p) :
    Does Tryd.prog 80 [.pointer (some ⟨br, 0, none⟩), .agg #[u1, u2]] w (RetDDs w0 w br (m + 60) 26 (fun l => l.length ≤ 5 ∧ ∀ a ∈ l, DrP a)) := by
  have i1 : isCell u1 = true := ESl_isC hA.here
  have hle := hA.here.le
  have hO := hA.xrd hlo2 i1
  clear hA
  refine fn_of_W1 Tryd.func80 rfl Tryd.results80 Tryd.ntmps80 rfl ?_
  have hG : w.grownBy w (some br) := grownBy_refl _ _
  have hlr := hr.lt
  have hgr := hr.ge
  have E0 := hr.old
  have stop2 : True := trivial
  focus
    have szE0 := E0.size; refine W_seq ?_; refine W_region rfl ?_; refine Wo_box rfl rfl rfl ?_; rintro b1 w1 hb1 E1 hB1; have hlb1 := hB1.lt; have hr := hr.ext E1; have hG := grownBy_ext hG E1; have hs1 := E1.size
    refine Wo rfl (opv_assign (v := .slice _ _ _) rfl) ?_; refine Wo_nil ?_; refine W_seq ?_; refine W_region rfl ?_; refine Wo_buildD0  rfl elD36   ?_; rintro b2 w2 hb2 E2 hO1; have hr := hr.ext E2; have hG := grownBy_ext hG E2
    have hs2 := E2.size; refine Wo rfl (opv_assign (v := .slice _ _ _) rfl) ?_; refine Wo_nil ?_; refine W_seq ?_; refine W_seq ?_
  clear stop2
  have hQ := hO1.ox
  clear hO1
  focus
    have szE2 := E2.size; have szE1 := E1.size; have szE0 := E0.size; refine W_region rfl ?_; refine Wo rfl (opv_move (v := .pointer _) rfl) ?_
    refine Wo_call rfl (opc2 (a := .pointer _) (b := .int _ _) Tryd.call54 rfl rfl) (pick_ok _ _ (by assumption) (by omega)) ?_; rintro _ w3 ⟨y1, rfl, E3, hr1, hy1⟩; (try dsimp only at hy1); have hlhr1 := hr1.lt; have Ehr1 := hr1.old
    have hO := (hO.ext (E1.trans E2)).grown E3 (by omega); have hB1 := (hB1.ext E2).grown E3 (by simp only [ne_eq, Option.some.injEq]; omega); have hG := grownBy_trans hG E3; have hQ := hQ.grown E3 (by omega); have hs3 := E3.size
    refine Wo rfl (opv_assign (v := .int _ _) rfl) ?_; refine Wo_nil ?_; refine W_block ?_
  have hy1' := hy1 (by omega)
  refine W_loop [5, 6, 10, 11, 12, 13, 14, 15, 16, 17, 18, 19] (fun ((k, v, L) : Nat × Value × List Deed) => [(6, .int .i64 (k : Nat)), (5, v)]) (fun (k, v, L) w' => w.grownBy w' (some br) ∧ Rdr w0 w' br (m + 1 + 10 * (5 - k)) ∧ k ≤ 5 ∧ w2.heap.size ≤ w'.heap.size ∧ Blk w' b1 [u1, u2] ∧ OwnedB lo w.heap.size (XRd (ESl Ints)) w' u1 p ∧ OwnedB w1.heap.size w'.heap.size (XD 26) w' v L ∧ L.length + k ≤ 5 ∧ ∀ a ∈ L, DrP a) (fun x => x.1) (y1, _, []) (by repeat (first | exact trivial | refine And.intro rfl ?_)) ?_ ?_
  · exact ⟨hG, hr1.le (by omega), by omega, by omega, hB1, hO, hQ.wide (Nat.le_refl _) (by omega), by simp; omega, fun a h => by cases h⟩
  clear hr hr1 hG hQ hO hB1
  rintro ⟨k, v, L⟩ ρj w4 ⟨hG, hr, hk, hsz, hB1, hO, hQ, hL, hP⟩
  have E4 := hr.old
  have kD : ∀ (w' : World) (m' : Nat) (hr : Rdr w0 w' br m') (hm : m' ≤ 10000000) (hA : OwnedB lo w.heap.size (XRd (ESl Ints)) w' u1 p), lo < w'.heap.size → Does Tryd.prog 51 [.pointer (some ⟨br, 0, none⟩), .agg #[u1, u2]] w' (RetDD w0 w' br (m' + 10) DrP) := fun w' m' hr hm hA hl => Deed_ok w' u1 u2 p hr hm hA.above hlo hl i2 hp
  by_cases hk0 : 0 < k
  · focus
      have szE4 := E4.size; have szEhr1 := Ehr1.size; have szE2 := E2.size; have szE1 := E1.size; have szE0 := E0.size; refine W_seq ?_; refine W_seq ?_; refine W_region rfl ?_; refine Wo rfl (opv_move (v := .int _ _) rfl) ?_
      refine Wo rfl (opv_gtr rfl rfl) ?_; refine Wo_nil ?_; refine W_cond_dec rfl (fun h1 => ?_) (fun h1 => ?_); refine W_skip ?_; refine W_seq ?_; refine W_block ?_; refine W_region rfl ?_; refine Wo rfl (opv_move (v := v) rfl) ?_
      refine Wo rfl (opv_move (v := .pointer _) rfl) ?_; refine Wo (v := .agg _) rfl (opv_load2 Tryd.isAgg53 Tryd.sizeOf53 rfl hB1) ?_
      refine Wo_call rfl (opc2 (a := .pointer _) (b := .agg _) Tryd.call51 rfl rfl) (kD _ _ (by assumption) (by omega) (hO) (by omega)) ?_; rintro _ w5 ⟨k1, t1, n1, rfl, E5, hr1, hy2⟩; (try dsimp only at hy2); have hlhr1 := hr1.lt
      have Ehr1 := hr1.old; have hG := grownBy_trans hG E5; have hB1 := hB1.grown E5 (by simp only [ne_eq, Option.some.injEq]; omega); have hO := hO.grown E5 (by omega); have hQ := hQ.grown E5 (by omega); have hs4 := E5.size; rotate_left
      (exfalso; omega)
    have hx : ∀ k t n, DrP ⟨k, t, n⟩ → t.length ≤ 9223372036854775807 := fun k t n h => by have := h.2.2.1; simp only at this; omega
    refine Wo_buildD1 (a1 := ⟨_, _, _⟩) rfl elD36 rfl (hx _ _ _ hy2) ?_
    rintro b2 w6 hb2 E6 hO2
    have hQ := hQ.ext E6
    have hO := hO.ext E6
    have hr2 := hr1.ext E6
    have hG := grownBy_ext hG E6
    have hs6 := E6.size
    refine Wo_appX rfl elD36 rfl rfl hQ hO2 (by simp only [List.length_cons, List.length_nil]; omega) (by omega) ?_
    rintro q v' w7 hq1 hq2 hg hQ7
    have hs7 := hg.size
    have hr3 := hr2.beside hg (by omega) (by omega)
    have hG := grownBy_beside hG hg (by omega)
    have hO := hO.grown hg (by omega)
    have hB1 := (hB1.ext E6).grown hg (by simp; omega)
    focus
      have szE6 := E6.size; have szEhr1 := Ehr1.size; have szE4 := E4.size; have szEhr1 := Ehr1.size; have szE2 := E2.size; have szE1 := E1.size; have szE0 := E0.size; refine Wo rfl (opv_assign (v := v') rfl) ?_; refine Wo_nil ?_
      refine W_region rfl ?_; refine Wo rfl (opv_move (v := .int _ _) rfl) ?_; refine Wo rfl (opv_sub rfl rfl (by omega)) ?_; refine Wo rfl (opv_assign (v := .int _ _) rfl) ?_; refine Wo_nil ?_
    refine ⟨(k - 1, v', L ++ [⟨k1, t1, n1⟩]), ⟨congrArg (Value.int .i64) (show (k : Int) - 1 = ((k - 1 : Nat) : Int) by omega), rfl, trivial⟩, by repeat (first | with_reducible exact Same.refl | refine Same.upd rfl ?_ | refine Same.upds rfl ?_ | refine Same.mix rfl ?_), ?_, by simp only; omega⟩
    exact ⟨hG, hr3.le (by omega), by omega, by omega, hB1, hO, hQ7, by simp; omega, fun a ha => (List.mem_append.1 ha).elim (hP a) (fun h => by rw [List.mem_singleton.1 h]; exact hy2)⟩
  · focus
      have szE4 := E4.size; have szEhr1 := Ehr1.size; have szE2 := E2.size; have szE1 := E1.size; have szE0 := E0.size; refine W_seq ?_; refine W_seq ?_; refine W_region rfl ?_; refine Wo rfl (opv_move (v := .int _ _) rfl) ?_
      refine Wo rfl (opv_gtr rfl rfl) ?_; refine Wo_nil ?_; refine W_cond_dec rfl (fun h1 => ?_) (fun h1 => ?_); (exfalso; omega); refine W_exit ?_; refine exitX_same ?_; refine W_seq ?_; refine W_region rfl ?_
      refine Wo rfl (opv_move (v := v) rfl) ?_; refine Wo rfl (opv_assign (v := v) rfl) ?_; refine Wo_nil ?_; refine W_ret ?_; refine at_ret (v := v) rfl ?_
    refine ⟨L, hG, hr.le (by omega), hQ.wide (by omega) (Nat.le_refl _), by omega, hP⟩

end Go.Proofs.YtgphoihilheoeaaDoor
namespace Go.Proofs.YtgphoihilheoeaaDoor
open Go.Hs
set_option maxRecDepth 10000
set_option maxHeartbeats 4000000
set_option linter.unusedVariables false
set_option linter.unusedSimpArgs false

end Go.Proofs.YtgphoihilheoeaaDoor
namespace Go.Proofs.YtgphoihilheoeaaDoor
open Go.Hs
set_option maxRecDepth 10000
set_option maxHeartbeats 4000000
set_option linter.unusedVariables false
set_option linter.unusedSimpArgs false

theorem Written_ok {w0 : World} (w : World) {br m : Nat} (hr : Rdr w0 w br m) (hm : m ≤ 1000) : Does Tryd.prog 56 [.pointer (some ⟨br, 0, none⟩)] w (RetDDs w0 w br (m + 200) 26 (fun l => l.length ≤ 5 ∧ ∀ a ∈ l, DrP a ∧ dtV a ≠ [])) := by
  refine fn_of_W1 Tryd.func56 rfl Tryd.results56 Tryd.ntmps56 rfl ?_
  have hG : w.grownBy w (some br) := grownBy_refl _ _
  have hlr := hr.lt
  have hgr := hr.ge
  have E0 := hr.old
  have stop2 : True := trivial
  focus
    have szE0 := E0.size; refine W_seq ?_; refine W_region rfl ?_; refine Wo rfl (opv_assign (v := .slice _ _ _) rfl) ?_; refine Wo_nil ?_; refine W_seq ?_; refine W_region rfl ?_; refine Wo_buildD0  rfl elD36   ?_
    rintro b1 w1 hb1 E1 hO1; have hr := hr.ext E1; have hG := grownBy_ext hG E1; have hs1 := E1.size; refine Wo rfl (opv_assign (v := .slice _ _ _) rfl) ?_; refine Wo_nil ?_; refine W_seq ?_
  clear stop2
  have hQ1 := hO1.ox
  have hbl := (hO1.lt (k := b1) rfl).2
  clear hO1
  focus
    have szE1 := E1.size; have szE0 := E0.size; refine W_region rfl ?_; refine Wo rfl (opv_move (v := .pointer _) rfl) ?_; refine Wo rfl (opv_move (v := .pointer _) rfl) ?_
    refine Wo_call rfl (opc2 (a := .pointer _) (b := .int _ _) Tryd.call52 rfl rfl) (Desk0_ok _ (by assumption) (by omega)) ?_; rintro _ w2 ⟨u1, q1, x1, y1, rfl, E2, hr1, hA1, hC1, icu1, icq1, gwu1, hy1⟩; (try dsimp only at hy1)
    have hlhr1 := hr1.lt; have Ehr1 := hr1.old; have hG := grownBy_trans hG E2; have hQ1 := hQ1.grown E2 (by omega); have hs2 := E2.size
  have kD := Deeds_ok w2 u1 q1 x1 hr1 (by omega) hA1 (by omega) gwu1 icq1 hy1.now
  focus
    have szEhr1 := Ehr1.size; have szE1 := E1.size; have szE0 := E0.size; refine Wo_call rfl (opc2 (a := .pointer _) (b := .agg _) Tryd.call80 rfl rfl) (kD) ?_; rintro u2 w3 ⟨l1, E3, hr2, hQ2, hy2⟩; (try dsimp only at hy2)
    have hlhr2 := hr2.lt; have Ehr2 := hr2.old; have hA1 := hA1.grown E3 (by omega); have hC1 := hC1.grown E3 (by omega); have hG := grownBy_trans hG E3; have hQ1 := hQ1.grown E3 (by omega); have hs3 := E3.size
    refine Wo rfl (opv_assign (v := u2) rfl) ?_; refine Wo_nil ?_; refine W_seq ?_; refine W_seq ?_; refine W_region rfl ?_; refine Wo rfl (opv_assign (v := .int _ _) rfl) ?_; refine Wo_nil ?_; refine W_block ?_
  have hl1 : l1.length ≤ 5 := hy2.1
  refine W_loop [3, 5, 11, 12, 13, 14, 15, 16, 17, 18, 19, 20, 21, 22, 23, 24, 25, 26, 27, 28, 29] (fun ((k, v, L) : Nat × Value × List Deed) => [(5, .int .i64 (k : Nat)), (3, v)]) (fun (k, v, L) w' => w.grownBy w' (some br) ∧ Rdr w0 w' br (m + 190) ∧ k ≤ l1.length ∧ w3.heap.size ≤ w'.heap.size ∧ OwnedB w2.heap.size w3.heap.size (XD 26) w' u2 l1 ∧ OwnedB w.heap.size w'.heap.size (XD 26) w' v L ∧ (∀ q, v.ownBlock = some q → q < w2.heap.size ∨ w3.heap.size ≤ q) ∧ L.length ≤ k ∧ ∀ a ∈ L, DrP a ∧ dtV a ≠ []) (fun x => l1.length - x.1) (0, _, []) (by repeat (first | exact trivial | refine And.intro rfl ?_)) ?_ ?_
  · exact ⟨hG, hr2.le (by omega), by omega, by omega, hQ2, hQ1.wide (Nat.le_refl _) (by omega), fun q hq => by simp [Value.ownBlock] at hq; omega, by simp, fun a h => by cases h⟩
  clear hr hr1 hr2 hG hQ1 hQ2
  rintro ⟨k, v, L⟩ ρj w4 ⟨hG, hr, hk, hsz, hQ1, hQ2, hv, hL, hP⟩
  have E4 := hr.old
  have hR := hQ1.od.read
  have kT := fun (w : World) (k n : Int) (t : List UInt8) (h : DrP ⟨k, t, n⟩) => spec_DeedText_ok w k n t (by have := h.2.2.1; simp only at this; omega)
  by_cases hkl : k < l1.length
  · have hd := hy2.2 _ (List.getElem_mem hkl)
    focus
      have szE4 := E4.size; have szEhr2 := Ehr2.size; have szEhr1 := Ehr1.size; have szE1 := E1.size; have szE0 := E0.size; refine W_seq ?_; refine W_seq ?_; refine W_region rfl ?_; refine Wo rfl (opv_move (v := .int _ _) rfl) ?_
      refine Wo rfl (opv_move (v := u2) rfl) ?_; refine Wo rfl (opv_lenD Tryd.underlying36 rfl hR) ?_; refine Wo rfl (opv_lss rfl rfl) ?_; refine Wo_nil ?_; refine W_cond_dec rfl (fun h1 => ?_) (fun h1 => ?_); refine W_skip ?_
      refine W_seq ?_; refine W_block ?_; refine W_seq ?_; refine W_region rfl ?_; refine Wo rfl (opv_move (v := u2) rfl) ?_; refine Wo rfl (opv_move (v := .int _ _) rfl) ?_
      refine Wo_getD Tryd.underlying36 Tryd.sizeOf26 Tryd.isAgg26 Tryd.sizeOf26 rfl (fun _ => rfl) rfl hR (Ext.refl _) rfl (by first | omega | (simp <;> omega)) ?_; rintro _
      refine Wo_call rfl (opc1 (a := .agg _) Tryd.call12 rfl) (kT _ _ _ _ (by assumption)) ?_; rintro _ w5 ⟨rfl, E5⟩; have hG := grownBy_ext hG E5; have hr := hr.ext E5; have hs4 := E5.size; refine Wo rfl (opv_neq_str rfl rfl) ?_
      refine Wo_nil ?_; refine W_cond_ndec rfl (fun h2 => ?_) (fun h2 => ?_); refine W_region rfl ?_; refine Wo rfl (opv_move (v := v) rfl) ?_; refine Wo rfl (opv_move (v := u2) rfl) ?_; refine Wo rfl (opv_move (v := .int _ _) rfl) ?_
      refine Wo_getD Tryd.underlying36 Tryd.sizeOf26 Tryd.isAgg26 Tryd.sizeOf26 rfl (fun _ => rfl) rfl hR E5 rfl (by first | omega | (simp <;> omega)) ?_; rintro _; rotate_left; refine W_skip ?_; refine W_region rfl ?_
      refine Wo rfl (opv_move (v := .int _ _) rfl) ?_; refine Wo rfl (opv_add rfl rfl (by omega)) ?_; refine Wo rfl (opv_assign (v := .int _ _) rfl) ?_; refine Wo_nil ?_; rotate_left; (exfalso; omega)
    · have hx : ∀ k t n, DrP ⟨k, t, n⟩ → t.length ≤ 9223372036854775807 := fun k t n h => by have := h.2.2.1; simp only at this; omega
      refine Wo_buildD1 (a1 := ⟨_, _, _⟩) rfl elD36 rfl (hx _ _ _ hd) ?_
      rintro b2 w6 hb2 E6 hO2
      have E45 : Ext w4 w5 := by assumption
      have hQ1 := hQ1.ext (E45.trans E6)
      have hQ2 := hQ2.ext (E45.trans E6)
      have hr2 := hr.ext E6
      have hG := grownBy_ext hG E6
      have hs6 := hG.size
      have hs7 := E6.size
      refine Wo_appY (v := v) (m := [l1[k]]) rfl elD36 rfl rfl hQ2 hO2 (show L.length + 1 ≤ 1099511627776 by omega) (by omega) ?_
      rintro q v' w7 hq1 hq2 hv' hg hQ7
      have hs8 := hg.size
      have hqq : q < w2.heap.size ∨ w3.heap.size ≤ q := hq2.elim (hv q) fun h => .inr (by omega)
      have hr3 := hr2.beside hg (by omega) (by omega)
      have hG := grownBy_beside hG hg (by omega)
      have hQ1 := hQ1.grown hg (by omega)
      focus
        have szE45 := E45.size; have szE6 := E6.size; have szE5 := E5.size; have szE4 := E4.size; have szEhr2 := Ehr2.size; have szEhr1 := Ehr1.size; have szE1 := E1.size; have szE0 := E0.size; refine Wo rfl (opv_assign (v := v') rfl) ?_
        refine Wo_nil ?_; refine W_region rfl ?_; refine Wo rfl (opv_move (v := .int _ _) rfl) ?_; refine Wo rfl (opv_add rfl rfl (by omega)) ?_; refine Wo rfl (opv_assign (v := .int _ _) rfl) ?_; refine Wo_nil ?_
      refine ⟨((k + 1, v', L ++ [l1[k]])), by repeat (first | exact trivial | refine And.intro rfl ?_), by repeat (first | with_reducible exact Same.refl | refine Same.upd rfl ?_ | refine Same.upds rfl ?_ | refine Same.mix rfl ?_), ?_, ?_⟩
      · refine ⟨hG, hr3, by omega, by omega, hQ1, hQ7, fun q' hq' => ?_, by simp; omega, fun a ha => (List.mem_append.1 ha).elim (hP a) (fun h => by rw [List.mem_singleton.1 h]; exact ⟨hd, by first | assumption | (simp_all; done)⟩)⟩
        rcases hv' with hv' | ⟨g, hv', hg'⟩
        · exact hv q' (by rw [← hv']; exact hq')
        · rw [hv'] at hq'; cases hq'; omega
      · simp only; omega
    · refine ⟨((k + 1, v, L)), by repeat (first | exact trivial | refine And.intro rfl ?_), by repeat (first | with_reducible exact Same.refl | refine Same.upd rfl ?_ | refine Same.upds rfl ?_ | refine Same.mix rfl ?_), ?_, ?_⟩
      · have E5 : Ext w4 w5 := by assumption
        have hs5 := E5.size
        exact ⟨hG, hr, by omega, by omega, hQ1.ext E5, (hQ2.ext E5).wide (Nat.le_refl _) (by omega), hv, by omega, hP⟩
      · simp only; omega
  · focus
      have szE4 := E4.size; have szEhr2 := Ehr2.size; have szEhr1 := Ehr1.size; have szE1 := E1.size; have szE0 := E0.size; refine W_seq ?_; refine W_seq ?_; refine W_region rfl ?_; refine Wo rfl (opv_move (v := .int _ _) rfl) ?_
      refine Wo rfl (opv_move (v := u2) rfl) ?_; refine Wo rfl (opv_lenD Tryd.underlying36 rfl hR) ?_; refine Wo rfl (opv_lss rfl rfl) ?_; refine Wo_nil ?_; refine W_cond_dec rfl (fun h1 => ?_) (fun h1 => ?_); (exfalso; omega)
      refine W_exit ?_; refine exitX_same ?_; refine W_seq ?_; refine W_region rfl ?_; refine Wo rfl (opv_move (v := v) rfl) ?_; refine Wo rfl (opv_assign (v := v) rfl) ?_; refine Wo_nil ?_; refine W_ret ?_; refine at_ret (v := v) rfl ?_
    exact ⟨L, hG, hr.le (by omega), hQ2, by omega, hP⟩

theorem DrawJournalText_ok (w : World) (v : Value) (xs : List UInt8) (h : Bytes w v xs) (hc : CapOk v) : Does Tryd.prog 30 [v] w (RetODp w 26 (fun l => l.length ≤ 6 ∧ ∀ a ∈ l, a.text.length ≤ 1000)) := by
  have hle := h.le
  refine fn_of_W1 Tryd.func30 rfl Tryd.results30 Tryd.ntmps30 rfl ?_
  focus
    refine W_seq ?_; refine W_region rfl ?_; refine Wo rfl (opv_assign (v := .slice _ _ _) rfl) ?_; refine Wo_nil ?_; refine W_seq ?_; refine W_region rfl ?_; refine Wo rfl (opv_move (v := v) rfl) ?_
    refine Wo_call rfl (opc1 (a := v) Tryd.call50 rfl) (open_ok _ _ _ (h) (by assumption)) ?_; rintro _ w1 ⟨E1, y1, rfl, hy1⟩; have hlhy1 := hy1.lt; have hghy1 := hy1.ge; have hs1 := E1.size
    refine Wo rfl (opv_assign (v := .pointer _) rfl) ?_; refine Wo_nil ?_; refine W_seq ?_; refine W_region rfl ?_; refine Wo rfl (opv_move (v := .pointer _) rfl) ?_
    refine Wo_call rfl (opc1 (a := .pointer _) Tryd.call56 rfl) (Written_ok _ (by assumption) (by omega)) ?_; rintro u1 w2 ⟨l1, E2, hr1, hQ1, hy2⟩; (try dsimp only at hy2); have hlhr1 := hr1.lt; have Ehr1 := hr1.old; have hs2 := E2.size
    refine Wo rfl (opv_assign (v := u1) rfl) ?_; refine Wo_nil ?_; refine W_seq ?_; refine W_seq ?_; refine W_region rfl ?_; refine Wo rfl (opv_move (v := .pointer _) rfl) ?_
    refine Wo_call rfl (opc2 (a := .pointer _) (b := .int _ _) Tryd.call57 rfl rfl) (odd_ok _ _ (by assumption) (by omega) (by omega)) ?_; rintro _ w3 ⟨y2, rfl, E3, hr2, hy3⟩; (try dsimp only at hy3); have hlhr2 := hr2.lt
    have Ehr2 := hr2.old; have hQ1 := hQ1.grown E3 (by omega); have hs3 := E3.size; refine Wo_nil ?_; refine W_cond rfl (fun h1 => ?_) (fun h1 => ?_); refine W_region rfl ?_; refine Wo rfl (opv_move (v := u1) rfl) ?_
    refine Wo rfl (opv_build (ps := [(0, .int _ _)]) (cs := [_, _, _]) flat26 rfl rfl) ?_; refine Wo_buildD1 (a1 := ⟨_, _, _⟩) rfl elD36 rfl (by first | assumption | omega | (simp <;> omega)) ?_; rintro b1 w4 hb1 E4 hO1
    have hr2 := hr2.ext E4; have hs4 := E4.size; rotate_left; refine W_skip ?_; refine W_seq ?_; refine W_region rfl ?_; refine Wo rfl (opv_move (v := u1) rfl) ?_; refine Wo rfl (opv_assign (v := u1) rfl) ?_; refine Wo_nil ?_
    refine W_ret ?_; refine at_ret (v := u1) rfl ?_; rotate_left
  · have hx : ∀ k t n, DrP ⟨k, t, n⟩ → t.length ≤ 1000 := fun k t n h => h.2.2.1
    have hl1 : l1.length ≤ 5 := hy2.1
    have hs4 : w3.heap.size ≤ w4.heap.size := Ext.size (by assumption)
    refine Wo_appX (v := u1) (m := [⟨9, [], 0⟩]) rfl elD36 rfl rfl (hQ1.ext (by assumption)) hO1 (show l1.length + 1 ≤ 1099511627776 by omega) (by omega) ?_
    rintro q v' w7 hq1 hq2 hg hQ7
    focus
      have szE4 := E4.size; have szEhr2 := Ehr2.size; have szEhr1 := Ehr1.size; have szE1 := E1.size; refine Wo rfl (opv_assign (v := v') rfl) ?_; refine Wo_nil ?_; refine W_seq ?_; refine W_region rfl ?_
      refine Wo rfl (opv_move (v := v') rfl) ?_; refine Wo rfl (opv_assign (v := v') rfl) ?_; refine Wo_nil ?_; refine W_ret ?_; refine at_ret (v := v') rfl ?_
    refine ⟨l1 ++ [⟨9, [], 0⟩], (Ehr2.trans (show Ext w3 w4 by assumption)).beside hg (by omega), (hQ7.wide (by omega) (Nat.le_refl _)).od, by simp; omega, fun a ha => ?_⟩
    rcases List.mem_append.1 ha with ha | ha
    · exact (hy2.2 a ha).1.2.2.1
    · rw [List.mem_singleton.1 ha]; simp
  · have hl1 : l1.length ≤ 5 := hy2.1
    exact ⟨l1, by assumption, (hQ1.wide (by omega) (Nat.le_refl _)).od, by omega, fun a ha => (hy2.2 a ha).1.2.2.1⟩

end Go.Proofs.YtgphoihilheoeaaDoor
set_option linter.unusedVariables false
set_option linter.unusedSimpArgs false
namespace Go.Hs
def wInto : List UInt8 := [105, 110, 116, 111]
def wAdd : List UInt8 := [97, 100, 100]
def wDrop : List UInt8 := [100, 114, 111, 112]
/-- the deed that a text could be that of -/
def cand (s : List UInt8) : Option Deed :=
  if s = sSingle then some ⟨0, [], 0⟩
  else if s = sBack then some ⟨4, [], 0⟩
  else if (cutF 32 s).1 = wInto ∧ (cutF 32 s).2.1.length = 1 ∧ 48 ≤ ((cutF 32 s).2.1.getD 0 0).toNat ∧ ((cutF 32 s).2.1.getD 0 0).toNat ≤ 57 then some ⟨3, [], ((cutF 32 s).2.1.getD 0 0).toNat - 48⟩
  else if (cutF 32 s).1 = wAdd ∧ (cutF 32 s).2.2 = true then some ⟨1, (cutF 32 s).2.1, 0⟩
  else if (cutF 32 s).1 = wDrop ∧ (cutF 32 s).2.2 = true then some ⟨2, (cutF 32 s).2.1, 0⟩
  else none
theorem cand_told {a : Deed} (h : Told a) : cand (dtV a) = some a := by
  cases h with
  | single => rw [dtV_single]; rfl
  | back => rw [dtV_back]; rfl
  | into d h =>
    rw [dtV_into h]
    have e : cutF 32 (sInto ++ [dig d]) = (wInto, [dig d], true) := cutF_at (a := wInto) (r := [dig d]) (by decide)
    have h1 : sInto ++ [dig d] ≠ sSingle := by intro h; injection h with h1 h2; revert h1; decide
    have h2 : sInto ++ [dig d] ≠ sBack := by intro h; injection h with h1 h2; revert h1; decide
    have ed : (dig d).toNat = 48 + d := dig_toNat (by omega)
    rw [cand, if_neg h1, if_neg h2, e]
    simp only [List.length_cons, List.length_nil, List.getD_cons_zero, ed]
    rw [if_pos ⟨by trivial, by trivial, by omega, by omega⟩]
    congr 2; omega
  | add p h =>
    rw [dtV_add h]
    have e : cutF 32 (sAdd ++ txt p) = (wAdd, txt p, true) := cutF_at (a := wAdd) (r := txt p) (by decide)
    have h1 : sAdd ++ txt p ≠ sSingle := by intro h; injection h with h1 h2; revert h1; decide
    have h2 : sAdd ++ txt p ≠ sBack := by intro h; injection h with h1 h2; revert h1; decide
    rw [cand, if_neg h1, if_neg h2, e]
    simp only
    rw [if_neg (fun h => by have := h.1; revert this; decide), if_pos ⟨by trivial, by trivial⟩]
  | drop p h =>
    rw [dtV_drop h]
    have e : cutF 32 (sDrop ++ txt p) = (wDrop, txt p, true) := cutF_at (a := wDrop) (r := txt p) (by decide)
    have h1 : sDrop ++ txt p ≠ sSingle := by intro h; injection h with h1 h2; revert h1; decide
    have h2 : sDrop ++ txt p ≠ sBack := by intro h; injection h with h1 h2; revert h1; decide
    rw [cand, if_neg h1, if_neg h2, e]
    simp only
    rw [if_neg (fun h => by have := h.1; revert this; decide), if_neg (fun h => by have := h.1; revert this; decide), if_pos ⟨by trivial, by trivial⟩]
theorem rdD_cand (s : List UInt8) : rdD s = match cand s with | some a => if dtV a = s then some a else none | none => none := by
  cases hr : rdD s with
  | some a =>
    have ht := rdD_told hr
    have h1 := (rdD_some hr).1
    have := cand_told ht
    rw [h1] at this
    rw [this]
    simp only
    rw [if_pos h1]
  | none =>
    cases hc : cand s with
    | none => rfl
    | some a =>
      simp only
      by_cases h : dtV a = s
      · by_cases hs : s = []
        · subst hs; revert hc; unfold cand; intro hc; simp [cutF, sSingle, sBack, wInto, wAdd, wDrop] at hc
        · rw [rdD_eq h hs] at hr; cases hr
      · rw [if_neg h]
end Go.Hs
namespace Go.Proofs.YtgphoihilheoeaaDoor
open Go.Hs
set_option maxRecDepth 10000
set_option maxHeartbeats 4000000
set_option linter.unusedVariables false
set_option linter.unusedSimpArgs false

theorem leaf_some {O : Option Deed} {u : Value} {k n : Int} {l : List UInt8} (h : O = some ⟨k, l, n⟩) (hu : u = .bool true) : Value.tuple #[.agg #[.int .i64 k, str l, .int .i64 n], u] = .tuple #[dv (O.getD ⟨0, [], 0⟩), .bool O.isSome] := by
  subst h; subst hu; rfl
theorem leaf_none {O : Option Deed} {u : Value} (h : O = none) (hu : u = .bool false) : Value.tuple #[.agg #[.int .i64 0, str [], .int .i64 0], u] = .tuple #[dv (O.getD ⟨0, [], 0⟩), .bool O.isSome] := by
  subst h; subst hu; rfl
theorem impl_readDeed_ok (w : World) (s : List UInt8) (hM : EMx gMx w (.bool true) ()) (hs : s.length ≤ 1048576) :
    Does Tryd.prog 47 [str s] w (Ret w (.tuple #[dv ((rdD s).getD ⟨0, [], 0⟩), .bool (rdD s).isSome])) := by
  obtain ⟨wd, hW⟩ : ∃ wd, wd = (cutF 32 s).1 := ⟨_, rfl⟩
  obtain ⟨R, hR⟩ : ∃ R, R = (cutF 32 s).2.1 := ⟨_, rfl⟩
  obtain ⟨H, hH⟩ : ∃ H, H = (cutF 32 s).2.2 := ⟨_, rfl⟩
  have hRl : R.length ≤ 1048576 := by rw [hR]; have := (cutF_len 32 s).2; omega
  have k1 : ∀ w, EMx gMx w (.bool true) () → Does Tryd.prog 48 [str s, str [32]] w (Ret w (.tuple #[str wd, str R, .bool H])) := fun w hM => by
    subst hW hR hH; exact Cut_ok w s 32 hM hs
  have hr8 : (R.getD 0 0).toNat < 256 := UInt8.toNat_lt _
  have hc : cand s = (if s = [115, 105, 110, 103, 108, 101] then some ⟨0, [], 0⟩
    else if s = [98, 97, 99, 107] then some ⟨4, [], 0⟩
    else if wd = [105, 110, 116, 111] ∧ (R.length : Int) = 1 ∧ (48 : Int) ≤ ((R.getD 0 0).toNat : Int) ∧ ((R.getD 0 0).toNat : Int) ≤ 57 then some ⟨3, [], ((R.getD 0 0).toNat : Int) - 48⟩
    else if wd = [97, 100, 100] ∧ H = true then some ⟨1, R, 0⟩
    else if wd = [100, 114, 111, 112] ∧ H = true then some ⟨2, R, 0⟩ else none) := by
    subst hW hR hH
    have e : ((cutF 32 s).2.1.length = 1 ∧ 48 ≤ ((cutF 32 s).2.1.getD 0 0).toNat ∧ ((cutF 32 s).2.1.getD 0 0).toNat ≤ 57) ↔ (((cutF 32 s).2.1.length : Int) = 1 ∧ (48 : Int) ≤ (((cutF 32 s).2.1.getD 0 0).toNat : Int) ∧ (((cutF 32 s).2.1.getD 0 0).toNat : Int) ≤ 57) := by omega
    refine ite_congr rfl (fun _ => rfl) fun _ => ite_congr rfl (fun _ => rfl) fun _ => ite_congr (propext (and_congr Iff.rfl e)) (fun _ => rfl) fun _ => rfl
  have hr := rdD_cand s
  rw [hc] at hr
  obtain ⟨O, hO⟩ : ∃ O, O = rdD s := ⟨_, rfl⟩
  rw [← hO] at hr ⊢
  refine fn_of_Wc3t Tryd.func47 rfl Tryd.results47 Tryd.ntmps47 rfl Tryd.isAgg26 Tryd.sizeOf26 ?_
  have k2 : ∀ w k n, EMx gMx w (.bool true) () → Does Tryd.prog 44 [.agg #[.int .i64 k, str [], .int .i64 n]] w (Ret w (str (dtV ⟨k, [], n⟩))) := fun w k n hM => impl_deedText_ok w k n [] hM (by simp)
  have k3 : ∀ w k n, EMx gMx w (.bool true) () → Does Tryd.prog 44 [.agg #[.int .i64 k, str R, .int .i64 n]] w (Ret w (str (dtV ⟨k, R, n⟩))) := fun w k n hM => impl_deedText_ok w k n R hM hRl
  focus
    refine W_seq ?_; refine W_region rfl ?_; refine Wo_allocN rfl flat26 ?_; rintro b1 w1 hb1 E1 hB1; have hlb1 := hB1.lt; have hs1 := E1.size; refine Wo rfl (opv_assign (v := .bool _) rfl) ?_; refine Wo_nil ?_; refine W_seq ?_
    refine W_region rfl ?_; refine Wo rfl (opv_move (v := .string _) rfl) ?_; refine Wo_call rfl (opc2 (a := .string _) (b := .string _) Tryd.call48 rfl rfl) (k1 _ ((Mono.mono E1 hM))) ?_; rintro _ w2 ⟨rfl, E2⟩; have hs2 := E2.size
    refine Wo rfl (opv_move (v := .tuple _) rfl) ?_; refine Wo rfl (opv_extract (v := .string _) rfl rfl) ?_; refine Wo rfl (opv_extract (v := .string _) rfl rfl) ?_; refine Wo rfl (opv_extract (v := .bool _) rfl rfl) ?_
    refine Wo rfl (opv_assign (v := .string _) rfl) ?_; refine Wo rfl (opv_assign (v := .string _) rfl) ?_; refine Wo rfl (opv_assign (v := .bool _) rfl) ?_; refine Wo_nil ?_; refine W_seq ?_; refine W_region rfl ?_
    refine Wo rfl (opv_build (ps := []) (cs := [_, _, _]) flat26 rfl rfl) ?_; refine Wo_allocN rfl flat26 ?_; rintro b2 w3 hb2 E3 hB2; have hlb2 := hB2.lt; have hs3 := E3.size
    refine Wo_st3 rfl Tryd.sizeOf26 rfl rfl (by first | rfl | assumption) (by first | rfl | assumption) (by first | rfl | assumption) hB2 (by omega) ((E1.trans E2).trans E3) ?_; rintro w4 E4 hB2 K1 hz1
    have E5 := (E2.trans E3).wroteAt ((E1.trans E2).trans E3) E4 K1 hz1 (by omega); have szE5 := E5.size; have E6 := E3.wroteAt ((E1.trans E2).trans E3) E4 K1 hz1 (by omega); have szE6 := E6.size
    have hB1 := (hB1.ext (E2.trans E3)).of_heap (K1 _ (by omega)); refine Wo_nil ?_; refine W_seq ?_; refine W_block ?_; refine W_seq ?_; refine W_region rfl ?_; refine Wo rfl (opv_move (v := .string _) rfl) ?_
    refine Wo rfl (opv_eql_str rfl rfl) ?_; refine Wo rfl (opv_assign (v := .bool _) rfl) ?_; refine Wo_nil ?_; refine W_cond_dec rfl (fun h1 => ?_) (fun h1 => ?_); refine W_region rfl ?_
    refine Wo rfl (opv_fieldAddr Tryd.underlying26 rfl rfl Tryd.sizeOf3 rfl) ?_; refine Wo_st (v := .int _ _) rfl Tryd.sizeOf3 rfl rfl rfl hB2 (by decide) (by omega) E4 ?_; rintro w5 E7 hB2 K2 hz2
    have E8 := E5.wroteAt E4 E7 K2 hz2 (by omega); have szE8 := E8.size; have E9 := E6.wroteAt E4 E7 K2 hz2 (by omega); have szE9 := E9.size; simp only [List.set] at hB2; have hB1 := hB1.of_heap (K2 _ (by omega)); refine Wo_nil ?_
    refine W_seq ?_; refine W_seq ?_; refine W_region rfl ?_; refine Wo (v := .agg _) rfl (opv_load3 Tryd.isAgg26 Tryd.sizeOf26 rfl hB2) ?_; refine Wo_call rfl (opc1 (a := .agg _) Tryd.call44 rfl) (k2 _ _ _ ((Mono.mono E7 hM))) ?_
    rintro _ w6 ⟨rfl, E10⟩; have hs4 := E10.size; refine Wo rfl (opv_move (v := .string _) rfl) ?_; refine Wo rfl (opv_neq_str rfl rfl) ?_; refine Wo_nil ?_; refine W_cond_ndec rfl (fun h2 => ?_) (fun h2 => ?_); refine W_seq ?_
    refine W_region rfl ?_; refine Wo rfl (opv_build (ps := []) (cs := [_, _, _]) flat26 rfl rfl) ?_
    refine Wo_st3 rfl Tryd.sizeOf26 rfl rfl (by first | rfl | assumption) (by first | rfl | assumption) (by first | rfl | assumption) (hB1.ext E10) (by omega) (E7.trans E10) ?_; rintro w7 E11 hB1 K3 hz3
    have hB2 := (hB2.ext E10).of_heap (K3 _ (by omega)); refine Wo rfl (opv_assign (v := .bool _) rfl) ?_; refine Wo_nil ?_; refine W_ret ?_; rotate_left; refine W_skip ?_; refine W_seq ?_; refine W_region rfl ?_
    refine Wo (v := .agg _) rfl (opv_load3 Tryd.isAgg26 Tryd.sizeOf26 rfl (hB2.ext E10)) ?_
    refine Wo_st3 rfl Tryd.sizeOf26 rfl rfl (by first | rfl | assumption) (by first | rfl | assumption) (by first | rfl | assumption) (hB1.ext E10) (by omega) (E7.trans E10) ?_; rintro w7 E11 hB1 K3 hz3
    have hB2 := (hB2.ext E10).of_heap (K3 _ (by omega)); refine Wo rfl (opv_assign (v := .bool _) rfl) ?_; refine Wo_nil ?_; refine W_ret ?_; rotate_left; refine W_seq ?_; refine W_region rfl ?_
    refine Wo rfl (opv_move (v := .string _) rfl) ?_; refine Wo rfl (opv_eql_str rfl rfl) ?_; refine Wo rfl (opv_assign (v := .bool _) rfl) ?_; refine Wo_nil ?_; refine W_cond_dec rfl (fun h2 => ?_) (fun h2 => ?_)
    refine W_region rfl ?_; refine Wo rfl (opv_fieldAddr Tryd.underlying26 rfl rfl Tryd.sizeOf3 rfl) ?_; refine Wo_st (v := .int _ _) rfl Tryd.sizeOf3 rfl rfl rfl hB2 (by decide) (by omega) E4 ?_; rintro w5 E7 hB2 K2 hz2
    have E8 := E5.wroteAt E4 E7 K2 hz2 (by omega); have szE8 := E8.size; have E9 := E6.wroteAt E4 E7 K2 hz2 (by omega); have szE9 := E9.size; simp only [List.set] at hB2; have hB1 := hB1.of_heap (K2 _ (by omega)); refine Wo_nil ?_
    refine W_seq ?_; refine W_seq ?_; refine W_region rfl ?_; refine Wo (v := .agg _) rfl (opv_load3 Tryd.isAgg26 Tryd.sizeOf26 rfl hB2) ?_; refine Wo_call rfl (opc1 (a := .agg _) Tryd.call44 rfl) (k2 _ _ _ ((Mono.mono E7 hM))) ?_
    rintro _ w6 ⟨rfl, E10⟩; have hs4 := E10.size; refine Wo rfl (opv_move (v := .string _) rfl) ?_; refine Wo rfl (opv_neq_str rfl rfl) ?_; refine Wo_nil ?_; refine W_cond_ndec rfl (fun h3 => ?_) (fun h3 => ?_); refine W_seq ?_
    refine W_region rfl ?_; refine Wo rfl (opv_build (ps := []) (cs := [_, _, _]) flat26 rfl rfl) ?_
    refine Wo_st3 rfl Tryd.sizeOf26 rfl rfl (by first | rfl | assumption) (by first | rfl | assumption) (by first | rfl | assumption) (hB1.ext E10) (by omega) (E7.trans E10) ?_; rintro w7 E11 hB1 K3 hz3
    have hB2 := (hB2.ext E10).of_heap (K3 _ (by omega)); refine Wo rfl (opv_assign (v := .bool _) rfl) ?_; refine Wo_nil ?_; refine W_ret ?_; rotate_left; refine W_skip ?_; refine W_seq ?_; refine W_region rfl ?_
    refine Wo (v := .agg _) rfl (opv_load3 Tryd.isAgg26 Tryd.sizeOf26 rfl (hB2.ext E10)) ?_
    refine Wo_st3 rfl Tryd.sizeOf26 rfl rfl (by first | rfl | assumption) (by first | rfl | assumption) (by first | rfl | assumption) (hB1.ext E10) (by omega) (E7.trans E10) ?_; rintro w7 E11 hB1 K3 hz3
    have hB2 := (hB2.ext E10).of_heap (K3 _ (by omega)); refine Wo rfl (opv_assign (v := .bool _) rfl) ?_; refine Wo_nil ?_; refine W_ret ?_; rotate_left; refine W_seq ?_; refine W_region rfl ?_
    refine Wo rfl (opv_move (v := .string _) rfl) ?_; refine Wo rfl (opv_eql_str rfl rfl) ?_; refine Wo_split_dec rfl (opv_move (v := .bool _) rfl) (fun h3 => ?_) (fun h3 => ?_); refine Wo rfl (opv_move (v := .string _) rfl) ?_
    refine Wo rfl (opv_len_str Tryd.underlying9 rfl) ?_; refine Wo rfl (opv_eql rfl rfl) ?_; refine Wo rfl (opv_pick_t (v := .bool _) rfl rfl) ?_; refine Wo_split_dec rfl (opv_move (v := .bool _) rfl) (fun h4 => ?_) (fun h4 => ?_)
    refine Wo rfl (opv_move (v := .string _) rfl) ?_; refine Wo rfl (opv_index_str (k := 0) Tryd.underlying9 rfl rfl (by omega)) ?_; refine Wo rfl (opv_geq rfl rfl) ?_; refine Wo rfl (opv_pick_t (v := .bool _) rfl rfl) ?_
    refine Wo_split_dec rfl (opv_move (v := .bool _) rfl) (fun h5 => ?_) (fun h5 => ?_); refine Wo rfl (opv_move (v := .string _) rfl) ?_; refine Wo rfl (opv_index_str (k := 0) Tryd.underlying9 rfl rfl (by omega)) ?_
    refine Wo rfl (opv_leq rfl rfl) ?_; refine Wo rfl (opv_pick_t (v := .bool _) rfl rfl) ?_; refine Wo rfl (opv_assign (v := .bool _) rfl) ?_; refine Wo_nil ?_; refine W_cond_dec rfl (fun h6 => ?_) (fun h6 => ?_); refine W_seq ?_
    refine W_region rfl ?_; refine Wo rfl (opv_fieldAddr Tryd.underlying26 rfl rfl Tryd.sizeOf3 rfl) ?_; refine Wo_st (v := .int _ _) rfl Tryd.sizeOf3 rfl rfl rfl hB2 (by decide) (by omega) E4 ?_; rintro w5 E7 hB2 K2 hz2
    have E8 := E5.wroteAt E4 E7 K2 hz2 (by omega); have szE8 := E8.size; have E9 := E6.wroteAt E4 E7 K2 hz2 (by omega); have szE9 := E9.size; simp only [List.set] at hB2; have hB1 := hB1.of_heap (K2 _ (by omega)); refine Wo_nil ?_
    refine W_region rfl ?_; refine Wo rfl (opv_move (v := .string _) rfl) ?_; refine Wo rfl (opv_index_str (k := 0) Tryd.underlying9 rfl rfl (by omega)) ?_; refine Wo rfl (opv_sub_u8 rfl rfl (by omega)) ?_
    refine Wo rfl (opv_conv_int Tryd.underlying5 Tryd.underlying3 rfl (by omega)) ?_; refine Wo rfl (opv_fieldAddr Tryd.underlying26 rfl rfl Tryd.sizeOf3 rfl) ?_
    refine Wo_st (v := .int _ _) rfl Tryd.sizeOf3 rfl rfl rfl hB2 (by decide) (by omega) E7 ?_; rintro w6 E10 hB2 K3 hz3; have E11 := E8.wroteAt E7 E10 K3 hz3 (by omega); have szE11 := E11.size
    have E12 := E9.wroteAt E7 E10 K3 hz3 (by omega); have szE12 := E12.size; simp only [List.set] at hB2; have hB1 := hB1.of_heap (K3 _ (by omega)); refine Wo_nil ?_; refine W_seq ?_; refine W_seq ?_; refine W_region rfl ?_
    refine Wo (v := .agg _) rfl (opv_load3 Tryd.isAgg26 Tryd.sizeOf26 rfl hB2) ?_; refine Wo_call rfl (opc1 (a := .agg _) Tryd.call44 rfl) (k2 _ _ _ ((Mono.mono E10 hM))) ?_; rintro _ w7 ⟨rfl, E13⟩; have hs4 := E13.size
    refine Wo rfl (opv_move (v := .string _) rfl) ?_; refine Wo rfl (opv_neq_str rfl rfl) ?_; refine Wo_nil ?_; refine W_cond_ndec rfl (fun h7 => ?_) (fun h7 => ?_); refine W_seq ?_; refine W_region rfl ?_
    refine Wo rfl (opv_build (ps := []) (cs := [_, _, _]) flat26 rfl rfl) ?_
    refine Wo_st3 rfl Tryd.sizeOf26 rfl rfl (by first | rfl | assumption) (by first | rfl | assumption) (by first | rfl | assumption) (hB1.ext E13) (by omega) (E10.trans E13) ?_; rintro w8 E14 hB1 K4 hz4
    have hB2 := (hB2.ext E13).of_heap (K4 _ (by omega)); refine Wo rfl (opv_assign (v := .bool _) rfl) ?_; refine Wo_nil ?_; refine W_ret ?_; rotate_left; refine W_skip ?_; refine W_seq ?_; refine W_region rfl ?_
    refine Wo (v := .agg _) rfl (opv_load3 Tryd.isAgg26 Tryd.sizeOf26 rfl (hB2.ext E13)) ?_
    refine Wo_st3 rfl Tryd.sizeOf26 rfl rfl (by first | rfl | assumption) (by first | rfl | assumption) (by first | rfl | assumption) (hB1.ext E13) (by omega) (E10.trans E13) ?_; rintro w8 E14 hB1 K4 hz4
    have hB2 := (hB2.ext E13).of_heap (K4 _ (by omega)); refine Wo rfl (opv_assign (v := .bool _) rfl) ?_; refine Wo_nil ?_; refine W_ret ?_; rotate_left; refine W_seq ?_; refine W_region rfl ?_
    refine Wo rfl (opv_move (v := .string _) rfl) ?_; refine Wo rfl (opv_eql_str rfl rfl) ?_; refine Wo_split_dec rfl (opv_move (v := .bool _) rfl) (fun h7 => ?_) (fun h7 => ?_); refine Wo rfl (opv_move (v := .bool _) rfl) ?_
    refine Wo rfl (opv_pick_t (v := .bool _) rfl rfl) ?_; refine Wo rfl (opv_assign (v := .bool _) rfl) ?_; refine Wo_nil ?_; refine W_cond rfl (fun h8 => ?_) (fun h8 => ?_); refine W_seq ?_; refine W_region rfl ?_
    refine Wo rfl (opv_fieldAddr Tryd.underlying26 rfl rfl Tryd.sizeOf3 rfl) ?_; refine Wo_st (v := .int _ _) rfl Tryd.sizeOf3 rfl rfl rfl hB2 (by decide) (by omega) E4 ?_; rintro w5 E7 hB2 K2 hz2
    have E8 := E5.wroteAt E4 E7 K2 hz2 (by omega); have szE8 := E8.size; have E9 := E6.wroteAt E4 E7 K2 hz2 (by omega); have szE9 := E9.size; simp only [List.set] at hB2; have hB1 := hB1.of_heap (K2 _ (by omega)); refine Wo_nil ?_
    refine W_region rfl ?_; refine Wo rfl (opv_move (v := .string _) rfl) ?_; refine Wo rfl (opv_fieldAddr Tryd.underlying26 rfl rfl Tryd.sizeOf9 rfl) ?_
    refine Wo_st (v := .string _) rfl Tryd.sizeOf9 rfl rfl rfl hB2 (by decide) (by omega) E7 ?_; rintro w6 E10 hB2 K3 hz3; have E11 := E8.wroteAt E7 E10 K3 hz3 (by omega); have szE11 := E11.size
    have E12 := E9.wroteAt E7 E10 K3 hz3 (by omega); have szE12 := E12.size; simp only [List.set] at hB2; have hB1 := hB1.of_heap (K3 _ (by omega)); refine Wo_nil ?_; refine W_seq ?_; refine W_seq ?_; refine W_region rfl ?_
    refine Wo (v := .agg _) rfl (opv_load3 Tryd.isAgg26 Tryd.sizeOf26 rfl hB2) ?_; refine Wo_call rfl (opc1 (a := .agg _) Tryd.call44 rfl) (k3 _ _ _ ((Mono.mono E10 hM))) ?_; rintro _ w7 ⟨rfl, E13⟩; have hs4 := E13.size
    refine Wo rfl (opv_move (v := .string _) rfl) ?_; refine Wo rfl (opv_neq_str rfl rfl) ?_; refine Wo_nil ?_; refine W_cond_ndec rfl (fun h9 => ?_) (fun h9 => ?_); refine W_seq ?_; refine W_region rfl ?_
    refine Wo rfl (opv_build (ps := []) (cs := [_, _, _]) flat26 rfl rfl) ?_
    refine Wo_st3 rfl Tryd.sizeOf26 rfl rfl (by first | rfl | assumption) (by first | rfl | assumption) (by first | rfl | assumption) (hB1.ext E13) (by omega) (E10.trans E13) ?_; rintro w8 E14 hB1 K4 hz4
    have hB2 := (hB2.ext E13).of_heap (K4 _ (by omega)); refine Wo rfl (opv_assign (v := .bool _) rfl) ?_; refine Wo_nil ?_; refine W_ret ?_; rotate_left; refine W_skip ?_; refine W_seq ?_; refine W_region rfl ?_
    refine Wo (v := .agg _) rfl (opv_load3 Tryd.isAgg26 Tryd.sizeOf26 rfl (hB2.ext E13)) ?_
    refine Wo_st3 rfl Tryd.sizeOf26 rfl rfl (by first | rfl | assumption) (by first | rfl | assumption) (by first | rfl | assumption) (hB1.ext E13) (by omega) (E10.trans E13) ?_; rintro w8 E14 hB1 K4 hz4
    have hB2 := (hB2.ext E13).of_heap (K4 _ (by omega)); refine Wo rfl (opv_assign (v := .bool _) rfl) ?_; refine Wo_nil ?_; refine W_ret ?_; rotate_left; refine W_seq ?_; refine W_region rfl ?_
    refine Wo rfl (opv_move (v := .string _) rfl) ?_; refine Wo rfl (opv_eql_str rfl rfl) ?_; refine Wo_split_dec rfl (opv_move (v := .bool _) rfl) (fun h9 => ?_) (fun h9 => ?_); refine Wo rfl (opv_move (v := .bool _) rfl) ?_
    refine Wo rfl (opv_pick_t (v := .bool _) rfl rfl) ?_; refine Wo rfl (opv_assign (v := .bool _) rfl) ?_; refine Wo_nil ?_; refine W_cond rfl (fun h10 => ?_) (fun h10 => ?_); refine W_seq ?_; refine W_region rfl ?_
    refine Wo rfl (opv_fieldAddr Tryd.underlying26 rfl rfl Tryd.sizeOf3 rfl) ?_; refine Wo_st (v := .int _ _) rfl Tryd.sizeOf3 rfl rfl rfl hB2 (by decide) (by omega) E4 ?_; rintro w5 E7 hB2 K2 hz2
    have E8 := E5.wroteAt E4 E7 K2 hz2 (by omega); have szE8 := E8.size; have E9 := E6.wroteAt E4 E7 K2 hz2 (by omega); have szE9 := E9.size; simp only [List.set] at hB2; have hB1 := hB1.of_heap (K2 _ (by omega)); refine Wo_nil ?_
    refine W_region rfl ?_; refine Wo rfl (opv_move (v := .string _) rfl) ?_; refine Wo rfl (opv_fieldAddr Tryd.underlying26 rfl rfl Tryd.sizeOf9 rfl) ?_
    refine Wo_st (v := .string _) rfl Tryd.sizeOf9 rfl rfl rfl hB2 (by decide) (by omega) E7 ?_; rintro w6 E10 hB2 K3 hz3; have E11 := E8.wroteAt E7 E10 K3 hz3 (by omega); have szE11 := E11.size
    have E12 := E9.wroteAt E7 E10 K3 hz3 (by omega); have szE12 := E12.size; simp only [List.set] at hB2; have hB1 := hB1.of_heap (K3 _ (by omega)); refine Wo_nil ?_; refine W_seq ?_; refine W_seq ?_; refine W_region rfl ?_
    refine Wo (v := .agg _) rfl (opv_load3 Tryd.isAgg26 Tryd.sizeOf26 rfl hB2) ?_; refine Wo_call rfl (opc1 (a := .agg _) Tryd.call44 rfl) (k3 _ _ _ ((Mono.mono E10 hM))) ?_; rintro _ w7 ⟨rfl, E13⟩; have hs4 := E13.size
    refine Wo rfl (opv_move (v := .string _) rfl) ?_; refine Wo rfl (opv_neq_str rfl rfl) ?_; refine Wo_nil ?_; refine W_cond_ndec rfl (fun h11 => ?_) (fun h11 => ?_); refine W_seq ?_; refine W_region rfl ?_
    refine Wo rfl (opv_build (ps := []) (cs := [_, _, _]) flat26 rfl rfl) ?_
    refine Wo_st3 rfl Tryd.sizeOf26 rfl rfl (by first | rfl | assumption) (by first | rfl | assumption) (by first | rfl | assumption) (hB1.ext E13) (by omega) (E10.trans E13) ?_; rintro w8 E14 hB1 K4 hz4
    have hB2 := (hB2.ext E13).of_heap (K4 _ (by omega)); refine Wo rfl (opv_assign (v := .bool _) rfl) ?_; refine Wo_nil ?_; refine W_ret ?_; rotate_left; refine W_skip ?_; refine W_seq ?_; refine W_region rfl ?_
    refine Wo (v := .agg _) rfl (opv_load3 Tryd.isAgg26 Tryd.sizeOf26 rfl (hB2.ext E13)) ?_
    refine Wo_st3 rfl Tryd.sizeOf26 rfl rfl (by first | rfl | assumption) (by first | rfl | assumption) (by first | rfl | assumption) (hB1.ext E13) (by omega) (E10.trans E13) ?_; rintro w8 E14 hB1 K4 hz4
    have hB2 := (hB2.ext E13).of_heap (K4 _ (by omega)); refine Wo rfl (opv_assign (v := .bool _) rfl) ?_; refine Wo_nil ?_; refine W_ret ?_; rotate_left; refine W_seq ?_; refine W_region rfl ?_
    refine Wo rfl (opv_build (ps := []) (cs := [_, _, _]) flat26 rfl rfl) ?_; refine Wo_st3 rfl Tryd.sizeOf26 rfl rfl (by first | rfl | assumption) (by first | rfl | assumption) (by first | rfl | assumption) hB1 (by omega) E4 ?_
    rintro w5 E7 hB1 K2 hz2; have hB2 := hB2.of_heap (K2 _ (by omega)); refine Wo rfl (opv_assign (v := .bool _) rfl) ?_; refine Wo_nil ?_; refine W_ret ?_; rotate_left; refine Wo_skip rfl ?_
    refine Wo rfl (opv_pick_f (v := .bool _) rfl rfl) ?_; refine Wo rfl (opv_assign (v := .bool _) rfl) ?_; refine Wo_nil ?_; refine W_cond_false rfl ?_; refine W_seq ?_; refine W_region rfl ?_
    refine Wo rfl (opv_build (ps := []) (cs := [_, _, _]) flat26 rfl rfl) ?_; refine Wo_st3 rfl Tryd.sizeOf26 rfl rfl (by first | rfl | assumption) (by first | rfl | assumption) (by first | rfl | assumption) hB1 (by omega) E4 ?_
    rintro w5 E7 hB1 K2 hz2; have hB2 := hB2.of_heap (K2 _ (by omega)); refine Wo rfl (opv_assign (v := .bool _) rfl) ?_; refine Wo_nil ?_; refine W_ret ?_; rotate_left; refine Wo_skip rfl ?_
    refine Wo rfl (opv_pick_f (v := .bool _) rfl rfl) ?_; refine Wo rfl (opv_assign (v := .bool _) rfl) ?_; refine Wo_nil ?_; refine W_cond_false rfl ?_; refine W_seq ?_; refine W_region rfl ?_
    refine Wo rfl (opv_move (v := .string _) rfl) ?_; refine Wo rfl (opv_eql_str rfl rfl) ?_; refine Wo_split_dec rfl (opv_move (v := .bool _) rfl) (fun h8 => ?_) (fun h8 => ?_); refine Wo rfl (opv_move (v := .bool _) rfl) ?_
    refine Wo rfl (opv_pick_t (v := .bool _) rfl rfl) ?_; refine Wo rfl (opv_assign (v := .bool _) rfl) ?_; refine Wo_nil ?_; refine W_cond rfl (fun h9 => ?_) (fun h9 => ?_); refine W_seq ?_; refine W_region rfl ?_
    refine Wo rfl (opv_fieldAddr Tryd.underlying26 rfl rfl Tryd.sizeOf3 rfl) ?_; refine Wo_st (v := .int _ _) rfl Tryd.sizeOf3 rfl rfl rfl hB2 (by decide) (by omega) E4 ?_; rintro w5 E7 hB2 K2 hz2
    have E8 := E5.wroteAt E4 E7 K2 hz2 (by omega); have szE8 := E8.size; have E9 := E6.wroteAt E4 E7 K2 hz2 (by omega); have szE9 := E9.size; simp only [List.set] at hB2; have hB1 := hB1.of_heap (K2 _ (by omega)); refine Wo_nil ?_
    refine W_region rfl ?_; refine Wo rfl (opv_move (v := .string _) rfl) ?_; refine Wo rfl (opv_fieldAddr Tryd.underlying26 rfl rfl Tryd.sizeOf9 rfl) ?_
    refine Wo_st (v := .string _) rfl Tryd.sizeOf9 rfl rfl rfl hB2 (by decide) (by omega) E7 ?_; rintro w6 E10 hB2 K3 hz3; have E11 := E8.wroteAt E7 E10 K3 hz3 (by omega); have szE11 := E11.size
    have E12 := E9.wroteAt E7 E10 K3 hz3 (by omega); have szE12 := E12.size; simp only [List.set] at hB2; have hB1 := hB1.of_heap (K3 _ (by omega)); refine Wo_nil ?_; refine W_seq ?_; refine W_seq ?_; refine W_region rfl ?_
    refine Wo (v := .agg _) rfl (opv_load3 Tryd.isAgg26 Tryd.sizeOf26 rfl hB2) ?_; refine Wo_call rfl (opc1 (a := .agg _) Tryd.call44 rfl) (k3 _ _ _ ((Mono.mono E10 hM))) ?_; rintro _ w7 ⟨rfl, E13⟩; have hs4 := E13.size
    refine Wo rfl (opv_move (v := .string _) rfl) ?_; refine Wo rfl (opv_neq_str rfl rfl) ?_; refine Wo_nil ?_; refine W_cond_ndec rfl (fun h10 => ?_) (fun h10 => ?_); refine W_seq ?_; refine W_region rfl ?_
    refine Wo rfl (opv_build (ps := []) (cs := [_, _, _]) flat26 rfl rfl) ?_
    refine Wo_st3 rfl Tryd.sizeOf26 rfl rfl (by first | rfl | assumption) (by first | rfl | assumption) (by first | rfl | assumption) (hB1.ext E13) (by omega) (E10.trans E13) ?_; rintro w8 E14 hB1 K4 hz4
    have hB2 := (hB2.ext E13).of_heap (K4 _ (by omega)); refine Wo rfl (opv_assign (v := .bool _) rfl) ?_; refine Wo_nil ?_; refine W_ret ?_; rotate_left; refine W_skip ?_; refine W_seq ?_; refine W_region rfl ?_
    refine Wo (v := .agg _) rfl (opv_load3 Tryd.isAgg26 Tryd.sizeOf26 rfl (hB2.ext E13)) ?_
    refine Wo_st3 rfl Tryd.sizeOf26 rfl rfl (by first | rfl | assumption) (by first | rfl | assumption) (by first | rfl | assumption) (hB1.ext E13) (by omega) (E10.trans E13) ?_; rintro w8 E14 hB1 K4 hz4
    have hB2 := (hB2.ext E13).of_heap (K4 _ (by omega)); refine Wo rfl (opv_assign (v := .bool _) rfl) ?_; refine Wo_nil ?_; refine W_ret ?_; rotate_left; refine W_seq ?_; refine W_region rfl ?_
    refine Wo rfl (opv_build (ps := []) (cs := [_, _, _]) flat26 rfl rfl) ?_; refine Wo_st3 rfl Tryd.sizeOf26 rfl rfl (by first | rfl | assumption) (by first | rfl | assumption) (by first | rfl | assumption) hB1 (by omega) E4 ?_
    rintro w5 E7 hB1 K2 hz2; have hB2 := hB2.of_heap (K2 _ (by omega)); refine Wo rfl (opv_assign (v := .bool _) rfl) ?_; refine Wo_nil ?_; refine W_ret ?_; rotate_left; refine Wo_skip rfl ?_
    refine Wo rfl (opv_pick_f (v := .bool _) rfl rfl) ?_; refine Wo rfl (opv_assign (v := .bool _) rfl) ?_; refine Wo_nil ?_; refine W_cond_false rfl ?_; refine W_seq ?_; refine W_region rfl ?_
    refine Wo rfl (opv_build (ps := []) (cs := [_, _, _]) flat26 rfl rfl) ?_; refine Wo_st3 rfl Tryd.sizeOf26 rfl rfl (by first | rfl | assumption) (by first | rfl | assumption) (by first | rfl | assumption) hB1 (by omega) E4 ?_
    rintro w5 E7 hB1 K2 hz2; have hB2 := hB2.of_heap (K2 _ (by omega)); refine Wo rfl (opv_assign (v := .bool _) rfl) ?_; refine Wo_nil ?_; refine W_ret ?_; rotate_left; refine Wo_skip rfl ?_; refine Wo_skip rfl ?_
    refine Wo_skip rfl ?_; refine Wo rfl (opv_pick_f (v := .bool _) rfl rfl) ?_; refine Wo rfl (opv_assign (v := .bool _) rfl) ?_; refine Wo_nil ?_; refine W_cond_false rfl ?_; refine W_seq ?_; refine W_region rfl ?_
    refine Wo rfl (opv_move (v := .string _) rfl) ?_; refine Wo rfl (opv_eql_str rfl rfl) ?_; refine Wo_split_dec rfl (opv_move (v := .bool _) rfl) (fun h6 => ?_) (fun h6 => ?_); refine Wo rfl (opv_move (v := .bool _) rfl) ?_
    refine Wo rfl (opv_pick_t (v := .bool _) rfl rfl) ?_; refine Wo rfl (opv_assign (v := .bool _) rfl) ?_; refine Wo_nil ?_; refine W_cond rfl (fun h7 => ?_) (fun h7 => ?_); refine W_seq ?_; refine W_region rfl ?_
    refine Wo rfl (opv_fieldAddr Tryd.underlying26 rfl rfl Tryd.sizeOf3 rfl) ?_; refine Wo_st (v := .int _ _) rfl Tryd.sizeOf3 rfl rfl rfl hB2 (by decide) (by omega) E4 ?_; rintro w5 E7 hB2 K2 hz2
    have E8 := E5.wroteAt E4 E7 K2 hz2 (by omega); have szE8 := E8.size; have E9 := E6.wroteAt E4 E7 K2 hz2 (by omega); have szE9 := E9.size; simp only [List.set] at hB2; have hB1 := hB1.of_heap (K2 _ (by omega)); refine Wo_nil ?_
    refine W_region rfl ?_; refine Wo rfl (opv_move (v := .string _) rfl) ?_; refine Wo rfl (opv_fieldAddr Tryd.underlying26 rfl rfl Tryd.sizeOf9 rfl) ?_
    refine Wo_st (v := .string _) rfl Tryd.sizeOf9 rfl rfl rfl hB2 (by decide) (by omega) E7 ?_; rintro w6 E10 hB2 K3 hz3; have E11 := E8.wroteAt E7 E10 K3 hz3 (by omega); have szE11 := E11.size
    have E12 := E9.wroteAt E7 E10 K3 hz3 (by omega); have szE12 := E12.size; simp only [List.set] at hB2; have hB1 := hB1.of_heap (K3 _ (by omega)); refine Wo_nil ?_; refine W_seq ?_; refine W_seq ?_; refine W_region rfl ?_
    refine Wo (v := .agg _) rfl (opv_load3 Tryd.isAgg26 Tryd.sizeOf26 rfl hB2) ?_; refine Wo_call rfl (opc1 (a := .agg _) Tryd.call44 rfl) (k3 _ _ _ ((Mono.mono E10 hM))) ?_; rintro _ w7 ⟨rfl, E13⟩; have hs4 := E13.size
    refine Wo rfl (opv_move (v := .string _) rfl) ?_; refine Wo rfl (opv_neq_str rfl rfl) ?_; refine Wo_nil ?_; refine W_cond_ndec rfl (fun h8 => ?_) (fun h8 => ?_); refine W_seq ?_; refine W_region rfl ?_
    refine Wo rfl (opv_build (ps := []) (cs := [_, _, _]) flat26 rfl rfl) ?_
    refine Wo_st3 rfl Tryd.sizeOf26 rfl rfl (by first | rfl | assumption) (by first | rfl | assumption) (by first | rfl | assumption) (hB1.ext E13) (by omega) (E10.trans E13) ?_; rintro w8 E14 hB1 K4 hz4
    have hB2 := (hB2.ext E13).of_heap (K4 _ (by omega)); refine Wo rfl (opv_assign (v := .bool _) rfl) ?_; refine Wo_nil ?_; refine W_ret ?_; rotate_left; refine W_skip ?_; refine W_seq ?_; refine W_region rfl ?_
    refine Wo (v := .agg _) rfl (opv_load3 Tryd.isAgg26 Tryd.sizeOf26 rfl (hB2.ext E13)) ?_
    refine Wo_st3 rfl Tryd.sizeOf26 rfl rfl (by first | rfl | assumption) (by first | rfl | assumption) (by first | rfl | assumption) (hB1.ext E13) (by omega) (E10.trans E13) ?_; rintro w8 E14 hB1 K4 hz4
    have hB2 := (hB2.ext E13).of_heap (K4 _ (by omega)); refine Wo rfl (opv_assign (v := .bool _) rfl) ?_; refine Wo_nil ?_; refine W_ret ?_; rotate_left; refine W_seq ?_; refine W_region rfl ?_
    refine Wo rfl (opv_move (v := .string _) rfl) ?_; refine Wo rfl (opv_eql_str rfl rfl) ?_; refine Wo_split_dec rfl (opv_move (v := .bool _) rfl) (fun h8 => ?_) (fun h8 => ?_); refine Wo rfl (opv_move (v := .bool _) rfl) ?_
    refine Wo rfl (opv_pick_t (v := .bool _) rfl rfl) ?_; refine Wo rfl (opv_assign (v := .bool _) rfl) ?_; refine Wo_nil ?_; refine W_cond rfl (fun h9 => ?_) (fun h9 => ?_); refine W_seq ?_; refine W_region rfl ?_
    refine Wo rfl (opv_fieldAddr Tryd.underlying26 rfl rfl Tryd.sizeOf3 rfl) ?_; refine Wo_st (v := .int _ _) rfl Tryd.sizeOf3 rfl rfl rfl hB2 (by decide) (by omega) E4 ?_; rintro w5 E7 hB2 K2 hz2
    have E8 := E5.wroteAt E4 E7 K2 hz2 (by omega); have szE8 := E8.size; have E9 := E6.wroteAt E4 E7 K2 hz2 (by omega); have szE9 := E9.size; simp only [List.set] at hB2; have hB1 := hB1.of_heap (K2 _ (by omega)); refine Wo_nil ?_
    refine W_region rfl ?_; refine Wo rfl (opv_move (v := .string _) rfl) ?_; refine Wo rfl (opv_fieldAddr Tryd.underlying26 rfl rfl Tryd.sizeOf9 rfl) ?_
    refine Wo_st (v := .string _) rfl Tryd.sizeOf9 rfl rfl rfl hB2 (by decide) (by omega) E7 ?_; rintro w6 E10 hB2 K3 hz3; have E11 := E8.wroteAt E7 E10 K3 hz3 (by omega); have szE11 := E11.size
    have E12 := E9.wroteAt E7 E10 K3 hz3 (by omega); have szE12 := E12.size; simp only [List.set] at hB2; have hB1 := hB1.of_heap (K3 _ (by omega)); refine Wo_nil ?_; refine W_seq ?_; refine W_seq ?_; refine W_region rfl ?_
    refine Wo (v := .agg _) rfl (opv_load3 Tryd.isAgg26 Tryd.sizeOf26 rfl hB2) ?_; refine Wo_call rfl (opc1 (a := .agg _) Tryd.call44 rfl) (k3 _ _ _ ((Mono.mono E10 hM))) ?_; rintro _ w7 ⟨rfl, E13⟩; have hs4 := E13.size
    refine Wo rfl (opv_move (v := .string _) rfl) ?_; refine Wo rfl (opv_neq_str rfl rfl) ?_; refine Wo_nil ?_; refine W_cond_ndec rfl (fun h10 => ?_) (fun h10 => ?_); refine W_seq ?_; refine W_region rfl ?_
    refine Wo rfl (opv_build (ps := []) (cs := [_, _, _]) flat26 rfl rfl) ?_
    refine Wo_st3 rfl Tryd.sizeOf26 rfl rfl (by first | rfl | assumption) (by first | rfl | assumption) (by first | rfl | assumption) (hB1.ext E13) (by omega) (E10.trans E13) ?_; rintro w8 E14 hB1 K4 hz4
    have hB2 := (hB2.ext E13).of_heap (K4 _ (by omega)); refine Wo rfl (opv_assign (v := .bool _) rfl) ?_; refine Wo_nil ?_; refine W_ret ?_; rotate_left; refine W_skip ?_; refine W_seq ?_; refine W_region rfl ?_
    refine Wo (v := .agg _) rfl (opv_load3 Tryd.isAgg26 Tryd.sizeOf26 rfl (hB2.ext E13)) ?_
    refine Wo_st3 rfl Tryd.sizeOf26 rfl rfl (by first | rfl | assumption) (by first | rfl | assumption) (by first | rfl | assumption) (hB1.ext E13) (by omega) (E10.trans E13) ?_; rintro w8 E14 hB1 K4 hz4
    have hB2 := (hB2.ext E13).of_heap (K4 _ (by omega)); refine Wo rfl (opv_assign (v := .bool _) rfl) ?_; refine Wo_nil ?_; refine W_ret ?_; rotate_left; refine W_seq ?_; refine W_region rfl ?_
    refine Wo rfl (opv_build (ps := []) (cs := [_, _, _]) flat26 rfl rfl) ?_; refine Wo_st3 rfl Tryd.sizeOf26 rfl rfl (by first | rfl | assumption) (by first | rfl | assumption) (by first | rfl | assumption) hB1 (by omega) E4 ?_
    rintro w5 E7 hB1 K2 hz2; have hB2 := hB2.of_heap (K2 _ (by omega)); refine Wo rfl (opv_assign (v := .bool _) rfl) ?_; refine Wo_nil ?_; refine W_ret ?_; rotate_left; refine Wo_skip rfl ?_
    refine Wo rfl (opv_pick_f (v := .bool _) rfl rfl) ?_; refine Wo rfl (opv_assign (v := .bool _) rfl) ?_; refine Wo_nil ?_; refine W_cond_false rfl ?_; refine W_seq ?_; refine W_region rfl ?_
    refine Wo rfl (opv_build (ps := []) (cs := [_, _, _]) flat26 rfl rfl) ?_; refine Wo_st3 rfl Tryd.sizeOf26 rfl rfl (by first | rfl | assumption) (by first | rfl | assumption) (by first | rfl | assumption) hB1 (by omega) E4 ?_
    rintro w5 E7 hB1 K2 hz2; have hB2 := hB2.of_heap (K2 _ (by omega)); refine Wo rfl (opv_assign (v := .bool _) rfl) ?_; refine Wo_nil ?_; refine W_ret ?_; rotate_left; refine Wo_skip rfl ?_
    refine Wo rfl (opv_pick_f (v := .bool _) rfl rfl) ?_; refine Wo rfl (opv_assign (v := .bool _) rfl) ?_; refine Wo_nil ?_; refine W_cond_false rfl ?_; refine W_seq ?_; refine W_region rfl ?_
    refine Wo rfl (opv_move (v := .string _) rfl) ?_; refine Wo rfl (opv_eql_str rfl rfl) ?_; refine Wo_split_dec rfl (opv_move (v := .bool _) rfl) (fun h7 => ?_) (fun h7 => ?_); refine Wo rfl (opv_move (v := .bool _) rfl) ?_
    refine Wo rfl (opv_pick_t (v := .bool _) rfl rfl) ?_; refine Wo rfl (opv_assign (v := .bool _) rfl) ?_; refine Wo_nil ?_; refine W_cond rfl (fun h8 => ?_) (fun h8 => ?_); refine W_seq ?_; refine W_region rfl ?_
    refine Wo rfl (opv_fieldAddr Tryd.underlying26 rfl rfl Tryd.sizeOf3 rfl) ?_; refine Wo_st (v := .int _ _) rfl Tryd.sizeOf3 rfl rfl rfl hB2 (by decide) (by omega) E4 ?_; rintro w5 E7 hB2 K2 hz2
    have E8 := E5.wroteAt E4 E7 K2 hz2 (by omega); have szE8 := E8.size; have E9 := E6.wroteAt E4 E7 K2 hz2 (by omega); have szE9 := E9.size; simp only [List.set] at hB2; have hB1 := hB1.of_heap (K2 _ (by omega)); refine Wo_nil ?_
    refine W_region rfl ?_; refine Wo rfl (opv_move (v := .string _) rfl) ?_; refine Wo rfl (opv_fieldAddr Tryd.underlying26 rfl rfl Tryd.sizeOf9 rfl) ?_
    refine Wo_st (v := .string _) rfl Tryd.sizeOf9 rfl rfl rfl hB2 (by decide) (by omega) E7 ?_; rintro w6 E10 hB2 K3 hz3; have E11 := E8.wroteAt E7 E10 K3 hz3 (by omega); have szE11 := E11.size
    have E12 := E9.wroteAt E7 E10 K3 hz3 (by omega); have szE12 := E12.size; simp only [List.set] at hB2; have hB1 := hB1.of_heap (K3 _ (by omega)); refine Wo_nil ?_; refine W_seq ?_; refine W_seq ?_; refine W_region rfl ?_
    refine Wo (v := .agg _) rfl (opv_load3 Tryd.isAgg26 Tryd.sizeOf26 rfl hB2) ?_; refine Wo_call rfl (opc1 (a := .agg _) Tryd.call44 rfl) (k3 _ _ _ ((Mono.mono E10 hM))) ?_; rintro _ w7 ⟨rfl, E13⟩; have hs4 := E13.size
    refine Wo rfl (opv_move (v := .string _) rfl) ?_; refine Wo rfl (opv_neq_str rfl rfl) ?_; refine Wo_nil ?_; refine W_cond_ndec rfl (fun h9 => ?_) (fun h9 => ?_); refine W_seq ?_; refine W_region rfl ?_
    refine Wo rfl (opv_build (ps := []) (cs := [_, _, _]) flat26 rfl rfl) ?_
    refine Wo_st3 rfl Tryd.sizeOf26 rfl rfl (by first | rfl | assumption) (by first | rfl | assumption) (by first | rfl | assumption) (hB1.ext E13) (by omega) (E10.trans E13) ?_; rintro w8 E14 hB1 K4 hz4
    have hB2 := (hB2.ext E13).of_heap (K4 _ (by omega)); refine Wo rfl (opv_assign (v := .bool _) rfl) ?_; refine Wo_nil ?_; refine W_ret ?_; rotate_left; refine W_skip ?_; refine W_seq ?_; refine W_region rfl ?_
    refine Wo (v := .agg _) rfl (opv_load3 Tryd.isAgg26 Tryd.sizeOf26 rfl (hB2.ext E13)) ?_
    refine Wo_st3 rfl Tryd.sizeOf26 rfl rfl (by first | rfl | assumption) (by first | rfl | assumption) (by first | rfl | assumption) (hB1.ext E13) (by omega) (E10.trans E13) ?_; rintro w8 E14 hB1 K4 hz4
    have hB2 := (hB2.ext E13).of_heap (K4 _ (by omega)); refine Wo rfl (opv_assign (v := .bool _) rfl) ?_; refine Wo_nil ?_; refine W_ret ?_; rotate_left; refine W_seq ?_; refine W_region rfl ?_
    refine Wo rfl (opv_build (ps := []) (cs := [_, _, _]) flat26 rfl rfl) ?_; refine Wo_st3 rfl Tryd.sizeOf26 rfl rfl (by first | rfl | assumption) (by first | rfl | assumption) (by first | rfl | assumption) hB1 (by omega) E4 ?_
    rintro w5 E7 hB1 K2 hz2; have hB2 := hB2.of_heap (K2 _ (by omega)); refine Wo rfl (opv_assign (v := .bool _) rfl) ?_; refine Wo_nil ?_; refine W_ret ?_; rotate_left; refine Wo_skip rfl ?_
    refine Wo rfl (opv_pick_f (v := .bool _) rfl rfl) ?_; refine Wo rfl (opv_assign (v := .bool _) rfl) ?_; refine Wo_nil ?_; refine W_cond_false rfl ?_; refine W_seq ?_; refine W_region rfl ?_
    refine Wo rfl (opv_build (ps := []) (cs := [_, _, _]) flat26 rfl rfl) ?_; refine Wo_st3 rfl Tryd.sizeOf26 rfl rfl (by first | rfl | assumption) (by first | rfl | assumption) (by first | rfl | assumption) hB1 (by omega) E4 ?_
    rintro w5 E7 hB1 K2 hz2; have hB2 := hB2.of_heap (K2 _ (by omega)); refine Wo rfl (opv_assign (v := .bool _) rfl) ?_; refine Wo_nil ?_; refine W_ret ?_; rotate_left; refine Wo_skip rfl ?_; refine Wo_skip rfl ?_
    refine Wo_skip rfl ?_; refine Wo rfl (opv_pick_f (v := .bool _) rfl rfl) ?_; refine Wo rfl (opv_move (v := .bool _) rfl) ?_; refine Wo_skip rfl ?_; refine Wo_skip rfl ?_; refine Wo_skip rfl ?_
    refine Wo rfl (opv_pick_f (v := .bool _) rfl rfl) ?_; refine Wo rfl (opv_assign (v := .bool _) rfl) ?_; refine Wo_nil ?_; refine W_cond_false rfl ?_; refine W_seq ?_; refine W_region rfl ?_
    refine Wo rfl (opv_move (v := .string _) rfl) ?_; refine Wo rfl (opv_eql_str rfl rfl) ?_; refine Wo_split_dec rfl (opv_move (v := .bool _) rfl) (fun h5 => ?_) (fun h5 => ?_); refine Wo rfl (opv_move (v := .bool _) rfl) ?_
    refine Wo rfl (opv_pick_t (v := .bool _) rfl rfl) ?_; refine Wo rfl (opv_assign (v := .bool _) rfl) ?_; refine Wo_nil ?_; refine W_cond rfl (fun h6 => ?_) (fun h6 => ?_); refine W_seq ?_; refine W_region rfl ?_
    refine Wo rfl (opv_fieldAddr Tryd.underlying26 rfl rfl Tryd.sizeOf3 rfl) ?_; refine Wo_st (v := .int _ _) rfl Tryd.sizeOf3 rfl rfl rfl hB2 (by decide) (by omega) E4 ?_; rintro w5 E7 hB2 K2 hz2
    have E8 := E5.wroteAt E4 E7 K2 hz2 (by omega); have szE8 := E8.size; have E9 := E6.wroteAt E4 E7 K2 hz2 (by omega); have szE9 := E9.size; simp only [List.set] at hB2; have hB1 := hB1.of_heap (K2 _ (by omega)); refine Wo_nil ?_
    refine W_region rfl ?_; refine Wo rfl (opv_move (v := .string _) rfl) ?_; refine Wo rfl (opv_fieldAddr Tryd.underlying26 rfl rfl Tryd.sizeOf9 rfl) ?_
    refine Wo_st (v := .string _) rfl Tryd.sizeOf9 rfl rfl rfl hB2 (by decide) (by omega) E7 ?_; rintro w6 E10 hB2 K3 hz3; have E11 := E8.wroteAt E7 E10 K3 hz3 (by omega); have szE11 := E11.size
    have E12 := E9.wroteAt E7 E10 K3 hz3 (by omega); have szE12 := E12.size; simp only [List.set] at hB2; have hB1 := hB1.of_heap (K3 _ (by omega)); refine Wo_nil ?_; refine W_seq ?_; refine W_seq ?_; refine W_region rfl ?_
    refine Wo (v := .agg _) rfl (opv_load3 Tryd.isAgg26 Tryd.sizeOf26 rfl hB2) ?_; refine Wo_call rfl (opc1 (a := .agg _) Tryd.call44 rfl) (k3 _ _ _ ((Mono.mono E10 hM))) ?_; rintro _ w7 ⟨rfl, E13⟩; have hs4 := E13.size
    refine Wo rfl (opv_move (v := .string _) rfl) ?_; refine Wo rfl (opv_neq_str rfl rfl) ?_; refine Wo_nil ?_; refine W_cond_ndec rfl (fun h7 => ?_) (fun h7 => ?_); refine W_seq ?_; refine W_region rfl ?_
    refine Wo rfl (opv_build (ps := []) (cs := [_, _, _]) flat26 rfl rfl) ?_
    refine Wo_st3 rfl Tryd.sizeOf26 rfl rfl (by first | rfl | assumption) (by first | rfl | assumption) (by first | rfl | assumption) (hB1.ext E13) (by omega) (E10.trans E13) ?_; rintro w8 E14 hB1 K4 hz4
    have hB2 := (hB2.ext E13).of_heap (K4 _ (by omega)); refine Wo rfl (opv_assign (v := .bool _) rfl) ?_; refine Wo_nil ?_; refine W_ret ?_; rotate_left; refine W_skip ?_; refine W_seq ?_; refine W_region rfl ?_
    refine Wo (v := .agg _) rfl (opv_load3 Tryd.isAgg26 Tryd.sizeOf26 rfl (hB2.ext E13)) ?_
    refine Wo_st3 rfl Tryd.sizeOf26 rfl rfl (by first | rfl | assumption) (by first | rfl | assumption) (by first | rfl | assumption) (hB1.ext E13) (by omega) (E10.trans E13) ?_; rintro w8 E14 hB1 K4 hz4
    have hB2 := (hB2.ext E13).of_heap (K4 _ (by omega)); refine Wo rfl (opv_assign (v := .bool _) rfl) ?_; refine Wo_nil ?_; refine W_ret ?_; rotate_left; refine W_seq ?_; refine W_region rfl ?_
    refine Wo rfl (opv_move (v := .string _) rfl) ?_; refine Wo rfl (opv_eql_str rfl rfl) ?_; refine Wo_split_dec rfl (opv_move (v := .bool _) rfl) (fun h7 => ?_) (fun h7 => ?_); refine Wo rfl (opv_move (v := .bool _) rfl) ?_
    refine Wo rfl (opv_pick_t (v := .bool _) rfl rfl) ?_; refine Wo rfl (opv_assign (v := .bool _) rfl) ?_; refine Wo_nil ?_; refine W_cond rfl (fun h8 => ?_) (fun h8 => ?_); refine W_seq ?_; refine W_region rfl ?_
    refine Wo rfl (opv_fieldAddr Tryd.underlying26 rfl rfl Tryd.sizeOf3 rfl) ?_; refine Wo_st (v := .int _ _) rfl Tryd.sizeOf3 rfl rfl rfl hB2 (by decide) (by omega) E4 ?_; rintro w5 E7 hB2 K2 hz2
    have E8 := E5.wroteAt E4 E7 K2 hz2 (by omega); have szE8 := E8.size; have E9 := E6.wroteAt E4 E7 K2 hz2 (by omega); have szE9 := E9.size; simp only [List.set] at hB2; have hB1 := hB1.of_heap (K2 _ (by omega)); refine Wo_nil ?_
    refine W_region rfl ?_; refine Wo rfl (opv_move (v := .string _) rfl) ?_; refine Wo rfl (opv_fieldAddr Tryd.underlying26 rfl rfl Tryd.sizeOf9 rfl) ?_
    refine Wo_st (v := .string _) rfl Tryd.sizeOf9 rfl rfl rfl hB2 (by decide) (by omega) E7 ?_; rintro w6 E10 hB2 K3 hz3; have E11 := E8.wroteAt E7 E10 K3 hz3 (by omega); have szE11 := E11.size
    have E12 := E9.wroteAt E7 E10 K3 hz3 (by omega); have szE12 := E12.size; simp only [List.set] at hB2; have hB1 := hB1.of_heap (K3 _ (by omega)); refine Wo_nil ?_; refine W_seq ?_; refine W_seq ?_; refine W_region rfl ?_
    refine Wo (v := .agg _) rfl (opv_load3 Tryd.isAgg26 Tryd.sizeOf26 rfl hB2) ?_; refine Wo_call rfl (opc1 (a := .agg _) Tryd.call44 rfl) (k3 _ _ _ ((Mono.mono E10 hM))) ?_; rintro _ w7 ⟨rfl, E13⟩; have hs4 := E13.size
    refine Wo rfl (opv_move (v := .string _) rfl) ?_; refine Wo rfl (opv_neq_str rfl rfl) ?_; refine Wo_nil ?_; refine W_cond_ndec rfl (fun h9 => ?_) (fun h9 => ?_); refine W_seq ?_; refine W_region rfl ?_
    refine Wo rfl (opv_build (ps := []) (cs := [_, _, _]) flat26 rfl rfl) ?_
    refine Wo_st3 rfl Tryd.sizeOf26 rfl rfl (by first | rfl | assumption) (by first | rfl | assumption) (by first | rfl | assumption) (hB1.ext E13) (by omega) (E10.trans E13) ?_; rintro w8 E14 hB1 K4 hz4
    have hB2 := (hB2.ext E13).of_heap (K4 _ (by omega)); refine Wo rfl (opv_assign (v := .bool _) rfl) ?_; refine Wo_nil ?_; refine W_ret ?_; rotate_left; refine W_skip ?_; refine W_seq ?_; refine W_region rfl ?_
    refine Wo (v := .agg _) rfl (opv_load3 Tryd.isAgg26 Tryd.sizeOf26 rfl (hB2.ext E13)) ?_
    refine Wo_st3 rfl Tryd.sizeOf26 rfl rfl (by first | rfl | assumption) (by first | rfl | assumption) (by first | rfl | assumption) (hB1.ext E13) (by omega) (E10.trans E13) ?_; rintro w8 E14 hB1 K4 hz4
    have hB2 := (hB2.ext E13).of_heap (K4 _ (by omega)); refine Wo rfl (opv_assign (v := .bool _) rfl) ?_; refine Wo_nil ?_; refine W_ret ?_; rotate_left; refine W_seq ?_; refine W_region rfl ?_
    refine Wo rfl (opv_build (ps := []) (cs := [_, _, _]) flat26 rfl rfl) ?_; refine Wo_st3 rfl Tryd.sizeOf26 rfl rfl (by first | rfl | assumption) (by first | rfl | assumption) (by first | rfl | assumption) hB1 (by omega) E4 ?_
    rintro w5 E7 hB1 K2 hz2; have hB2 := hB2.of_heap (K2 _ (by omega)); refine Wo rfl (opv_assign (v := .bool _) rfl) ?_; refine Wo_nil ?_; refine W_ret ?_; rotate_left; refine Wo_skip rfl ?_
    refine Wo rfl (opv_pick_f (v := .bool _) rfl rfl) ?_; refine Wo rfl (opv_assign (v := .bool _) rfl) ?_; refine Wo_nil ?_; refine W_cond_false rfl ?_; refine W_seq ?_; refine W_region rfl ?_
    refine Wo rfl (opv_build (ps := []) (cs := [_, _, _]) flat26 rfl rfl) ?_; refine Wo_st3 rfl Tryd.sizeOf26 rfl rfl (by first | rfl | assumption) (by first | rfl | assumption) (by first | rfl | assumption) hB1 (by omega) E4 ?_
    rintro w5 E7 hB1 K2 hz2; have hB2 := hB2.of_heap (K2 _ (by omega)); refine Wo rfl (opv_assign (v := .bool _) rfl) ?_; refine Wo_nil ?_; refine W_ret ?_; rotate_left; refine Wo_skip rfl ?_
    refine Wo rfl (opv_pick_f (v := .bool _) rfl rfl) ?_; refine Wo rfl (opv_assign (v := .bool _) rfl) ?_; refine Wo_nil ?_; refine W_cond_false rfl ?_; refine W_seq ?_; refine W_region rfl ?_
    refine Wo rfl (opv_move (v := .string _) rfl) ?_; refine Wo rfl (opv_eql_str rfl rfl) ?_; refine Wo_split_dec rfl (opv_move (v := .bool _) rfl) (fun h6 => ?_) (fun h6 => ?_); refine Wo rfl (opv_move (v := .bool _) rfl) ?_
    refine Wo rfl (opv_pick_t (v := .bool _) rfl rfl) ?_; refine Wo rfl (opv_assign (v := .bool _) rfl) ?_; refine Wo_nil ?_; refine W_cond rfl (fun h7 => ?_) (fun h7 => ?_); refine W_seq ?_; refine W_region rfl ?_
    refine Wo rfl (opv_fieldAddr Tryd.underlying26 rfl rfl Tryd.sizeOf3 rfl) ?_; refine Wo_st (v := .int _ _) rfl Tryd.sizeOf3 rfl rfl rfl hB2 (by decide) (by omega) E4 ?_; rintro w5 E7 hB2 K2 hz2
    have E8 := E5.wroteAt E4 E7 K2 hz2 (by omega); have szE8 := E8.size; have E9 := E6.wroteAt E4 E7 K2 hz2 (by omega); have szE9 := E9.size; simp only [List.set] at hB2; have hB1 := hB1.of_heap (K2 _ (by omega)); refine Wo_nil ?_
    refine W_region rfl ?_; refine Wo rfl (opv_move (v := .string _) rfl) ?_; refine Wo rfl (opv_fieldAddr Tryd.underlying26 rfl rfl Tryd.sizeOf9 rfl) ?_
    refine Wo_st (v := .string _) rfl Tryd.sizeOf9 rfl rfl rfl hB2 (by decide) (by omega) E7 ?_; rintro w6 E10 hB2 K3 hz3; have E11 := E8.wroteAt E7 E10 K3 hz3 (by omega); have szE11 := E11.size
    have E12 := E9.wroteAt E7 E10 K3 hz3 (by omega); have szE12 := E12.size; simp only [List.set] at hB2; have hB1 := hB1.of_heap (K3 _ (by omega)); refine Wo_nil ?_; refine W_seq ?_; refine W_seq ?_; refine W_region rfl ?_
    refine Wo (v := .agg _) rfl (opv_load3 Tryd.isAgg26 Tryd.sizeOf26 rfl hB2) ?_; refine Wo_call rfl (opc1 (a := .agg _) Tryd.call44 rfl) (k3 _ _ _ ((Mono.mono E10 hM))) ?_; rintro _ w7 ⟨rfl, E13⟩; have hs4 := E13.size
    refine Wo rfl (opv_move (v := .string _) rfl) ?_; refine Wo rfl (opv_neq_str rfl rfl) ?_; refine Wo_nil ?_; refine W_cond_ndec rfl (fun h8 => ?_) (fun h8 => ?_); refine W_seq ?_; refine W_region rfl ?_
    refine Wo rfl (opv_build (ps := []) (cs := [_, _, _]) flat26 rfl rfl) ?_
    refine Wo_st3 rfl Tryd.sizeOf26 rfl rfl (by first | rfl | assumption) (by first | rfl | assumption) (by first | rfl | assumption) (hB1.ext E13) (by omega) (E10.trans E13) ?_; rintro w8 E14 hB1 K4 hz4
    have hB2 := (hB2.ext E13).of_heap (K4 _ (by omega)); refine Wo rfl (opv_assign (v := .bool _) rfl) ?_; refine Wo_nil ?_; refine W_ret ?_; rotate_left; refine W_skip ?_; refine W_seq ?_; refine W_region rfl ?_
    refine Wo (v := .agg _) rfl (opv_load3 Tryd.isAgg26 Tryd.sizeOf26 rfl (hB2.ext E13)) ?_
    refine Wo_st3 rfl Tryd.sizeOf26 rfl rfl (by first | rfl | assumption) (by first | rfl | assumption) (by first | rfl | assumption) (hB1.ext E13) (by omega) (E10.trans E13) ?_; rintro w8 E14 hB1 K4 hz4
    have hB2 := (hB2.ext E13).of_heap (K4 _ (by omega)); refine Wo rfl (opv_assign (v := .bool _) rfl) ?_; refine Wo_nil ?_; refine W_ret ?_; rotate_left; refine W_seq ?_; refine W_region rfl ?_
    refine Wo rfl (opv_build (ps := []) (cs := [_, _, _]) flat26 rfl rfl) ?_; refine Wo_st3 rfl Tryd.sizeOf26 rfl rfl (by first | rfl | assumption) (by first | rfl | assumption) (by first | rfl | assumption) hB1 (by omega) E4 ?_
    rintro w5 E7 hB1 K2 hz2; have hB2 := hB2.of_heap (K2 _ (by omega)); refine Wo rfl (opv_assign (v := .bool _) rfl) ?_; refine Wo_nil ?_; refine W_ret ?_; rotate_left; refine Wo_skip rfl ?_
    refine Wo rfl (opv_pick_f (v := .bool _) rfl rfl) ?_; refine Wo rfl (opv_assign (v := .bool _) rfl) ?_; refine Wo_nil ?_; refine W_cond_false rfl ?_; refine W_seq ?_; refine W_region rfl ?_
    refine Wo rfl (opv_build (ps := []) (cs := [_, _, _]) flat26 rfl rfl) ?_; refine Wo_st3 rfl Tryd.sizeOf26 rfl rfl (by first | rfl | assumption) (by first | rfl | assumption) (by first | rfl | assumption) hB1 (by omega) E4 ?_
    rintro w5 E7 hB1 K2 hz2; have hB2 := hB2.of_heap (K2 _ (by omega)); refine Wo rfl (opv_assign (v := .bool _) rfl) ?_; refine Wo_nil ?_; refine W_ret ?_; rotate_left; refine Wo_skip rfl ?_; refine Wo_skip rfl ?_
    refine Wo_skip rfl ?_; refine Wo rfl (opv_pick_f (v := .bool _) rfl rfl) ?_; refine Wo rfl (opv_move (v := .bool _) rfl) ?_; refine Wo_skip rfl ?_; refine Wo_skip rfl ?_; refine Wo_skip rfl ?_
    refine Wo rfl (opv_pick_f (v := .bool _) rfl rfl) ?_; refine Wo rfl (opv_move (v := .bool _) rfl) ?_; refine Wo_skip rfl ?_; refine Wo_skip rfl ?_; refine Wo_skip rfl ?_; refine Wo rfl (opv_pick_f (v := .bool _) rfl rfl) ?_
    refine Wo rfl (opv_assign (v := .bool _) rfl) ?_; refine Wo_nil ?_; refine W_cond_false rfl ?_; refine W_seq ?_; refine W_region rfl ?_; refine Wo rfl (opv_move (v := .string _) rfl) ?_; refine Wo rfl (opv_eql_str rfl rfl) ?_
    refine Wo_split_dec rfl (opv_move (v := .bool _) rfl) (fun h4 => ?_) (fun h4 => ?_); refine Wo rfl (opv_move (v := .bool _) rfl) ?_; refine Wo rfl (opv_pick_t (v := .bool _) rfl rfl) ?_
    refine Wo rfl (opv_assign (v := .bool _) rfl) ?_; refine Wo_nil ?_; refine W_cond rfl (fun h5 => ?_) (fun h5 => ?_); refine W_seq ?_; refine W_region rfl ?_
    refine Wo rfl (opv_fieldAddr Tryd.underlying26 rfl rfl Tryd.sizeOf3 rfl) ?_; refine Wo_st (v := .int _ _) rfl Tryd.sizeOf3 rfl rfl rfl hB2 (by decide) (by omega) E4 ?_; rintro w5 E7 hB2 K2 hz2
    have E8 := E5.wroteAt E4 E7 K2 hz2 (by omega); have szE8 := E8.size; have E9 := E6.wroteAt E4 E7 K2 hz2 (by omega); have szE9 := E9.size; simp only [List.set] at hB2; have hB1 := hB1.of_heap (K2 _ (by omega)); refine Wo_nil ?_
    refine W_region rfl ?_; refine Wo rfl (opv_move (v := .string _) rfl) ?_; refine Wo rfl (opv_fieldAddr Tryd.underlying26 rfl rfl Tryd.sizeOf9 rfl) ?_
    refine Wo_st (v := .string _) rfl Tryd.sizeOf9 rfl rfl rfl hB2 (by decide) (by omega) E7 ?_; rintro w6 E10 hB2 K3 hz3; have E11 := E8.wroteAt E7 E10 K3 hz3 (by omega); have szE11 := E11.size
    have E12 := E9.wroteAt E7 E10 K3 hz3 (by omega); have szE12 := E12.size; simp only [List.set] at hB2; have hB1 := hB1.of_heap (K3 _ (by omega)); refine Wo_nil ?_; refine W_seq ?_; refine W_seq ?_; refine W_region rfl ?_
    refine Wo (v := .agg _) rfl (opv_load3 Tryd.isAgg26 Tryd.sizeOf26 rfl hB2) ?_; refine Wo_call rfl (opc1 (a := .agg _) Tryd.call44 rfl) (k3 _ _ _ ((Mono.mono E10 hM))) ?_; rintro _ w7 ⟨rfl, E13⟩; have hs4 := E13.size
    refine Wo rfl (opv_move (v := .string _) rfl) ?_; refine Wo rfl (opv_neq_str rfl rfl) ?_; refine Wo_nil ?_; refine W_cond_ndec rfl (fun h6 => ?_) (fun h6 => ?_); refine W_seq ?_; refine W_region rfl ?_
    refine Wo rfl (opv_build (ps := []) (cs := [_, _, _]) flat26 rfl rfl) ?_
    refine Wo_st3 rfl Tryd.sizeOf26 rfl rfl (by first | rfl | assumption) (by first | rfl | assumption) (by first | rfl | assumption) (hB1.ext E13) (by omega) (E10.trans E13) ?_; rintro w8 E14 hB1 K4 hz4
    have hB2 := (hB2.ext E13).of_heap (K4 _ (by omega)); refine Wo rfl (opv_assign (v := .bool _) rfl) ?_; refine Wo_nil ?_; refine W_ret ?_; rotate_left; refine W_skip ?_; refine W_seq ?_; refine W_region rfl ?_
    refine Wo (v := .agg _) rfl (opv_load3 Tryd.isAgg26 Tryd.sizeOf26 rfl (hB2.ext E13)) ?_
    refine Wo_st3 rfl Tryd.sizeOf26 rfl rfl (by first | rfl | assumption) (by first | rfl | assumption) (by first | rfl | assumption) (hB1.ext E13) (by omega) (E10.trans E13) ?_; rintro w8 E14 hB1 K4 hz4
    have hB2 := (hB2.ext E13).of_heap (K4 _ (by omega)); refine Wo rfl (opv_assign (v := .bool _) rfl) ?_; refine Wo_nil ?_; refine W_ret ?_; rotate_left; refine W_seq ?_; refine W_region rfl ?_
    refine Wo rfl (opv_move (v := .string _) rfl) ?_; refine Wo rfl (opv_eql_str rfl rfl) ?_; refine Wo_split_dec rfl (opv_move (v := .bool _) rfl) (fun h6 => ?_) (fun h6 => ?_); refine Wo rfl (opv_move (v := .bool _) rfl) ?_
    refine Wo rfl (opv_pick_t (v := .bool _) rfl rfl) ?_; refine Wo rfl (opv_assign (v := .bool _) rfl) ?_; refine Wo_nil ?_; refine W_cond rfl (fun h7 => ?_) (fun h7 => ?_); refine W_seq ?_; refine W_region rfl ?_
    refine Wo rfl (opv_fieldAddr Tryd.underlying26 rfl rfl Tryd.sizeOf3 rfl) ?_; refine Wo_st (v := .int _ _) rfl Tryd.sizeOf3 rfl rfl rfl hB2 (by decide) (by omega) E4 ?_; rintro w5 E7 hB2 K2 hz2
    have E8 := E5.wroteAt E4 E7 K2 hz2 (by omega); have szE8 := E8.size; have E9 := E6.wroteAt E4 E7 K2 hz2 (by omega); have szE9 := E9.size; simp only [List.set] at hB2; have hB1 := hB1.of_heap (K2 _ (by omega)); refine Wo_nil ?_
    refine W_region rfl ?_; refine Wo rfl (opv_move (v := .string _) rfl) ?_; refine Wo rfl (opv_fieldAddr Tryd.underlying26 rfl rfl Tryd.sizeOf9 rfl) ?_
    refine Wo_st (v := .string _) rfl Tryd.sizeOf9 rfl rfl rfl hB2 (by decide) (by omega) E7 ?_; rintro w6 E10 hB2 K3 hz3; have E11 := E8.wroteAt E7 E10 K3 hz3 (by omega); have szE11 := E11.size
    have E12 := E9.wroteAt E7 E10 K3 hz3 (by omega); have szE12 := E12.size; simp only [List.set] at hB2; have hB1 := hB1.of_heap (K3 _ (by omega)); refine Wo_nil ?_; refine W_seq ?_; refine W_seq ?_; refine W_region rfl ?_
    refine Wo (v := .agg _) rfl (opv_load3 Tryd.isAgg26 Tryd.sizeOf26 rfl hB2) ?_; refine Wo_call rfl (opc1 (a := .agg _) Tryd.call44 rfl) (k3 _ _ _ ((Mono.mono E10 hM))) ?_; rintro _ w7 ⟨rfl, E13⟩; have hs4 := E13.size
    refine Wo rfl (opv_move (v := .string _) rfl) ?_; refine Wo rfl (opv_neq_str rfl rfl) ?_; refine Wo_nil ?_; refine W_cond_ndec rfl (fun h8 => ?_) (fun h8 => ?_); refine W_seq ?_; refine W_region rfl ?_
    refine Wo rfl (opv_build (ps := []) (cs := [_, _, _]) flat26 rfl rfl) ?_
    refine Wo_st3 rfl Tryd.sizeOf26 rfl rfl (by first | rfl | assumption) (by first | rfl | assumption) (by first | rfl | assumption) (hB1.ext E13) (by omega) (E10.trans E13) ?_; rintro w8 E14 hB1 K4 hz4
    have hB2 := (hB2.ext E13).of_heap (K4 _ (by omega)); refine Wo rfl (opv_assign (v := .bool _) rfl) ?_; refine Wo_nil ?_; refine W_ret ?_; rotate_left; refine W_skip ?_; refine W_seq ?_; refine W_region rfl ?_
    refine Wo (v := .agg _) rfl (opv_load3 Tryd.isAgg26 Tryd.sizeOf26 rfl (hB2.ext E13)) ?_
    refine Wo_st3 rfl Tryd.sizeOf26 rfl rfl (by first | rfl | assumption) (by first | rfl | assumption) (by first | rfl | assumption) (hB1.ext E13) (by omega) (E10.trans E13) ?_; rintro w8 E14 hB1 K4 hz4
    have hB2 := (hB2.ext E13).of_heap (K4 _ (by omega)); refine Wo rfl (opv_assign (v := .bool _) rfl) ?_; refine Wo_nil ?_; refine W_ret ?_; rotate_left; refine W_seq ?_; refine W_region rfl ?_
    refine Wo rfl (opv_build (ps := []) (cs := [_, _, _]) flat26 rfl rfl) ?_; refine Wo_st3 rfl Tryd.sizeOf26 rfl rfl (by first | rfl | assumption) (by first | rfl | assumption) (by first | rfl | assumption) hB1 (by omega) E4 ?_
    rintro w5 E7 hB1 K2 hz2; have hB2 := hB2.of_heap (K2 _ (by omega)); refine Wo rfl (opv_assign (v := .bool _) rfl) ?_; refine Wo_nil ?_; refine W_ret ?_; rotate_left; refine Wo_skip rfl ?_
    refine Wo rfl (opv_pick_f (v := .bool _) rfl rfl) ?_; refine Wo rfl (opv_assign (v := .bool _) rfl) ?_; refine Wo_nil ?_; refine W_cond_false rfl ?_; refine W_seq ?_; refine W_region rfl ?_
    refine Wo rfl (opv_build (ps := []) (cs := [_, _, _]) flat26 rfl rfl) ?_; refine Wo_st3 rfl Tryd.sizeOf26 rfl rfl (by first | rfl | assumption) (by first | rfl | assumption) (by first | rfl | assumption) hB1 (by omega) E4 ?_
    rintro w5 E7 hB1 K2 hz2; have hB2 := hB2.of_heap (K2 _ (by omega)); refine Wo rfl (opv_assign (v := .bool _) rfl) ?_; refine Wo_nil ?_; refine W_ret ?_; rotate_left; refine Wo_skip rfl ?_
    refine Wo rfl (opv_pick_f (v := .bool _) rfl rfl) ?_; refine Wo rfl (opv_assign (v := .bool _) rfl) ?_; refine Wo_nil ?_; refine W_cond_false rfl ?_; refine W_seq ?_; refine W_region rfl ?_
    refine Wo rfl (opv_move (v := .string _) rfl) ?_; refine Wo rfl (opv_eql_str rfl rfl) ?_; refine Wo_split_dec rfl (opv_move (v := .bool _) rfl) (fun h5 => ?_) (fun h5 => ?_); refine Wo rfl (opv_move (v := .bool _) rfl) ?_
    refine Wo rfl (opv_pick_t (v := .bool _) rfl rfl) ?_; refine Wo rfl (opv_assign (v := .bool _) rfl) ?_; refine Wo_nil ?_; refine W_cond rfl (fun h6 => ?_) (fun h6 => ?_); refine W_seq ?_; refine W_region rfl ?_
    refine Wo rfl (opv_fieldAddr Tryd.underlying26 rfl rfl Tryd.sizeOf3 rfl) ?_; refine Wo_st (v := .int _ _) rfl Tryd.sizeOf3 rfl rfl rfl hB2 (by decide) (by omega) E4 ?_; rintro w5 E7 hB2 K2 hz2
    have E8 := E5.wroteAt E4 E7 K2 hz2 (by omega); have szE8 := E8.size; have E9 := E6.wroteAt E4 E7 K2 hz2 (by omega); have szE9 := E9.size; simp only [List.set] at hB2; have hB1 := hB1.of_heap (K2 _ (by omega)); refine Wo_nil ?_
    refine W_region rfl ?_; refine Wo rfl (opv_move (v := .string _) rfl) ?_; refine Wo rfl (opv_fieldAddr Tryd.underlying26 rfl rfl Tryd.sizeOf9 rfl) ?_
    refine Wo_st (v := .string _) rfl Tryd.sizeOf9 rfl rfl rfl hB2 (by decide) (by omega) E7 ?_; rintro w6 E10 hB2 K3 hz3; have E11 := E8.wroteAt E7 E10 K3 hz3 (by omega); have szE11 := E11.size
    have E12 := E9.wroteAt E7 E10 K3 hz3 (by omega); have szE12 := E12.size; simp only [List.set] at hB2; have hB1 := hB1.of_heap (K3 _ (by omega)); refine Wo_nil ?_; refine W_seq ?_; refine W_seq ?_; refine W_region rfl ?_
    refine Wo (v := .agg _) rfl (opv_load3 Tryd.isAgg26 Tryd.sizeOf26 rfl hB2) ?_; refine Wo_call rfl (opc1 (a := .agg _) Tryd.call44 rfl) (k3 _ _ _ ((Mono.mono E10 hM))) ?_; rintro _ w7 ⟨rfl, E13⟩; have hs4 := E13.size
    refine Wo rfl (opv_move (v := .string _) rfl) ?_; refine Wo rfl (opv_neq_str rfl rfl) ?_; refine Wo_nil ?_; refine W_cond_ndec rfl (fun h7 => ?_) (fun h7 => ?_); refine W_seq ?_; refine W_region rfl ?_
    refine Wo rfl (opv_build (ps := []) (cs := [_, _, _]) flat26 rfl rfl) ?_
    refine Wo_st3 rfl Tryd.sizeOf26 rfl rfl (by first | rfl | assumption) (by first | rfl | assumption) (by first | rfl | assumption) (hB1.ext E13) (by omega) (E10.trans E13) ?_; rintro w8 E14 hB1 K4 hz4
    have hB2 := (hB2.ext E13).of_heap (K4 _ (by omega)); refine Wo rfl (opv_assign (v := .bool _) rfl) ?_; refine Wo_nil ?_; refine W_ret ?_; rotate_left; refine W_skip ?_; refine W_seq ?_; refine W_region rfl ?_
    refine Wo (v := .agg _) rfl (opv_load3 Tryd.isAgg26 Tryd.sizeOf26 rfl (hB2.ext E13)) ?_
    refine Wo_st3 rfl Tryd.sizeOf26 rfl rfl (by first | rfl | assumption) (by first | rfl | assumption) (by first | rfl | assumption) (hB1.ext E13) (by omega) (E10.trans E13) ?_; rintro w8 E14 hB1 K4 hz4
    have hB2 := (hB2.ext E13).of_heap (K4 _ (by omega)); refine Wo rfl (opv_assign (v := .bool _) rfl) ?_; refine Wo_nil ?_; refine W_ret ?_; rotate_left; refine W_seq ?_; refine W_region rfl ?_
    refine Wo rfl (opv_build (ps := []) (cs := [_, _, _]) flat26 rfl rfl) ?_; refine Wo_st3 rfl Tryd.sizeOf26 rfl rfl (by first | rfl | assumption) (by first | rfl | assumption) (by first | rfl | assumption) hB1 (by omega) E4 ?_
    rintro w5 E7 hB1 K2 hz2; have hB2 := hB2.of_heap (K2 _ (by omega)); refine Wo rfl (opv_assign (v := .bool _) rfl) ?_; refine Wo_nil ?_; refine W_ret ?_; rotate_left; refine Wo_skip rfl ?_
    refine Wo rfl (opv_pick_f (v := .bool _) rfl rfl) ?_; refine Wo rfl (opv_assign (v := .bool _) rfl) ?_; refine Wo_nil ?_; refine W_cond_false rfl ?_; refine W_seq ?_; refine W_region rfl ?_
    refine Wo rfl (opv_build (ps := []) (cs := [_, _, _]) flat26 rfl rfl) ?_; refine Wo_st3 rfl Tryd.sizeOf26 rfl rfl (by first | rfl | assumption) (by first | rfl | assumption) (by first | rfl | assumption) hB1 (by omega) E4 ?_
    rintro w5 E7 hB1 K2 hz2; have hB2 := hB2.of_heap (K2 _ (by omega)); refine Wo rfl (opv_assign (v := .bool _) rfl) ?_; refine Wo_nil ?_; refine W_ret ?_; rotate_left
  all_goals refine ⟨_, _, _, _, rfl, by assumption, ?_, by assumption⟩
  all_goals first
    | refine leaf_none ?_ rfl
    | refine leaf_some ?_ rfl
  all_goals clear hc hO k1 k2 k3 hW hR hH hRl hr8
  all_goals rw [hr]
  all_goals try (simp_all; done)
  all_goals (clear hr; simp_all)
  all_goals (rw [if_neg (by omega)])

end Go.Proofs.YtgphoihilheoeaaDoor
namespace Go.Proofs.YtgphoihilheoeaaDoor
open Go.Hs
set_option maxRecDepth 10000
set_option maxHeartbeats 4000000
set_option linter.unusedVariables false
set_option linter.unusedSimpArgs false

end Go.Proofs.YtgphoihilheoeaaDoor
namespace Go.Proofs.YtgphoihilheoeaaDoor
open Go.Hs
set_option maxRecDepth 10000
set_option maxHeartbeats 4000000
set_option linter.unusedVariables false
set_option linter.unusedSimpArgs false

end Go.Proofs.YtgphoihilheoeaaDoor
namespace Go.Proofs.YtgphoihilheoeaaDoor
open Go.Hs
set_option maxRecDepth 10000
set_option maxHeartbeats 4000000
set_option linter.unusedVariables false
set_option linter.unusedSimpArgs false

end Go.Proofs.YtgphoihilheoeaaDoor
namespace Go.Proofs.YtgphoihilheoeaaDoor
open Go.Hs
set_option maxRecDepth 10000
set_option maxHeartbeats 4000000
set_option linter.unusedVariables false
set_option linter.unusedSimpArgs false

theorem rj_stop {s : List UInt8} {f : Nat} {L : List Deed} (h : rjV s = (L ++ (rjV (s.drop f)).1, f + (rjV (s.drop f)).2)) (h2 : (rjV (s.drop f)) = ([], 0)) : L = (rjV s).1 ∧ ((f : Nat) : Int) = ((rjV s).2 : Nat) := by
  rw [h2] at h
  rw [h]; simp
theorem rj_next {s x r : List UInt8} {f : Nat} {L : List Deed} {a : Deed} (h : rjV s = (L ++ (rjV (s.drop f)).1, f + (rjV (s.drop f)).2)) (h2 : s.drop f = x ++ 10 :: r) (hx : (10 : UInt8) ∉ x) (hr : rdD x = some a) :
    rjV s = ((L ++ [a]) ++ (rjV (s.drop (f + x.length + 1))).1, (f + x.length + 1) + (rjV (s.drop (f + x.length + 1))).2) := by
  have e : s.drop (f + x.length + 1) = r := by
    rw [show f + x.length + 1 = f + (x.length + 1) by omega, ← List.drop_drop, h2, show x ++ 10 :: r = (x ++ [10]) ++ r by simp, List.drop_append_of_le_length (by simp)]
    simp
  rw [h2, rjV_line hx, hr] at h
  simp only at h
  rw [e, h, List.append_assoc]
  refine Prod.ext rfl ?_
  simp only; omega
theorem rj_none {x r : List UInt8} (hx : (10 : UInt8) ∉ x) (hr : rdD x = none) : rjV (x ++ 10 :: r) = ([], 0) := by rw [rjV_line hx, hr]
theorem rdD_text {s : List UInt8} {a : Deed} (h : rdD s = some a) {n : Nat} (hs : s.length ≤ n) : a.text.length ≤ n := by
  have h1 := (rdD_some h).1
  have ht := rdD_told h
  cases ht with
  | single => simp
  | back => simp
  | into d hd => simp
  | add p hp => rw [dtV_add hp] at h1; rw [← h1] at hs; simp at hs ⊢; omega
  | drop p hp => rw [dtV_drop hp] at h1; rw [← h1] at hs; simp at hs ⊢; omega
theorem impl_ReadJournal_ok (w : World) (s : List UInt8) (hM : EMx gMx w (.bool true) ()) (hs : s.length ≤ 1048576) :
    Does Tryd.prog 24 [str s] w (RetODZ w 26 (rjV s).1 (rjV s).2) := by
  have kd : ∀ (w : World) (x : List UInt8), EMx gMx w (.bool true) () → x.length ≤ 1048576 → Does Tryd.prog 47 [str x] w (Ret w (.tuple #[dv ((rdD x).getD ⟨0, [], 0⟩), .bool (rdD x).isSome])) := fun w x hM hx => impl_readDeed_ok w x hM hx
  refine fn_of_W2 Tryd.func24 rfl Tryd.results24 Tryd.ntmps24 rfl ?_
  focus
    refine W_seq ?_; refine W_region rfl ?_; refine Wo rfl (opv_assign (v := .slice _ _ _) rfl) ?_; refine Wo rfl (opv_assign (v := .int _ _) rfl) ?_; refine Wo_nil ?_; refine W_seq ?_; refine W_region rfl ?_
    refine Wo_buildD0  rfl elD36   ?_; rintro b1 w1 hb1 E1 hO1; have hs1 := E1.size; refine Wo rfl (opv_assign (v := .slice _ _ _) rfl) ?_; refine Wo_nil ?_; refine W_seq ?_; refine W_region rfl ?_
    refine Wo rfl (opv_assign (v := .int _ _) rfl) ?_; refine Wo_nil ?_; refine W_block ?_
  refine W_loop [2, 3, 4, 5, 6, 7, 8, 9, 10, 12, 13, 14, 15, 16, 17, 18, 19, 20, 21, 22, 23, 24, 25, 26, 27, 28, 29, 30, 31, 32, 33, 34, 35, 36, 37, 38, 39, 40, 41] (fun ((f, L, v) : Nat × List Deed × Value) => [(5, .int .i64 (f : Nat)), (4, v)]) (fun (f, L, v) w' => Ext w w' ∧ f ≤ s.length ∧ L.length ≤ f ∧ OD 26 w.heap.size w' v L ∧ rjV s = (L ++ (rjV (s.drop f)).1, f + (rjV (s.drop f)).2)) (fun x => s.length - x.1) (0, [], _) (by repeat (first | exact trivial | refine And.intro rfl ?_)) ?_ ?_
  · exact ⟨by assumption, Nat.zero_le _, by simp, hO1, by simp⟩
  clear hO1
  rintro ⟨f, L, v⟩ ρj w2 ⟨E2, hf, hLf, hO1, hrj⟩
  have hdl : (s.drop f).length ≤ 1048576 := by simp; omega
  rcases line_ind (s.drop f) with h10 | ⟨x, r, hd, h10⟩
  · have kc : ∀ (w : World), EMx gMx w (.bool true) () → Does Tryd.prog 48 [str (s.drop f), str [10]] w (Ret w (.tuple #[str (s.drop f), str [], .bool false])) := fun w hM => by
      have := Cut_ok w (s.drop f) 10 hM hdl
      rw [cutF_no h10] at this; exact this
    have kx : ∀ (w : World), EMx gMx w (.bool true) () → Does Tryd.prog 47 [str (s.drop f)] w (Ret w (.tuple #[dv ((rdD (s.drop f)).getD ⟨0, [], 0⟩), .bool (rdD (s.drop f)).isSome])) := fun w hM => kd w _ hM hdl
    clear kd
    focus
      have szE2 := E2.size; have szE1 := E1.size; refine W_block ?_; refine W_seq ?_; refine W_region rfl ?_; refine Wo rfl (opv_move (v := .string _) rfl) ?_; refine Wo rfl (opv_move (v := .int _ _) rfl) ?_
      refine Wo rfl (opv_slice_str_lo Tryd.underlying9 rfl rfl (by omega)) ?_; refine Wo_call rfl (opc2 (a := .string _) (b := .string _) Tryd.call48 rfl rfl) (kc _ ((Mono.mono E2 hM))) ?_; rintro _ w3 ⟨rfl, E3⟩; have hs2 := E3.size
      refine Wo rfl (opv_move (v := .tuple _) rfl) ?_; refine Wo rfl (opv_extract (v := .string _) rfl rfl) ?_; refine Wo rfl (opv_extract (v := .string _) rfl rfl) ?_; refine Wo rfl (opv_extract (v := .bool _) rfl rfl) ?_
      refine Wo rfl (opv_assign (v := .string _) rfl) ?_; refine Wo rfl (opv_assign (v := .string _) rfl) ?_; refine Wo rfl (opv_assign (v := .bool _) rfl) ?_; refine Wo_nil ?_; refine W_seq ?_; refine W_region rfl ?_
      refine Wo rfl (opv_move (v := .string _) rfl) ?_; refine Wo_call rfl (opc1 (a := .string _) Tryd.call47 rfl) (kx _ ((Mono.mono (E2.trans E3) hM))) ?_; rintro _ w4 ⟨rfl, E4⟩; have hs3 := E4.size
      refine Wo rfl (opv_move (v := .tuple _) rfl) ?_; refine Wo rfl (opv_extract (v := .agg _) rfl rfl) ?_; refine Wo rfl (opv_extract (v := .bool _) rfl rfl) ?_; refine Wo_allocN rfl flat26 ?_; rintro b2 w5 hb2 E5 hB1
      have hlb2 := hB1.lt; have hs4 := E5.size; refine Wo_st3 rfl Tryd.sizeOf26 rfl rfl (by first | rfl | assumption) (by first | rfl | assumption) (by first | rfl | assumption) hB1 (by omega) (((E2.trans E3).trans E4).trans E5) ?_
      rintro w6 E6 hB1 K1 hz1; have E7 := ((E3.trans E4).trans E5).wroteAt (((E2.trans E3).trans E4).trans E5) E6 K1 hz1 (by omega); have szE7 := E7.size
      have E8 := (E4.trans E5).wroteAt (((E2.trans E3).trans E4).trans E5) E6 K1 hz1 (by omega); have szE8 := E8.size; have E9 := E5.wroteAt (((E2.trans E3).trans E4).trans E5) E6 K1 hz1 (by omega); have szE9 := E9.size
      refine Wo rfl (opv_assign (v := .bool _) rfl) ?_; refine Wo_nil ?_; refine W_seq ?_; refine W_seq ?_; refine W_region rfl ?_; refine Wo rfl (opv_move (v := .bool _) rfl) ?_; refine Wo rfl (opv_not rfl) ?_
      refine Wo_split rfl (opv_move (v := .bool _) rfl) (fun h1 => ?_) (fun h1 => ?_); refine Wo_skip rfl ?_; refine Wo_skip rfl ?_; refine Wo rfl (opv_pick_t (v := .bool _) rfl rfl) ?_; refine Wo_nil ?_; refine W_cond_true rfl ?_
      refine W_seq ?_; refine W_region rfl ?_; refine Wo rfl (opv_move (v := v) rfl) ?_; refine Wo rfl (opv_move (v := .int _ _) rfl) ?_; refine Wo rfl (opv_assign (v := v) rfl) ?_; refine Wo rfl (opv_assign (v := .int _ _) rfl) ?_
      refine Wo_nil ?_; refine W_ret ?_; refine at_ret (v := .tuple #[v, .int _ _]) rfl ?_; rotate_left; contradiction
    obtain ⟨e1, e2⟩ := rj_stop hrj (rjV_one h10)
    refine ⟨v, by rw [e2], E2.trans (by first | assumption | exact Ext.trans (by assumption) (by assumption) | exact Ext.trans (by assumption) (Ext.trans (by assumption) (by assumption))), ?_⟩
    rw [← e1]; exact hO1.ext (by first | assumption | exact Ext.trans (by assumption) (by assumption) | exact Ext.trans (by assumption) (Ext.trans (by assumption) (by assumption)))
  · have hxl : f + x.length + 1 ≤ s.length := by
      have := congrArg List.length hd
      simp at this; omega
    have kc : ∀ (w : World), EMx gMx w (.bool true) () → Does Tryd.prog 48 [str (s.drop f), str [10]] w (Ret w (.tuple #[str x, str r, .bool true])) := fun w hM => by
      have := Cut_ok w (s.drop f) 10 hM hdl
      rw [hd, cutF_at h10] at this
      rw [hd]; exact this
    have kx : ∀ (w : World), EMx gMx w (.bool true) () → Does Tryd.prog 47 [str x] w (Ret w (.tuple #[dv ((rdD x).getD ⟨0, [], 0⟩), .bool (rdD x).isSome])) := fun w hM => kd w _ hM (by omega)
    clear kd
    cases hr : rdD x with
    | none =>
      rw [hr] at kx
      focus
        have szE2 := E2.size; have szE1 := E1.size; refine W_block ?_; refine W_seq ?_; refine W_region rfl ?_; refine Wo rfl (opv_move (v := .string _) rfl) ?_; refine Wo rfl (opv_move (v := .int _ _) rfl) ?_
        refine Wo rfl (opv_slice_str_lo Tryd.underlying9 rfl rfl (by omega)) ?_; refine Wo_call rfl (opc2 (a := .string _) (b := .string _) Tryd.call48 rfl rfl) (kc _ ((Mono.mono E2 hM))) ?_; rintro _ w3 ⟨rfl, E3⟩; have hs2 := E3.size
        refine Wo rfl (opv_move (v := .tuple _) rfl) ?_; refine Wo rfl (opv_extract (v := .string _) rfl rfl) ?_; refine Wo rfl (opv_extract (v := .string _) rfl rfl) ?_; refine Wo rfl (opv_extract (v := .bool _) rfl rfl) ?_
        refine Wo rfl (opv_assign (v := .string _) rfl) ?_; refine Wo rfl (opv_assign (v := .string _) rfl) ?_; refine Wo rfl (opv_assign (v := .bool _) rfl) ?_; refine Wo_nil ?_; refine W_seq ?_; refine W_region rfl ?_
        refine Wo rfl (opv_move (v := .string _) rfl) ?_; refine Wo_call rfl (opc1 (a := .string _) Tryd.call47 rfl) (kx _ ((Mono.mono (E2.trans E3) hM))) ?_; rintro _ w4 ⟨rfl, E4⟩; have hs3 := E4.size
        refine Wo rfl (opv_move (v := .tuple _) rfl) ?_; refine Wo rfl (opv_extract (v := .agg _) rfl rfl) ?_; refine Wo rfl (opv_extract (v := .bool _) rfl rfl) ?_; refine Wo_allocN rfl flat26 ?_; rintro b2 w5 hb2 E5 hB1
        have hlb2 := hB1.lt; have hs4 := E5.size; refine Wo_st3 rfl Tryd.sizeOf26 rfl rfl (by first | rfl | assumption) (by first | rfl | assumption) (by first | rfl | assumption) hB1 (by omega) (((E2.trans E3).trans E4).trans E5) ?_
        rintro w6 E6 hB1 K1 hz1; have E7 := ((E3.trans E4).trans E5).wroteAt (((E2.trans E3).trans E4).trans E5) E6 K1 hz1 (by omega); have szE7 := E7.size
        have E8 := (E4.trans E5).wroteAt (((E2.trans E3).trans E4).trans E5) E6 K1 hz1 (by omega); have szE8 := E8.size; have E9 := E5.wroteAt (((E2.trans E3).trans E4).trans E5) E6 K1 hz1 (by omega); have szE9 := E9.size
        refine Wo rfl (opv_assign (v := .bool _) rfl) ?_; refine Wo_nil ?_; refine W_seq ?_; refine W_seq ?_; refine W_region rfl ?_; refine Wo rfl (opv_move (v := .bool _) rfl) ?_; refine Wo rfl (opv_not rfl) ?_
        refine Wo_split rfl (opv_move (v := .bool _) rfl) (fun h1 => ?_) (fun h1 => ?_); contradiction; refine Wo rfl (opv_move (v := .bool _) rfl) ?_; refine Wo rfl (opv_not rfl) ?_; refine Wo rfl (opv_pick_f (v := .bool _) rfl rfl) ?_
        refine Wo_nil ?_; refine W_cond rfl (fun h2 => ?_) (fun h2 => ?_); refine W_seq ?_; refine W_region rfl ?_; refine Wo rfl (opv_move (v := v) rfl) ?_; refine Wo rfl (opv_move (v := .int _ _) rfl) ?_
        refine Wo rfl (opv_assign (v := v) rfl) ?_; refine Wo rfl (opv_assign (v := .int _ _) rfl) ?_; refine Wo_nil ?_; refine W_ret ?_; refine at_ret (v := .tuple #[v, .int _ _]) rfl ?_; rotate_left; contradiction
      obtain ⟨e1, e2⟩ := rj_stop hrj (by rw [hd]; exact rj_none h10 hr)
      refine ⟨v, by rw [e2], E2.trans (by first | assumption | exact Ext.trans (by assumption) (by assumption) | exact Ext.trans (by assumption) (Ext.trans (by assumption) (by assumption))), ?_⟩
      rw [← e1]; exact hO1.ext (by first | assumption | exact Ext.trans (by assumption) (by assumption) | exact Ext.trans (by assumption) (Ext.trans (by assumption) (by assumption)))
    | some a =>
      rw [hr] at kx
      have hat : a.text.length ≤ 9223372036854775807 := rdD_text hr (by omega)
      focus
        have szE2 := E2.size; have szE1 := E1.size; refine W_block ?_; refine W_seq ?_; refine W_region rfl ?_; refine Wo rfl (opv_move (v := .string _) rfl) ?_; refine Wo rfl (opv_move (v := .int _ _) rfl) ?_
        refine Wo rfl (opv_slice_str_lo Tryd.underlying9 rfl rfl (by omega)) ?_; refine Wo_call rfl (opc2 (a := .string _) (b := .string _) Tryd.call48 rfl rfl) (kc _ ((Mono.mono E2 hM))) ?_; rintro _ w3 ⟨rfl, E3⟩; have hs2 := E3.size
        refine Wo rfl (opv_move (v := .tuple _) rfl) ?_; refine Wo rfl (opv_extract (v := .string _) rfl rfl) ?_; refine Wo rfl (opv_extract (v := .string _) rfl rfl) ?_; refine Wo rfl (opv_extract (v := .bool _) rfl rfl) ?_
        refine Wo rfl (opv_assign (v := .string _) rfl) ?_; refine Wo rfl (opv_assign (v := .string _) rfl) ?_; refine Wo rfl (opv_assign (v := .bool _) rfl) ?_; refine Wo_nil ?_; refine W_seq ?_; refine W_region rfl ?_
        refine Wo rfl (opv_move (v := .string _) rfl) ?_; refine Wo_call rfl (opc1 (a := .string _) Tryd.call47 rfl) (kx _ ((Mono.mono (E2.trans E3) hM))) ?_; rintro _ w4 ⟨rfl, E4⟩; have hs3 := E4.size
        refine Wo rfl (opv_move (v := .tuple _) rfl) ?_; refine Wo rfl (opv_extract (v := .agg _) rfl rfl) ?_; refine Wo rfl (opv_extract (v := .bool _) rfl rfl) ?_; refine Wo_allocN rfl flat26 ?_; rintro b2 w5 hb2 E5 hB1
        have hlb2 := hB1.lt; have hs4 := E5.size; refine Wo_st3 rfl Tryd.sizeOf26 rfl rfl (by first | rfl | assumption) (by first | rfl | assumption) (by first | rfl | assumption) hB1 (by omega) (((E2.trans E3).trans E4).trans E5) ?_
        rintro w6 E6 hB1 K1 hz1; have E7 := ((E3.trans E4).trans E5).wroteAt (((E2.trans E3).trans E4).trans E5) E6 K1 hz1 (by omega); have szE7 := E7.size
        have E8 := (E4.trans E5).wroteAt (((E2.trans E3).trans E4).trans E5) E6 K1 hz1 (by omega); have szE8 := E8.size; have E9 := E5.wroteAt (((E2.trans E3).trans E4).trans E5) E6 K1 hz1 (by omega); have szE9 := E9.size
        refine Wo rfl (opv_assign (v := .bool _) rfl) ?_; refine Wo_nil ?_; refine W_seq ?_; refine W_seq ?_; refine W_region rfl ?_; refine Wo rfl (opv_move (v := .bool _) rfl) ?_; refine Wo rfl (opv_not rfl) ?_
        refine Wo_split rfl (opv_move (v := .bool _) rfl) (fun h1 => ?_) (fun h1 => ?_); contradiction; refine Wo rfl (opv_move (v := .bool _) rfl) ?_; refine Wo rfl (opv_not rfl) ?_; refine Wo rfl (opv_pick_f (v := .bool _) rfl rfl) ?_
        refine Wo_nil ?_; refine W_cond rfl (fun h2 => ?_) (fun h2 => ?_); contradiction; refine W_skip ?_; refine W_seq ?_; refine W_region rfl ?_; refine Wo rfl (opv_move (v := v) rfl) ?_
        refine Wo (v := .agg _) rfl (opv_load3 Tryd.isAgg26 Tryd.sizeOf26 rfl hB1) ?_; refine Wo_buildD1 (a1 := ⟨_, _, _⟩) rfl elD36 rfl (by first | assumption | omega | (simp <;> omega)) ?_; rintro b3 w7 hb3 E10 hO2; have hs5 := E10.size
        refine Wo_appD rfl elD36 rfl rfl (hO1.ext (E7.trans E10)) hO2 (by first | omega | (simp <;> omega)) (by omega) (E6.trans E10) (by omega) ?_; rintro v1 w8 hO3 E11 G1; refine Wo rfl (opv_assign (v := v1) rfl) ?_; refine Wo_nil ?_
        refine W_region rfl ?_; refine Wo rfl (opv_move (v := .int _ _) rfl) ?_; refine Wo rfl (opv_move (v := .string _) rfl) ?_; refine Wo rfl (opv_len_str Tryd.underlying9 rfl) ?_; refine Wo rfl (opv_add rfl rfl (by omega)) ?_
        refine Wo rfl (opv_add rfl rfl (by omega)) ?_; refine Wo rfl (opv_assign (v := .int _ _) rfl) ?_; refine Wo_nil ?_
      refine ⟨((f + x.length + 1, L ++ [a], v1)), by repeat (first | exact trivial | refine And.intro rfl ?_), by repeat (first | with_reducible exact Same.refl | refine Same.upd rfl ?_ | refine Same.upds rfl ?_ | refine Same.mix rfl ?_), ?_, ?_⟩
      · exact ⟨by assumption, by omega, by simp; omega, by assumption, rj_next hrj hd h10 hr⟩
      · simp only; omega

end Go.Proofs.YtgphoihilheoeaaDoor
namespace Go.Proofs.YtgphoihilheoeaaDoor
open Go.Hs
set_option maxRecDepth 10000
set_option maxHeartbeats 4000000
set_option linter.unusedVariables false
set_option linter.unusedSimpArgs false
end Go.Proofs.YtgphoihilheoeaaDoor
namespace Go.Proofs.YtgphoihilheoeaaDoor
open Go.Hs
set_option maxRecDepth 10000
set_option maxHeartbeats 4000000
set_option linter.unusedVariables false
set_option linter.unusedSimpArgs false

theorem isCode_ok (n : Int) (w : World) : Does Tryd.prog 79 [.int .i64 n] w (Ret w (.bool (decide (0 ≤ n ∧ n ≤ 65535)))) := by
  refine fn_of_W1 Tryd.func79 rfl Tryd.results79 Tryd.ntmps79 rfl ?_
  focus
    refine W_seq ?_; refine W_region rfl ?_; refine Wo rfl (opv_assign (v := .bool _) rfl) ?_; refine Wo_nil ?_; refine W_seq ?_; refine W_region rfl ?_; refine Wo rfl (opv_move (v := .int _ _) rfl) ?_
    refine Wo rfl (opv_geq rfl rfl) ?_; refine Wo_split_dec rfl (opv_move (v := .bool _) rfl) (fun h1 => ?_) (fun h1 => ?_); refine Wo rfl (opv_move (v := .int _ _) rfl) ?_; refine Wo rfl (opv_leq rfl rfl) ?_
    refine Wo rfl (opv_pick_t (v := .bool _) rfl rfl) ?_; refine Wo rfl (opv_assign (v := .bool _) rfl) ?_; refine Wo_nil ?_; refine W_ret ?_; refine at_ret (v := .bool _) rfl ?_; refine ⟨congrArg Value.bool ?_, (Ext.refl _)⟩
    rotate_left; refine Wo_skip rfl ?_; refine Wo_skip rfl ?_; refine Wo rfl (opv_pick_f (v := .bool _) rfl rfl) ?_; refine Wo rfl (opv_assign (v := .bool _) rfl) ?_; refine Wo_nil ?_; refine W_ret ?_
    refine at_ret (v := .bool _) rfl ?_; refine ⟨congrArg Value.bool ?_, (Ext.refl _)⟩; rotate_left
  · exact decide_eq_decide.2 (by omega)
  · exact (decide_eq_false (by omega)).symm

def hasC (n m : Int) : Bool := decide (0 ≤ n ∧ n ≤ 65535 ∧ 0 ≤ m ∧ m ≤ 15) && n.toNat.testBit m.toNat
theorem and_one (x : Nat) (k : Nat) : (((x >>> k) &&& 1 : Nat) : Int) = 1 ↔ x.testBit k = true := by
  rw [Nat.testBit_eq_decide_div_mod_eq, Nat.and_one_is_mod, Nat.shiftRight_eq_div_pow, decide_eq_true_iff]
  generalize x / 2 ^ k = q
  omega
theorem Has_ok (n m : Int) (w : World) : Does Tryd.prog 53 [.int .i64 n, .int .i64 m] w (Ret w (.bool (hasC n m))) := by
  refine fn_of_W1 Tryd.func53 rfl Tryd.results53 Tryd.ntmps53 rfl ?_
  focus
    refine W_seq ?_; refine W_region rfl ?_; refine Wo rfl (opv_assign (v := .bool _) rfl) ?_; refine Wo_nil ?_; refine W_seq ?_; refine W_region rfl ?_; refine Wo rfl (opv_move (v := .int _ _) rfl) ?_
    refine Wo_call rfl (opc1 (a := .int _ _) Tryd.call79 rfl) (isCode_ok _ _) ?_; rintro _ w1 ⟨rfl, E1⟩; have hs1 := E1.size; refine Wo_split_dec rfl (opv_move (v := .bool _) rfl) (fun h1 => ?_) (fun h1 => ?_)
    refine Wo rfl (opv_move (v := .int _ _) rfl) ?_; refine Wo_call rfl (opc1 (a := .int _ _) Tryd.call79 rfl) (isCode_ok _ _) ?_; rintro _ w2 ⟨rfl, E2⟩; have hs2 := E2.size; refine Wo rfl (opv_pick_t (v := .bool _) rfl rfl) ?_
    refine Wo_split_dec rfl (opv_move (v := .bool _) rfl) (fun h2 => ?_) (fun h2 => ?_); refine Wo rfl (opv_move (v := .int _ _) rfl) ?_; refine Wo rfl (opv_leq rfl rfl) ?_; refine Wo rfl (opv_pick_t (v := .bool _) rfl rfl) ?_
    refine Wo_split_dec rfl (opv_move (v := .bool _) rfl) (fun h3 => ?_) (fun h3 => ?_); refine Wo rfl (opv_move (v := .int _ _) rfl) ?_; refine Wo rfl (opv_move (v := .int _ _) rfl) ?_; refine Wo rfl (opv_shr rfl rfl (by omega)) ?_
    refine Wo rfl (opv_and rfl rfl ⟨Int.natCast_nonneg _, by omega⟩) ?_; refine Wo rfl (opv_eql rfl rfl) ?_; refine Wo rfl (opv_pick_t (v := .bool _) rfl rfl) ?_; refine Wo rfl (opv_assign (v := .bool _) rfl) ?_; refine Wo_nil ?_
    refine W_ret ?_; refine at_ret (v := .bool _) rfl ?_; refine ⟨congrArg Value.bool ?_, (E1.trans E2)⟩; rotate_left; refine Wo_skip rfl ?_; refine Wo_skip rfl ?_; refine Wo_skip rfl ?_; refine Wo_skip rfl ?_; refine Wo_skip rfl ?_
    refine Wo rfl (opv_pick_f (v := .bool _) rfl rfl) ?_; refine Wo rfl (opv_assign (v := .bool _) rfl) ?_; refine Wo_nil ?_; refine W_ret ?_; refine at_ret (v := .bool _) rfl ?_; refine ⟨congrArg Value.bool ?_, (E1.trans E2)⟩
    rotate_left; refine Wo_skip rfl ?_; refine Wo_skip rfl ?_; refine Wo rfl (opv_pick_f (v := .bool _) rfl rfl) ?_; refine Wo rfl (opv_move (v := .bool _) rfl) ?_; refine Wo_skip rfl ?_; refine Wo_skip rfl ?_; refine Wo_skip rfl ?_
    refine Wo_skip rfl ?_; refine Wo_skip rfl ?_; refine Wo rfl (opv_pick_f (v := .bool _) rfl rfl) ?_; refine Wo rfl (opv_assign (v := .bool _) rfl) ?_; refine Wo_nil ?_; refine W_ret ?_; refine at_ret (v := .bool _) rfl ?_
    refine ⟨congrArg Value.bool ?_, (E1.trans E2)⟩; rotate_left; refine Wo_skip rfl ?_; refine Wo_skip rfl ?_; refine Wo rfl (opv_pick_f (v := .bool _) rfl rfl) ?_; refine Wo rfl (opv_move (v := .bool _) rfl) ?_; refine Wo_skip rfl ?_
    refine Wo_skip rfl ?_; refine Wo rfl (opv_pick_f (v := .bool _) rfl rfl) ?_; refine Wo rfl (opv_move (v := .bool _) rfl) ?_; refine Wo_skip rfl ?_; refine Wo_skip rfl ?_; refine Wo_skip rfl ?_; refine Wo_skip rfl ?_
    refine Wo_skip rfl ?_; refine Wo rfl (opv_pick_f (v := .bool _) rfl rfl) ?_; refine Wo rfl (opv_assign (v := .bool _) rfl) ?_; refine Wo_nil ?_; refine W_ret ?_; refine at_ret (v := .bool _) rfl ?_
    refine ⟨congrArg Value.bool ?_, E1⟩; rotate_left
  · have hn : 0 ≤ n ∧ n ≤ 65535 ∧ 0 ≤ m ∧ m ≤ 15 := by omega
    unfold hasC
    rw [decide_eq_true hn, Bool.true_and, Bool.eq_iff_iff, decide_eq_true_iff]
    exact and_one _ _
  all_goals
    have hn : ¬ (0 ≤ n ∧ n ≤ 65535 ∧ 0 ≤ m ∧ m ≤ 15) := by omega
    unfold hasC
    rw [decide_eq_false hn]; rfl

theorem alive_ok (w : World) : Does Tryd.prog 28 [] w (Ret w (.bool true)) := by
  have h1 : ∀ w, Does Tryd.prog 53 [.int .i64 5, .int .i64 2] w (Ret w (.bool true)) := fun w => by
    have := Has_ok 5 2 w
    have e : hasC 5 2 = true := by decide
    rw [e] at this; exact this
  have h2 : ∀ w, Does Tryd.prog 53 [.int .i64 5, .int .i64 1] w (Ret w (.bool false)) := fun w => by
    have := Has_ok 5 1 w
    have e : hasC 5 1 = false := by decide
    rw [e] at this; exact this
  refine fn_of_W1 Tryd.func28 rfl Tryd.results28 Tryd.ntmps28 rfl ?_
  focus
    refine W_seq ?_; refine W_region rfl ?_; refine Wo rfl (opv_assign (v := .bool _) rfl) ?_; refine Wo_nil ?_; refine W_seq ?_; refine W_region rfl ?_
    refine Wo_call rfl (opc2 (a := .int _ _) (b := .int _ _) Tryd.call53 rfl rfl) (h1 _) ?_; rintro _ w1 ⟨rfl, E1⟩; have hs1 := E1.size; refine Wo rfl (opv_move (v := .bool _) rfl) ?_
    refine Wo_call rfl (opc2 (a := .int _ _) (b := .int _ _) Tryd.call53 rfl rfl) (h2 _) ?_; rintro _ w2 ⟨rfl, E2⟩; have hs2 := E2.size; refine Wo rfl (opv_not rfl) ?_; refine Wo rfl (opv_pick_t (v := .bool _) rfl rfl) ?_
    refine Wo rfl (opv_assign (v := .bool _) rfl) ?_; refine Wo_nil ?_; refine W_ret ?_; exact ⟨rfl, (E1.trans E2)⟩

end Go.Proofs.YtgphoihilheoeaaDoor
namespace Go.Proofs.YtgphoihilheoeaaDoor
open Go.Hs
set_option maxRecDepth 10000
set_option maxHeartbeats 4000000
set_option linter.unusedVariables false
set_option linter.unusedSimpArgs false
theorem opv_neD {ρ : Env} {w : World} {x y : Operand} {t' ty : TypeId} {k n k' n' : Int} {a b : List UInt8} (hx : evalE ρ x = .agg #[.int .i64 k, str a, .int .i64 n]) (hy : evalE ρ y = .agg #[.int .i64 k', str b, .int .i64 n']) :
    OpV Tryd.prog (.binOp .neq 26 x y t') ty ρ w (.bool (!decide ((⟨k, a, n⟩ : Deed) = ⟨k', b, n'⟩))) := by
  have u3 := Tryd.underlying3
  have a3 := Tryd.isAgg3
  have z3 := Tryd.sizeOf3
  have u9 := Tryd.underlying9
  have a9 := Tryd.isAgg9
  have z9 := Tryd.sizeOf9
  have hS : Tryd.prog.underlying 26 = some (.struct (Tryd.prog.fieldsOf 26)) := by kernel_rfl
  have hp : Tryd.prog.stoodInHeld 26 = false := by kernel_rfl
  have hg : Tryd.prog.eqGuardType Tryd.prog.depth 26 = false := by kernel_rfl
  have e : ((binOp .neq 26 (.agg #[.int .i64 k, str a, .int .i64 n]) (.agg #[.int .i64 k', str b, .int .i64 n'])).run Tryd.prog w) = .ok (.bool (!decide ((⟨k, a, n⟩ : Deed) = ⟨k', b, n'⟩))) w := by
    rw [run_neq_struct, show (10000 : Nat) = 9999 + 1 from rfl, run_equalIn_agg w 9999 26 _ _ hS hp]
    simp only [Program.fieldsOf, Tryd.underlying26]
    go_simp
    by_cases h1 : k = k' <;> by_cases h2 : a = b <;> by_cases h3 : n = n' <;> simp [h1, h2, h3]
  simp [OpV, execOp, hx, hy, run_eqGuard_agg, hg, e]

theorem sameDeeds_ok (w : World) (v u : Value) (l m : List Deed) (h : ESD w v l) (h' : ESD w u m) : Does Tryd.prog 31 [v, u] w (Ret w (.bool (decide (l = m)))) := by
  have hle := h.le
  have hle' := h'.le
  refine fn_of_W1 Tryd.func31 rfl Tryd.results31 Tryd.ntmps31 rfl ?_
  focus
    refine W_seq ?_; refine W_region rfl ?_; refine Wo rfl (opv_assign (v := .bool _) rfl) ?_; refine Wo_nil ?_; refine W_seq ?_; refine W_seq ?_; refine W_region rfl ?_; refine Wo rfl (opv_move (v := v) rfl) ?_
    refine Wo rfl (opv_lenD Tryd.underlying36 rfl h) ?_; refine Wo rfl (opv_move (v := u) rfl) ?_; refine Wo rfl (opv_lenD Tryd.underlying36 rfl h') ?_; refine Wo rfl (opv_neq rfl rfl) ?_; refine Wo_nil ?_
    refine W_cond_ndec rfl (fun h1 => ?_) (fun h1 => ?_); refine W_seq ?_; refine W_region rfl ?_; refine Wo rfl (opv_assign (v := .bool _) rfl) ?_; refine Wo_nil ?_; refine W_ret ?_; refine at_ret (v := .bool _) rfl ?_
    refine ⟨congrArg Value.bool ?_, (Ext.refl _)⟩; rotate_left; refine W_skip ?_; refine W_seq ?_; refine W_seq ?_; refine W_region rfl ?_; refine Wo rfl (opv_assign (v := .int _ _) rfl) ?_; refine Wo_nil ?_; refine W_block ?_
    rotate_left
  · exact (decide_eq_false (fun e => by subst e; omega)).symm
  refine W_loop [4, 5, 11, 12, 13, 14, 15, 16, 17, 18, 19, 20, 21, 22, 23, 24, 25] (fun (k : Nat) => [(5, .int .i64 (k : Nat))]) (fun k w' => Ext w w' ∧ k ≤ l.length ∧ l.take k = m.take k) (fun x => l.length - x) 0 (by repeat (first | exact trivial | refine And.intro rfl ?_)) ?_ ?_
  · exact ⟨Ext.refl _, Nat.zero_le _, by simp⟩
  rintro k ρj w1 ⟨E1, hk, he⟩
  focus
    have szE1 := E1.size; refine W_seq ?_; refine W_seq ?_; refine W_region rfl ?_; refine Wo rfl (opv_move (v := .int _ _) rfl) ?_; refine Wo rfl (opv_move (v := v) rfl) ?_; refine Wo rfl (opv_lenD Tryd.underlying36 rfl h) ?_
    refine Wo rfl (opv_lss rfl rfl) ?_; refine Wo_nil ?_; refine W_cond_dec rfl (fun h2 => ?_) (fun h2 => ?_); refine W_skip ?_; refine W_seq ?_; refine W_block ?_; refine W_seq ?_; refine W_draw mixed (by kernel_rfl) rfl ?_
    refine Wq_o rfl (fun _ _ => opv_move (v := v) rfl) ?_; refine Wq_o rfl (fun _ _ => opv_move (v := .int _ _) rfl) ?_
    refine Wq_getD Tryd.underlying36 Tryd.sizeOf26 Tryd.isAgg26 Tryd.sizeOf26 rfl (fun _ => rfl) rfl h E1 rfl (by first | omega | (simp <;> omega)) ?_; rintro _; refine Wq_o rfl (fun _ _ => opv_move (v := u) rfl) ?_
    refine Wq_o rfl (fun _ _ => opv_move (v := .int _ _) rfl) ?_; refine Wq_getD Tryd.underlying36 Tryd.sizeOf26 Tryd.isAgg26 Tryd.sizeOf26 rfl (fun _ => rfl) rfl h' E1 rfl (by first | omega | (simp <;> omega)) ?_; rintro _
    refine Wq_o rfl (fun _ _ => opv_neD rfl rfl) ?_; refine Wq_nil (fun w2 E2 => ?_); have hs1 := E2.size; refine W_cond_ndec rfl (fun h3 => ?_) (fun h3 => ?_); refine W_seq ?_; refine W_region rfl ?_
    refine Wo rfl (opv_assign (v := .bool _) rfl) ?_; refine Wo_nil ?_; refine W_ret ?_; refine at_ret (v := .bool _) rfl ?_; refine ⟨congrArg Value.bool ?_, (E1.trans E2)⟩; rotate_left; refine W_skip ?_; refine W_region rfl ?_
    refine Wo rfl (opv_move (v := .int _ _) rfl) ?_; refine Wo rfl (opv_add rfl rfl (by omega)) ?_; refine Wo rfl (opv_assign (v := .int _ _) rfl) ?_; refine Wo_nil ?_; rotate_left; refine W_exit ?_; refine exitX_same ?_
    refine W_seq ?_; refine W_region rfl ?_; refine Wo rfl (opv_assign (v := .bool _) rfl) ?_; refine Wo_nil ?_; refine W_ret ?_; refine at_ret (v := .bool _) rfl ?_; refine ⟨congrArg Value.bool ?_, E1⟩; rotate_left
  · exact (decide_eq_false (ne_at (k := k) (by omega) (by omega) (by assumption))).symm
  · refine ⟨(k + 1), by repeat (first | exact trivial | refine And.intro rfl ?_), by repeat (first | with_reducible exact Same.refl | refine Same.upd rfl ?_ | refine Same.upds rfl ?_ | refine Same.mix rfl ?_), ?_, ?_⟩
    · exact ⟨E1.trans E2, by omega, (take_eq_snoc (by omega) (by omega)).2 ⟨he, by assumption⟩⟩
    · omega
  · obtain rfl : k = l.length := by omega
    exact (decide_eq_true (ext_take (by omega) he)).symm

end Go.Proofs.YtgphoihilheoeaaDoor
set_option linter.unusedVariables false
set_option linter.unusedSimpArgs false
namespace Go.Hs
end Go.Hs
