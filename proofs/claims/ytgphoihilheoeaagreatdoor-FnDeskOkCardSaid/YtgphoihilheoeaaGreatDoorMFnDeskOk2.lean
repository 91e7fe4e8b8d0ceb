/- Lemmas for FnDeskOk. -/
import Derived.Test.YtgphoihilheoeaaGreatDoorMFnDeskOk1
import Derived.Shelf.Lay
import Derived.Ground.NamesProg
import Derived.Shelf.Sort.Plain
import Derived.Shelf.Slices.In.SortNone
import Derived.Sort.OwnSortedInts
import Derived.Laws.Shifts
import Derived.Laws.BytesArg
import Derived.Lib.SplitLaws
import Derived.Lib.Join
import Derived.Lib.ItoaNum
namespace Go.Proofs.YtgphoihilheoeaaGreatDoor
open Go.Hs
set_option maxRecDepth 10000
set_option maxHeartbeats 4000000
set_option linter.unusedVariables false
set_option linter.unusedSimpArgs false

theorem IndexFunc_ok (w : World) (v : Value) (xs : List Int) (h : Ints w v xs) (fid : FuncId) (cap : List Value) (g : Int → Bool) (hc : ∀ args w, Sem.run Tryz.prog (callFunc fid args) w = .ok (.enter fid args) w)
    (hf : ∀ (x : Int) (w' : World), x ∈ xs → Ext w w' → Does Tryz.prog fid (.int .i64 x :: cap) w' (Ret w' (.bool (g x)))) :
    Does Tryz.prog 105 [v, .func (.func fid) [].toArray cap.toArray] w (RetX w (Value.int .i64) (fun n _ => (n = -1 ∧ xs.any g = false) ∨ (0 ≤ n ∧ xs.any g = true))) := by
  have hle := h.le
  refine fn_of_W1 Tryz.func105 rfl Tryz.results105 Tryz.ntmps105 rfl ?_
  focus
    refine W_seq ?_; refine W_region rfl ?_; refine Wo rfl (opv_assign (v := .int _ _) rfl) ?_; refine Wo_nil ?_; refine W_seq ?_; refine W_seq ?_; refine W_region rfl ?_; refine Wo rfl (opv_move (v := v) rfl) ?_
    refine Wo rfl (opv_len Tryz.underlying58 rfl h) ?_; refine Wo rfl (opv_move (v := .int _ _) rfl) ?_; refine Wo_nil ?_; refine W_block ?_
  refine W_loop [4, 5, 8, 9, 10, 11, 12, 13, 14, 15, 16, 17, 18] (fun (k : Nat) => [(8, .int .i64 (k : Nat))]) (fun k w' => Ext w w' ∧ k ≤ xs.length ∧ (xs.take k).any g = false) (fun x => xs.length - x) 0 (by repeat (first | exact trivial | refine And.intro rfl ?_)) ?_ ?_
  · exact ⟨Ext.refl _, Nat.zero_le _, by simp⟩
  rintro k ρj w1 ⟨E1, hk, hg⟩
  by_cases hlt : k < xs.length
  · have hmem := List.getElem_mem hlt
    focus
      have szE1 := E1.size; refine W_seq ?_; refine W_region rfl ?_; refine Wo rfl (opv_lss rfl rfl) ?_; refine Wo_nil ?_; refine W_seq ?_; refine W_cond_dec rfl (fun h1 => ?_) (fun h1 => ?_); refine W_skip ?_; refine W_seq ?_
      refine W_block ?_; refine W_seq ?_; refine W_region rfl ?_; refine Wo rfl (opv_move (v := .int _ _) rfl) ?_; refine Wo rfl (opv_assign (v := .int _ _) rfl) ?_; refine Wo_nil ?_; refine W_seq ?_; refine W_region rfl ?_
      refine Wo rfl (opv_move (v := .func _ _ _) rfl) ?_; refine Wo rfl (opv_move (v := v) rfl) ?_; refine Wo rfl (opv_move (v := .int _ _) rfl) ?_
      refine Wo_get Tryz.underlying58 Tryz.sizeOf3 Tryz.isAgg3 rfl (fun _ => rfl) rfl h E1 rfl (by first | omega | (simp <;> omega)) ?_; rintro _ _ rfl
      refine Wo_call rfl (opc_val1 (a := .int _ _) (by assumption) rfl rfl) (hf _ _ (by assumption) (E1)) ?_; rintro _ w2 ⟨rfl, E2⟩; have hs1 := E2.size; refine Wo_nil ?_; refine W_cond rfl (fun h2 => ?_) (fun h2 => ?_); refine W_seq ?_
      refine W_region rfl ?_; refine Wo rfl (opv_move (v := .int _ _) rfl) ?_; refine Wo rfl (opv_assign (v := .int _ _) rfl) ?_; refine Wo_nil ?_; refine W_ret ?_; refine at_ret (v := .int _ _) rfl ?_; refine ⟨(E1.trans E2), _, rfl, ?_⟩
      (try dsimp only); rotate_left; refine W_skip ?_; refine W_region rfl ?_; refine Wo rfl (opv_add rfl rfl (by omega)) ?_; refine Wo rfl (opv_move (v := .int _ _) rfl) ?_; refine Wo_nil ?_; rotate_left; (exfalso; omega)
    · right
      refine ⟨by omega, List.any_eq_true.2 ⟨_, hmem, by assumption⟩⟩
    · refine ⟨(k + 1), by repeat (first | exact trivial | refine And.intro rfl ?_), by repeat (first | with_reducible exact Same.refl | refine Same.upd rfl ?_ | refine Same.upds rfl ?_ | refine Same.mix rfl ?_), ?_, ?_⟩
      · refine ⟨E1.trans E2, by omega, ?_⟩
        rw [take_snoc _ _ hlt, List.any_append, hg]
        simpa using by assumption
      · omega
  · obtain rfl : k = xs.length := by omega
    focus
      have szE1 := E1.size; refine W_seq ?_; refine W_region rfl ?_; refine Wo rfl (opv_lss rfl rfl) ?_; refine Wo_nil ?_; refine W_seq ?_; refine W_cond_dec rfl (fun h1 => ?_) (fun h1 => ?_); (exfalso; omega); refine W_exit ?_
      refine exitX_same ?_; refine W_seq ?_; refine W_region rfl ?_; refine Wo rfl (opv_assign (v := .int _ _) rfl) ?_; refine Wo_nil ?_; refine W_ret ?_; refine at_ret (v := .int _ _) rfl ?_; refine ⟨E1, _, rfl, ?_⟩; (try dsimp only)
    exact .inl ⟨rfl, by simpa using hg⟩

theorem ContainsFunc_ok (w : World) (v : Value) (xs : List Int) (h : Ints w v xs) (fid : FuncId) (cap : List Value) (g : Int → Bool) (hc : ∀ args w, Sem.run Tryz.prog (callFunc fid args) w = .ok (.enter fid args) w)
    (hf : ∀ (x : Int) (w' : World), x ∈ xs → Ext w w' → Does Tryz.prog fid (.int .i64 x :: cap) w' (Ret w' (.bool (g x)))) :
    Does Tryz.prog 91 [v, .func (.func fid) [].toArray cap.toArray] w (Ret w (.bool (xs.any g))) := by
  have hi := IndexFunc_ok w v xs h fid cap g hc hf
  refine fn_of_W1 Tryz.func91 rfl Tryz.results91 Tryz.ntmps91 rfl ?_
  focus
    refine W_seq ?_; refine W_region rfl ?_; refine Wo rfl (opv_assign (v := .bool _) rfl) ?_; refine Wo_nil ?_; refine W_seq ?_; refine W_region rfl ?_; refine Wo rfl (opv_move (v := v) rfl) ?_
    refine Wo rfl (opv_move (v := .func _ _ _) rfl) ?_; refine Wo_call rfl (opc2 (a := v) (b := .func _ _ _) Tryz.call105 rfl rfl) (hi) ?_; rintro _ w1 ⟨E1, y1, rfl, hy1⟩; have hs1 := E1.size; refine Wo rfl (opv_geq rfl rfl) ?_
    refine Wo rfl (opv_assign (v := .bool _) rfl) ?_; refine Wo_nil ?_; refine W_ret ?_; refine at_ret (v := .bool _) rfl ?_; refine ⟨congrArg Value.bool ?_, E1⟩
  rcases hy1 with ⟨rfl, h9⟩ | ⟨h8, h9⟩
  · rw [h9]; rfl
  · rw [h9]; exact decide_eq_true h8

theorem emptyPicture_ok (w : World) (n : Nat) (hn : n ≤ 1048576) : Does Tryz.prog 73 [.int .i64 (n : Int)] w (RetO w XR (List.replicate n (List.replicate n 0))) := by
  refine fn_of_W1 Tryz.func73 rfl Tryz.results73 Tryz.ntmps73 rfl ?_
  focus
    refine W_seq ?_; refine W_region rfl ?_; refine Wo rfl (opv_assign (v := .slice _ _ _) rfl) ?_; refine Wo_nil ?_; refine W_seq ?_; refine W_region rfl ?_; refine Wo_lit0 (XSl 3 XInt) rfl el22 Tryz.sizeOf58 ?_
    rintro b1 w1 hb1 b1lt E1 hO1; have hs1 := E1.size; refine Wo rfl (opv_assign (v := .slice _ _ _) rfl) ?_; refine Wo_nil ?_; refine W_seq ?_; refine W_seq ?_; refine W_region rfl ?_; refine Wo rfl (opv_move (v := .int _ _) rfl) ?_
    refine Wo rfl (opv_move (v := .int _ _) rfl) ?_; refine Wo_nil ?_; refine W_block ?_
  refine W_loop [3, 6, 7, 8, 9, 10, 11, 12, 13] (fun (k, u) => [(6, .int .i64 (k : Nat)), (3, u)]) (fun (k, u) w' => Ext w w' ∧ k ≤ n ∧ Owned w.heap.size XR w' u (List.replicate k (List.replicate n 0))) (fun x => n - x.1) (0, .slice (some ⟨b1, 0, none⟩) 0 0) (by repeat (first | exact trivial | refine And.intro rfl ?_)) ?_ ?_
  · exact ⟨by assumption, Nat.zero_le _, by simpa using hO1⟩
  rintro ⟨k, u⟩ ρj w2 ⟨E2, hk, hO2⟩
  focus
    have szE2 := E2.size; have szE1 := E1.size; refine W_seq ?_; refine W_region rfl ?_; refine Wo rfl (opv_lss rfl rfl) ?_; refine Wo_nil ?_; refine W_seq ?_; refine W_cond_dec rfl (fun h1 => ?_) (fun h1 => ?_); refine W_skip ?_
    refine W_seq ?_; refine W_block ?_; refine W_region rfl ?_; refine Wo rfl (opv_move (v := u) rfl) ?_; refine Wo rfl (opv_move (v := .int _ _) rfl) ?_; refine Wo_makeI rfl el58 rfl (by omega) ?_; rintro b2 w3 hb2 b2lt E3 hO3
    have hs2 := E3.size; refine Wo_buildSlice (ps := [(0, .slice _ _ _)]) (cs := [_]) rfl Tryz.underlying22 Tryz.sizeOf58 Tryz.zeroValue58 rfl rfl rfl rfl ?_; rintro b3 w4 hb3 E4 hB1; have hlb3 := hB1.lt; have hs3 := E4.size
    refine Wo_app1 rfl el22 rfl rfl hB1 (hO2.toB.ext (E3.trans E4)) (hO3.toB.ext E4).o (by omega) (by first | omega | (simp <;> omega)) (by omega) (by omega) ((E2.trans E3).trans E4) (by omega) ?_
    have hT1 := (hO2.toB.ext (E3.trans E4)); rintro v1 w5 hO2 E5 M1; have hO3 := (hO3.toB.ext E4).moves M1 hT1 (by omega); have hB1 := hB1.moves M1 hT1 (by omega); have hs4 := E5.size; refine Wo rfl (opv_assign (v := v1) rfl) ?_
    refine Wo_nil ?_; refine W_region rfl ?_; refine Wo rfl (opv_add rfl rfl (by omega)) ?_; refine Wo rfl (opv_move (v := .int _ _) rfl) ?_; refine Wo_nil ?_; rotate_left; refine W_exit ?_; refine exitX_same ?_; refine W_seq ?_
    refine W_region rfl ?_; refine Wo rfl (opv_move (v := u) rfl) ?_; refine Wo rfl (opv_assign (v := u) rfl) ?_; refine Wo_nil ?_; refine W_ret ?_; refine ⟨E2, (congrArg (Owned _ _ _ _) ?_).mp (hO2.toB.o.mono (by omega))⟩; rotate_left
  · refine ⟨((k + 1, v1)), by repeat (first | exact trivial | refine And.intro rfl ?_), by repeat (first | with_reducible exact Same.refl | refine Same.upd rfl ?_ | refine Same.upds rfl ?_ | refine Same.mix rfl ?_), ?_, ?_⟩
    · refine ⟨by assumption, by omega, ?_⟩
      rw [List.replicate_succ']; exact hO2
    · simp only; omega
  · obtain rfl : k = n := by omega
    rfl

end Go.Proofs.YtgphoihilheoeaaGreatDoor
namespace Go.Proofs.YtgphoihilheoeaaGreatDoor
open Go.Hs
set_option maxRecDepth 10000
set_option maxHeartbeats 4000000
set_option linter.unusedVariables false
set_option linter.unusedSimpArgs false
theorem ints_any2 (l : List Nat) (g : Int → Bool) : (ints l).any g = l.any fun x => g (x : Int) := by
  unfold ints; rw [List.any_map]; rfl
theorem ints_get2 {l : List Nat} {k : Nat} (h : k < l.length) : (ints l)[k]'(by rw [ints_len]; exact h) = ((l[k] : Nat) : Int) := by simp [ints]
theorem arr_le5 {p : List (List Int)} (hp : Gr p) {i : Nat} (hi : i < p.length) : (arr p i).length ≤ 11 := by
  have h8 := arrR_len (p.getD i [])
  rw [getD_lt (by omega), hp.row (by omega)] at h8
  have := hp.2.1
  unfold arr; rw [getD_lt (by omega)]; omega

theorem answered_ok (w : World) (v v' : Value) (p : List (List Int)) (h : ESl Ints w v p) (hp : Gr p) (S : Nat → Nat → Bool) (h' : ESl Ints w v' (matV p S)) (a b : Nat) (ha : a < p.length) (hb : b < p.length) :
    Does Tryz.prog 81 [v, v', .int .i64 (a : Int), .int .i64 (b : Int)] w (Ret w (.bool (mch p S a b && (arr p b).all fun y => (arr p a).any fun x => S x y))) := by
  have hp5 := hp.2.1
  have hml := matV_len (p := p) S
  obtain ⟨qa, qc, rfl, _⟩ := id h'
  have harr : ∀ (w : World) (pv : Value) (z : Nat), ESl Ints w pv p → z < p.length → Does Tryz.prog 74 [pv, .int .i64 (z : Int)] w (RetO w XI (ints (arr p z))) := fun w pv z h hz =>
    arrowsOf_ok w pv p h (z : Int) (by omega) (by rw [getD_lt (by omega), hp.row (by omega)]; omega)
  have hcl1 : ∀ (w1 : World) (b3 b4 x y : Nat), Ext w w1 → Blk w1 b3 [.slice qa (matV p S).length qc] → Blk w1 b4 [.int .i64 (x : Int)] → x < p.length → y < p.length → Does Tryz.prog 92 [.int .i64 (y : Int), .pointer (some ⟨b3, 0, none⟩), .pointer (some ⟨b4, 0, none⟩)] w1 (Ret w1 (.bool (S x y))) := by
    intro w1 b3 b4 x y E0 hB3 hB4 hx hy
    have hmr := matV_rlen (p := p) (S := S) hx
    have hme := matV_at (p := p) (S := S) hx hy
    refine fn_of_W1 Tryz.func92 rfl Tryz.results92 Tryz.ntmps92 rfl ?_
    focus
      have szE0 := E0.size; refine W_seq ?_; refine W_region rfl ?_; refine Wo rfl (opv_assign (v := .bool _) rfl) ?_; refine Wo_nil ?_; refine W_seq ?_; refine W_region rfl ?_
      refine Wo (v := .slice _ _ _) rfl (opv_load Tryz.isAgg22 rfl (hB3.cell rfl)) ?_; refine Wo (v := .int _ _) rfl (opv_load Tryz.isAgg3 rfl (hB4.cell rfl)) ?_
      refine Wo_get Tryz.underlying22 Tryz.sizeOf58 Tryz.isAgg58 rfl (fun _ => rfl) rfl h' E0 rfl (by first | omega | (simp <;> omega)) ?_; rintro _ u1 hu1; refine Wo rfl (opv_move (v := .int _ _) rfl) ?_
      refine Wo_get Tryz.underlying58 Tryz.sizeOf3 Tryz.isAgg3 rfl (fun _ => rfl) rfl hu1 E0 rfl (by first | omega | (simp <;> omega)) ?_; rintro _ _ rfl; refine Wo rfl (opv_eql rfl rfl) ?_
      refine Wo rfl (opv_assign (v := .bool _) rfl) ?_; refine Wo_nil ?_; refine W_ret ?_; refine at_ret (v := .bool _) rfl ?_; refine ⟨congrArg Value.bool ?_, (Ext.refl _)⟩
    all_goals
      rw [hme]
      cases S x y <;> rfl
  have hcl2 : ∀ (w1 : World) (b3 b4 x y : Nat), Ext w w1 → Blk w1 b3 [.slice qa (matV p S).length qc] → Blk w1 b4 [.int .i64 (y : Int)] → x < p.length → y < p.length → Does Tryz.prog 93 [.int .i64 (x : Int), .pointer (some ⟨b3, 0, none⟩), .pointer (some ⟨b4, 0, none⟩)] w1 (Ret w1 (.bool (S x y))) := by
    intro w1 b3 b4 x y E0 hB3 hB4 hx hy
    have hmr := matV_rlen (p := p) (S := S) hx
    have hme := matV_at (p := p) (S := S) hx hy
    refine fn_of_W1 Tryz.func93 rfl Tryz.results93 Tryz.ntmps93 rfl ?_
    focus
      have szE0 := E0.size; refine W_seq ?_; refine W_region rfl ?_; refine Wo rfl (opv_assign (v := .bool _) rfl) ?_; refine Wo_nil ?_; refine W_seq ?_; refine W_draw mixed (by kernel_rfl) rfl ?_
      refine Wq_o (v := .slice _ _ _) rfl (fun w' hw' => opv_load Tryz.isAgg22 rfl ((hB3.ext hw').cell rfl)) ?_; refine Wq_o rfl (fun _ _ => opv_move (v := .int _ _) rfl) ?_
      refine Wq_get Tryz.underlying22 Tryz.sizeOf58 Tryz.isAgg58 rfl (fun _ => rfl) rfl h' E0 rfl (by first | omega | (simp <;> omega)) ?_; rintro _ u1 hu1
      refine Wq_o (v := .int _ _) rfl (fun w' hw' => opv_load Tryz.isAgg3 rfl ((hB4.ext hw').cell rfl)) ?_
      refine Wq_get Tryz.underlying58 Tryz.sizeOf3 Tryz.isAgg3 rfl (fun _ => rfl) rfl hu1 E0 rfl (by first | omega | (simp <;> omega)) ?_; rintro _ _ rfl; refine Wq_o rfl (fun _ _ => opv_eql rfl rfl) ?_
      refine Wq_o rfl (fun _ _ => opv_assign (v := .bool _) rfl) ?_; refine Wq_nil (fun w2 E1 => ?_); have hs1 := E1.size; refine W_ret ?_; refine at_ret (v := .bool _) rfl ?_; refine ⟨congrArg Value.bool ?_, E1⟩
    all_goals
      rw [hme]
      cases S x y <;> rfl
  refine fn_of_W1 Tryz.func81 rfl Tryz.results81 Tryz.ntmps81 rfl ?_
  focus
    refine W_seq ?_; refine W_region rfl ?_; refine Wo_box rfl rfl rfl ?_; rintro b1 w1 hb1 E1 hB1; have hlb1 := hB1.lt; have hs1 := E1.size; refine Wo rfl (opv_assign (v := .bool _) rfl) ?_; refine Wo_nil ?_; refine W_seq ?_
    refine W_seq ?_; refine W_region rfl ?_; refine Wo rfl (opv_move (v := v) rfl) ?_; refine Wo rfl (opv_move (v := .int _ _) rfl) ?_
    refine Wo_call rfl (opc2 (a := v) (b := .int _ _) Tryz.call74 rfl rfl) (harr _ _ _ ((Mono.mono E1 h)) (by assumption)) ?_; rintro u1 w2 ⟨E2, hO1⟩; have hs2 := E2.size
    refine Wo rfl (opv_len Tryz.underlying58 rfl (Owned.read hO1)) ?_; refine Wo rfl (opv_move (v := .int _ _) rfl) ?_; refine Wo_nil ?_; refine W_block ?_
  have hla := ints_len (arr p a)
  have hlb := ints_len (arr p b)
  have ha5 := arr_le5 hp ha
  have hb5 := arr_le5 hp hb
  have hB1' : Blk w1 b1 [.slice qa (matV p S).length qc] := hB1
  have hB2' := hB1'.ext E2
  clear hB1 hB1'
  refine W_loop [8, 10, 17, 18, 19, 20, 21, 22, 23, 24, 25, 26, 27] (fun (k : Nat) => [(17, .int .i64 (k : Nat))]) (fun k w' => Ext w2 w' ∧ k ≤ (arr p a).length ∧ ((arr p a).take k).all (fun x => (arr p b).any fun y => S x y) = true) (fun x => (arr p a).length - x) 0 (by repeat (first | exact trivial | refine And.intro rfl ?_)) ?_ ?_
  · exact ⟨Ext.refl _, Nat.zero_le _, by simp⟩
  rintro k ρj w3 ⟨E3, hk, hg⟩
  by_cases hkl : k < (arr p a).length
  · have hmm := List.getElem_mem hkl
    have hga := ints_get2 hkl
    have hts := take_snoc _ _ hkl
    have hxl := ((mem_arr hp ha).1 hmm).1
    have hcon : ∀ (w1 : World) (u : Value) (b3 b4 : Nat), Ext w w1 → Blk w1 b3 [.slice qa (matV p S).length qc] → Blk w1 b4 [.int .i64 ((ints (arr p a))[k]'(by omega))] → Ints w1 u (ints (arr p b)) → Does Tryz.prog 91 [u, .func (.func 92) [].toArray [.pointer (some ⟨b3, 0, none⟩), .pointer (some ⟨b4, 0, none⟩)].toArray] w1 (Ret w1 (.bool ((arr p b).any fun y => S (arr p a)[k] y))) := by
      intro w1 u b3 b4 E0 hB3 hB4 hu
      rw [hga] at hB4
      have := ContainsFunc_ok w1 u _ hu 92 [.pointer (some ⟨b3, 0, none⟩), .pointer (some ⟨b4, 0, none⟩)] (fun y => S (arr p a)[k] y.toNat) Tryz.call92 (fun y w' hy e => by
        simp only [ints, List.mem_map] at hy
        obtain ⟨j, hj, rfl⟩ := hy
        exact hcl1 w' b3 b4 _ j (E0.trans e) (hB3.ext e) (hB4.ext e) hxl ((mem_arr hp hb).1 hj).1)
      rw [ints_any2] at this
      exact this
    focus
      have szE3 := E3.size; have szE2 := E2.size; have szE1 := E1.size; refine W_seq ?_; refine W_region rfl ?_; refine Wo rfl (opv_lss rfl rfl) ?_; refine Wo_nil ?_; refine W_seq ?_; refine W_cond_dec rfl (fun h1 => ?_) (fun h1 => ?_)
      refine W_skip ?_; refine W_seq ?_; refine W_block ?_; refine W_seq ?_; refine W_region rfl ?_
      refine Wo_get Tryz.underlying58 Tryz.sizeOf3 Tryz.isAgg3 rfl (fun _ => rfl) rfl (Owned.read hO1) E3 rfl (by first | omega | (simp <;> omega)) ?_; rintro _ _ rfl; refine Wo_alloc rfl Tryz.zeroValue3 rfl ?_; rintro b2 w4 hb2 E4 hB1
      have hlb2 := hB1.lt; have hs3 := E4.size; refine Wo_st (v := .int _ _) rfl Tryz.sizeOf3 rfl rfl rfl hB1 (by decide) (by omega) (((E1.trans E2).trans E3).trans E4) ?_; rintro w5 E5 hB1 K1 hz1
      have E6 := ((E2.trans E3).trans E4).wroteAt (((E1.trans E2).trans E3).trans E4) E5 K1 hz1 (by omega); have szE6 := E6.size; have E7 := (E3.trans E4).wroteAt (((E1.trans E2).trans E3).trans E4) E5 K1 hz1 (by omega)
      have szE7 := E7.size; have E8 := E4.wroteAt (((E1.trans E2).trans E3).trans E4) E5 K1 hz1 (by omega); have szE8 := E8.size; simp only [List.set] at hB1; have hO1 := (hO1.toB.ext (E3.trans E4)).wrote K1 (by omega)
      have hB2' := (hB2'.ext (E3.trans E4)).of_heap (K1 _ (by omega)); refine Wo_nil ?_; refine W_seq ?_; refine W_region rfl ?_; refine Wo rfl (opv_move (v := v) rfl) ?_; refine Wo rfl (opv_move (v := .int _ _) rfl) ?_
      refine Wo_call rfl (opc2 (a := v) (b := .int _ _) Tryz.call74 rfl rfl) (harr _ _ _ ((Mono.mono E5 h)) (by assumption)) ?_; rintro u2 w6 ⟨E9, hO2⟩; have hs4 := E9.size; refine Wo rfl (opv_makeFunc rfl rfl) ?_
      refine Wo_call rfl (opc2 (a := u2) (b := .func _ _ _) Tryz.call91 rfl rfl) (hcon _ _ _ _ ((E5.trans E9)) ((hB2'.ext E9)) ((hB1.ext E9)) ((Owned.read hO2))) ?_; rintro _ w7 ⟨rfl, E10⟩; have hs5 := E10.size
      refine Wo rfl (opv_not rfl) ?_; refine Wo_nil ?_; refine W_cond rfl (fun h2 => ?_) (fun h2 => ?_); refine W_seq ?_; refine W_region rfl ?_; refine Wo rfl (opv_assign (v := .bool _) rfl) ?_; refine Wo_nil ?_; refine W_ret ?_
      refine at_ret (v := .bool _) rfl ?_; refine ⟨congrArg Value.bool ?_, ((E5.trans E9).trans E10)⟩; rotate_left; refine W_skip ?_; refine W_region rfl ?_; refine Wo rfl (opv_add rfl rfl (by omega)) ?_
      refine Wo rfl (opv_move (v := .int _ _) rfl) ?_; refine Wo_nil ?_; rotate_left; (exfalso; omega)
    · have hz : ((arr p b).any fun y => S (arr p a)[k] y) = false := by
        cases hq : (arr p b).any fun y => S (arr p a)[k] y with
        | false => rfl
        | true => exact absurd (show (!((arr p b).any fun y => S (arr p a)[k] y)) = true by assumption) (by rw [hq]; decide)
      have hm0 : mch p S a b = false := List.all_eq_false.2 ⟨_, hmm, by rw [hz]; decide⟩
      rw [hm0]; rfl
    · have hz : ((arr p b).any fun y => S (arr p a)[k] y) = true := by
        cases hq : (arr p b).any fun y => S (arr p a)[k] y with
        | true => rfl
        | false => exact absurd (show (!((arr p b).any fun y => S (arr p a)[k] y)) = false by assumption) (by rw [hq]; decide)
      refine ⟨(k + 1), by repeat (first | exact trivial | refine And.intro rfl ?_), by repeat (first | with_reducible exact Same.refl | refine Same.upd rfl ?_ | refine Same.upds rfl ?_ | refine Same.mix rfl ?_), ?_, ?_⟩
      · refine ⟨E7.trans (E9.trans E10), by omega, ?_⟩
        rw [hts, List.all_append, hg, List.all_cons, hz]; rfl
      · omega
  · obtain rfl : k = (arr p a).length := by omega
    rw [List.take_length] at hg
    have hm1 : mch p S a b = true := hg
    rw [hm1, Bool.true_and]
    clear hg hm1 hk hkl
    focus
      have szE3 := E3.size; have szE2 := E2.size; have szE1 := E1.size; refine W_seq ?_; refine W_region rfl ?_; refine Wo rfl (opv_lss rfl rfl) ?_; refine Wo_nil ?_; refine W_seq ?_; refine W_cond_dec rfl (fun h1 => ?_) (fun h1 => ?_)
      (exfalso; omega); refine W_exit ?_; refine exitX_same ?_; refine W_seq ?_; refine W_seq ?_; refine W_region rfl ?_; refine Wo rfl (opv_move (v := v) rfl) ?_; refine Wo rfl (opv_move (v := .int _ _) rfl) ?_
      refine Wo_call rfl (opc2 (a := v) (b := .int _ _) Tryz.call74 rfl rfl) (harr _ _ _ ((Mono.mono ((E1.trans E2).trans E3) h)) (by assumption)) ?_; rintro u2 w4 ⟨E4, hO2⟩; have hs3 := E4.size
      refine Wo rfl (opv_len Tryz.underlying58 rfl (Owned.read hO2)) ?_; refine Wo rfl (opv_move (v := .int _ _) rfl) ?_; refine Wo_nil ?_; refine W_block ?_
    have hB4' := hB2'.ext (E3.trans E4)
    refine W_loop [8, 12, 32, 33, 34, 35, 36, 37, 38, 39, 40, 41, 42] (fun (k : Nat) => [(32, .int .i64 (k : Nat))]) (fun k w' => Ext w4 w' ∧ k ≤ (arr p b).length ∧ ((arr p b).take k).all (fun y => (arr p a).any fun x => S x y) = true) (fun x => (arr p b).length - x) 0 (by repeat (first | exact trivial | refine And.intro rfl ?_)) ?_ ?_
    · exact ⟨Ext.refl _, Nat.zero_le _, by simp⟩
    rintro k ρk w5 ⟨E5, hk, hg⟩
    by_cases hkl : k < (arr p b).length
    · have hmm := List.getElem_mem hkl
      have hga := ints_get2 hkl
      have hts := take_snoc _ _ hkl
      have hxl := ((mem_arr hp hb).1 hmm).1
      have hcon : ∀ (w1 : World) (u : Value) (b3 b4 : Nat), Ext w w1 → Blk w1 b3 [.slice qa (matV p S).length qc] → Blk w1 b4 [.int .i64 ((ints (arr p b))[k]'(by omega))] → Ints w1 u (ints (arr p a)) → Does Tryz.prog 91 [u, .func (.func 93) [].toArray [.pointer (some ⟨b3, 0, none⟩), .pointer (some ⟨b4, 0, none⟩)].toArray] w1 (Ret w1 (.bool ((arr p a).any fun x => S x (arr p b)[k]))) := by
        intro w1 u b3 b4 E0 hB3 hB4 hu
        rw [hga] at hB4
        have := ContainsFunc_ok w1 u _ hu 93 [.pointer (some ⟨b3, 0, none⟩), .pointer (some ⟨b4, 0, none⟩)] (fun x => S x.toNat (arr p b)[k]) Tryz.call93 (fun y w' hy e => by
          simp only [ints, List.mem_map] at hy
          obtain ⟨j, hj, rfl⟩ := hy
          exact hcl2 w' b3 b4 j _ (E0.trans e) (hB3.ext e) (hB4.ext e) ((mem_arr hp ha).1 hj).1 hxl)
        rw [ints_any2] at this
        exact this
      focus
        have szE5 := E5.size; have szE4 := E4.size; have szE3 := E3.size; have szE2 := E2.size; have szE1 := E1.size; refine W_seq ?_; refine W_region rfl ?_; refine Wo rfl (opv_lss rfl rfl) ?_; refine Wo_nil ?_; refine W_seq ?_
        refine W_cond_dec rfl (fun h2 => ?_) (fun h2 => ?_); refine W_skip ?_; refine W_seq ?_; refine W_block ?_; refine W_seq ?_; refine W_region rfl ?_
        refine Wo_get Tryz.underlying58 Tryz.sizeOf3 Tryz.isAgg3 rfl (fun _ => rfl) rfl (Owned.read hO2) E5 rfl (by first | omega | (simp <;> omega)) ?_; rintro _ _ rfl; refine Wo_alloc rfl Tryz.zeroValue3 rfl ?_; rintro b2 w6 hb2 E6 hB1
        have hlb2 := hB1.lt; have hs4 := E6.size; refine Wo_st (v := .int _ _) rfl Tryz.sizeOf3 rfl rfl rfl hB1 (by decide) (by omega) (((((E1.trans E2).trans E3).trans E4).trans E5).trans E6) ?_; rintro w7 E7 hB1 K1 hz1
        have E8 := ((((E2.trans E3).trans E4).trans E5).trans E6).wroteAt (((((E1.trans E2).trans E3).trans E4).trans E5).trans E6) E7 K1 hz1 (by omega); have szE8 := E8.size
        have E9 := (((E3.trans E4).trans E5).trans E6).wroteAt (((((E1.trans E2).trans E3).trans E4).trans E5).trans E6) E7 K1 hz1 (by omega); have szE9 := E9.size
        have E10 := ((E4.trans E5).trans E6).wroteAt (((((E1.trans E2).trans E3).trans E4).trans E5).trans E6) E7 K1 hz1 (by omega); have szE10 := E10.size
        have E11 := (E5.trans E6).wroteAt (((((E1.trans E2).trans E3).trans E4).trans E5).trans E6) E7 K1 hz1 (by omega); have szE11 := E11.size
        have E12 := E6.wroteAt (((((E1.trans E2).trans E3).trans E4).trans E5).trans E6) E7 K1 hz1 (by omega); have szE12 := E12.size; simp only [List.set] at hB1
        have hO1 := (hO1.toB.ext (((E3.trans E4).trans E5).trans E6)).wrote K1 (by omega); have hB2' := (hB2'.ext (((E3.trans E4).trans E5).trans E6)).of_heap (K1 _ (by omega)); have hO2 := (hO2.toB.ext (E5.trans E6)).wrote K1 (by omega)
        have hB4' := (hB4'.ext (E5.trans E6)).of_heap (K1 _ (by omega)); refine Wo_nil ?_; refine W_seq ?_; refine W_region rfl ?_; refine Wo rfl (opv_move (v := v) rfl) ?_; refine Wo rfl (opv_move (v := .int _ _) rfl) ?_
        refine Wo_call rfl (opc2 (a := v) (b := .int _ _) Tryz.call74 rfl rfl) (harr _ _ _ ((Mono.mono E7 h)) (by assumption)) ?_; rintro u3 w8 ⟨E13, hO3⟩; have hs5 := E13.size; refine Wo rfl (opv_makeFunc rfl rfl) ?_
        refine Wo_call rfl (opc2 (a := u3) (b := .func _ _ _) Tryz.call91 rfl rfl) (hcon _ _ _ _ ((E7.trans E13)) ((hB2'.ext E13)) ((hB1.ext E13)) ((Owned.read hO3))) ?_; rintro _ w9 ⟨rfl, E14⟩; have hs6 := E14.size
        refine Wo rfl (opv_not rfl) ?_; refine Wo_nil ?_; refine W_cond rfl (fun h3 => ?_) (fun h3 => ?_); refine W_seq ?_; refine W_region rfl ?_; refine Wo rfl (opv_assign (v := .bool _) rfl) ?_; refine Wo_nil ?_; refine W_ret ?_
        refine at_ret (v := .bool _) rfl ?_; refine ⟨congrArg Value.bool ?_, ((E7.trans E13).trans E14)⟩; rotate_left; refine W_skip ?_; refine W_region rfl ?_; refine Wo rfl (opv_add rfl rfl (by omega)) ?_
        refine Wo rfl (opv_move (v := .int _ _) rfl) ?_; refine Wo_nil ?_; rotate_left; (exfalso; omega)
      · have hz : ((arr p a).any fun x => S x (arr p b)[k]) = false := by
          cases hq : (arr p a).any fun x => S x (arr p b)[k] with
          | false => rfl
          | true => exact absurd (show (!((arr p a).any fun x => S x (arr p b)[k])) = true by assumption) (by rw [hq]; decide)
        exact (List.all_eq_false.2 ⟨_, hmm, by rw [hz]; decide⟩).symm
      · have hz : ((arr p a).any fun x => S x (arr p b)[k]) = true := by
          cases hq : (arr p a).any fun x => S x (arr p b)[k] with
          | true => rfl
          | false => exact absurd (show (!((arr p a).any fun x => S x (arr p b)[k])) = false by assumption) (by rw [hq]; decide)
        refine ⟨(k + 1), by repeat (first | exact trivial | refine And.intro rfl ?_), by repeat (first | with_reducible exact Same.refl | refine Same.upd rfl ?_ | refine Same.upds rfl ?_ | refine Same.mix rfl ?_), ?_, ?_⟩
        · refine ⟨E11.trans (E13.trans E14), by omega, ?_⟩
          rw [hts, List.all_append, hg, List.all_cons, hz]; rfl
        · omega
    · obtain rfl : k = (arr p b).length := by omega
      rw [List.take_length] at hg
      focus
        have szE5 := E5.size; have szE4 := E4.size; have szE3 := E3.size; have szE2 := E2.size; have szE1 := E1.size; refine W_seq ?_; refine W_region rfl ?_; refine Wo rfl (opv_lss rfl rfl) ?_; refine Wo_nil ?_; refine W_seq ?_
        refine W_cond_dec rfl (fun h2 => ?_) (fun h2 => ?_); (exfalso; omega); refine W_exit ?_; refine exitX_same ?_; refine W_seq ?_; refine W_region rfl ?_; refine Wo rfl (opv_assign (v := .bool _) rfl) ?_; refine Wo_nil ?_
        refine W_ret ?_; refine at_ret (v := .bool _) rfl ?_; refine ⟨congrArg Value.bool ?_, ((((E1.trans E2).trans E3).trans E4).trans E5)⟩
      exact hg.symm

end Go.Proofs.YtgphoihilheoeaaGreatDoor
set_option linter.unusedVariables false
set_option linter.unusedSimpArgs false
namespace Go.Hs
section
variable {P : Program} {n : Nat} {N : Env → World → Prop} {ρ : Env} {w w0 : World} {all : Array Oper} {rest : List Oper}
  {d : Nat} {ty t el : TypeId} {pos : String} {after : Array Edge} {g : Option (Nat × Bool)} {x y : Operand} {v : Value} {zs cs : List Value} {ps : List (Nat × Value)} {b i : Nat}

theorem Wo_buildSliceH {k : Nat} {parts : Array (Nat × Operand)} {z : Value} (hw : wantedE all ⟨some d, .buildSlice t k parts, ty, pos, after, g⟩ ρ = true) (ht : P.underlying t = some (.slice el)) (hs : ∀ w, (sizeOf el).run P w = .ok 1 w)
    (hz : ∀ w, (zeroValue el).run P w = .ok z w) (h1 : isCell z = true) (hb : (Nat.ble 1 k && Nat.ble k 1000) = true) (hp : parts.toList.map (fun p => (p.1, evalE ρ p.2)) = ps) (hc : fillF (List.replicate k z) ps = some cs)
    (hk : ∀ b w1, w.heap.size ≤ b → Ext w w1 → Blk w1 b cs → w1.heap[b]? = some (.cells cs.toArray el (0, 0)) → Wops P n all rest N (upd ρ d (.slice (some ⟨b, 0, none⟩) k k)) w1) :
    Wops P n all (⟨some d, .buildSlice t k parts, ty, pos, after, g⟩ :: rest) N ρ w := by
  have hb' : 1 ≤ k ∧ k ≤ 1000 := by simpa using hb
  have e : (Array.map (fun x => match x with | (i, x) => (i, evalE ρ x)) parts).toList = ps := by rw [← hp]; simp
  have hr : (Array.map (fun i => (#[z] : Array Value)[i % (#[z] : Array Value).size]!) (Array.range k)) = (List.replicate k z).toArray := by
    apply Array.ext'
    simp only [Array.toList_map, Array.toList_range]
    apply List.ext_getElem
    · simp
    · intro i h1 h2; simp [Nat.mod_one]
  have hf := fill_eq (k := k) (place := fun i => some (i * 1, 1)) (fun i hi => by simp) ps (List.replicate k z) cs (by simp) hc
  have hz0 : z.cells = #[z] := isCell_cells h1
  refine Wo_w hw (show OpW P (.buildSlice t k parts) ty ρ w (.slice (some ⟨w.heap.size, 0, none⟩) k k) (w.alloc (.cells cs.toArray el)) from ?_) (hk _ _ (Nat.le_refl _) ((Ext.refl w).alloc _) (Blk.new w cs el) (heap_alloc_new w _))
  simp only [OpW, execOp, Instr.buildSlice, Sem.run_bind, Result.andThen_ok, run_und ht, hs, Nat.mul_one]
  rw [if_neg (by omega), if_neg (by omega)]
  simp only [Sem.run_bind, hz, Result.andThen_ok, Sem.run_pure, hz0, e]
  rw [hr]
  simp only [Nat.mul_one] at hf
  rw [hf]
  simp [newRow]
end
end Go.Hs
namespace Go.Proofs.YtgphoihilheoeaaGreatDoor
open Go.Hs
set_option maxRecDepth 10000
set_option maxHeartbeats 4000000
set_option linter.unusedVariables false
set_option linter.unusedSimpArgs false

theorem fill_skip {α : Type} (l : List α) (k : Nat) (h : k < l.length) (z : α) (hz : l[k] = z) : l.take k ++ List.replicate (l.length - k) z = l.take (k + 1) ++ List.replicate (l.length - (k + 1)) z := by
  rw [take_snoc _ _ h, hz, show l.length - k = (l.length - (k + 1)) + 1 by omega, List.replicate_succ]
  simp
theorem set_fill' {α : Type} (l : List α) (n k : Nat) (hn : l.length = n) (h : k < n) (z x : α) (hx : l[k]? = some x) : (l.take k ++ List.replicate (n - k) z).set k x = l.take (k + 1) ++ List.replicate (n - (k + 1)) z := by
  subst hn
  have := set_fill l k h z
  rw [List.getElem?_eq_getElem h] at hx
  rw [← Option.some.inj hx]; exact this
theorem fill_get {α : Type} (l : List α) (k : Nat) (h : k < l.length) (z : α) : (l.take k ++ List.replicate (l.length - k) z)[k]? = some z := by
  have hl : (l.take k).length = k := by rw [List.length_take]; omega
  rw [List.getElem?_append_right (by omega), hl, Nat.sub_self, List.getElem?_replicate, if_pos (by omega)]
theorem leftAfter_ok (w : World) (v : Value) (p : List (List Int)) (h : ESl Ints w v p) (hp : Gr p) (n : Nat) (hn : n ≤ 1000) : Does Tryz.prog 60 [v, .int .i64 (n : Int)] w (RetO w XR (matV p (bsm p n))) := by
  have hp5 := hp.2.1
  have hle := h.le
  have hem : ∀ w, Does Tryz.prog 73 [.int .i64 (p.length : Int)] w (RetO w XR (List.replicate p.length (List.replicate p.length 0))) := fun w => emptyPicture_ok w p.length (by omega)
  refine fn_of_W1 Tryz.func60 rfl Tryz.results60 Tryz.ntmps60 rfl ?_
  focus
    refine W_seq ?_; refine W_region rfl ?_; refine Wo rfl (opv_assign (v := .slice _ _ _) rfl) ?_; refine Wo_nil ?_; refine W_seq ?_; refine W_region rfl ?_; refine Wo rfl (opv_move (v := v) rfl) ?_
    refine Wo rfl (opv_len Tryz.underlying22 rfl h) ?_; refine Wo_call rfl (opc1 (a := .int _ _) Tryz.call73 rfl) (hem _) ?_; rintro u1 w1 ⟨E1, hO1⟩; have hs1 := E1.size; refine Wo rfl (opv_assign (v := u1) rfl) ?_; refine Wo_nil ?_
    refine W_seq ?_; refine W_seq ?_; refine W_region rfl ?_; refine Wo rfl (opv_move (v := u1) rfl) ?_; refine Wo rfl (opv_len Tryz.underlying22 rfl (Owned.read hO1)) ?_; refine Wo rfl (opv_move (v := .int _ _) rfl) ?_
    refine Wo_nil ?_; refine W_block ?_
  have hL : (List.replicate p.length (List.replicate p.length (1 : Int))).length = p.length := by simp
  have hL2 : (List.replicate p.length (List.replicate p.length (0 : Int))).length = p.length := by simp
  have hI : (List.replicate p.length (1 : Int)).length = p.length := by simp
  refine W_loop [7, 8, 17, 18, 19, 20, 21, 22, 23, 24, 25, 26, 27, 28, 29, 30] (fun (i, rows) => [(17, .int .i64 (i : Nat))]) (fun (i, rows) w' => Ext w w' ∧ i ≤ p.length ∧ Owned w.heap.size XR w' u1 rows ∧ rows = (List.replicate p.length (List.replicate p.length (1 : Int))).take i ++ List.replicate (p.length - i) (List.replicate p.length 0)) (fun x => p.length - x.1) (0, List.replicate p.length (List.replicate p.length 0)) (by repeat (first | exact trivial | refine And.intro rfl ?_)) ?_ ?_
  · exact ⟨E1, Nat.zero_le _, hO1, by simp⟩
  rintro ⟨i, rows⟩ ρj w2 ⟨E2, hi, hO2, hr⟩
  have hrl : rows.length = p.length := by rw [hr]; simp; omega
  by_cases hil : i < p.length
  · have hri : rows[i] = List.replicate p.length (0 : Int) := by
      have h9 : rows[i]? = some (List.replicate p.length (0 : Int)) := by
        rw [hr]
        have := fill_get (List.replicate p.length (List.replicate p.length (1 : Int))) i (by omega) (List.replicate p.length (0 : Int))
        rw [hL] at this; exact this
      rw [List.getElem?_eq_getElem (by omega)] at h9
      exact Option.some.inj h9
    have hrll : rows[i].length = p.length := by rw [hri]; simp
    obtain ⟨ub, uc, rfl, _⟩ := hO2.lit (by omega)
    have hub := hO2.lt_own (k := ub) rfl
    obtain ⟨brw, crw, hRow, hbw1, hbw2⟩ := hO2.rowAt (i := i) (by omega) (by omega)
    focus
      have szE2 := E2.size; have szE1 := E1.size; refine W_seq ?_; refine W_region rfl ?_; refine Wo rfl (opv_lss rfl rfl) ?_; refine Wo_nil ?_; refine W_seq ?_; refine W_cond_dec rfl (fun h1 => ?_) (fun h1 => ?_); refine W_skip ?_
      refine W_seq ?_; refine W_block ?_; refine W_seq ?_; refine W_region rfl ?_; refine Wo_rowAt Tryz.underlying22 Tryz.sizeOf58 Tryz.isAgg58 rfl (fun _ => rfl) rfl ⟨_, _, rfl⟩ rfl hRow (by first | omega | (simp <;> omega)) ?_; rintro _
      refine Wo rfl (opv_assign (v := .slice _ _ _) rfl) ?_; refine Wo_nil ?_; refine W_seq ?_; refine W_region rfl ?_; refine Wo rfl (opv_move (v := .slice _ _ _) rfl) ?_; refine Wo rfl (opv_len_slice Tryz.underlying58 rfl) ?_
      refine Wo rfl (opv_move (v := .int _ _) rfl) ?_; refine Wo_nil ?_; refine W_block ?_; rotate_left; (exfalso; omega)
    have hJ : ∀ j, j < p.length → (List.replicate p.length (1 : Int))[j]? = some 1 := fun j hj => by rw [List.getElem?_replicate, if_pos hj]
    refine W_loop [8, 23, 24, 25, 26, 27, 28, 29] (fun (j, rows') => [(23, .int .i64 (j : Nat))]) (fun (j, rows') w' => Ext w w' ∧ w2.heap.size ≤ w'.heap.size ∧ j ≤ p.length ∧ Owned w.heap.size XR w' (.slice (some ⟨ub, 0, none⟩) rows.length uc) rows' ∧ RowAt w' (.slice (some ⟨ub, 0, none⟩) rows.length uc) i brw rows[i].length crw ∧ rows' = rows.set i ((List.replicate p.length (1 : Int)).take j ++ List.replicate (p.length - j) 0)) (fun x => p.length - x.1) (0, rows) (by repeat (first | exact trivial | refine And.intro rfl ?_)) ?_ ?_
    · refine ⟨E2, Nat.le_refl _, Nat.zero_le _, hO2, hRow, ?_⟩
      rw [show (List.replicate p.length (1 : Int)).take 0 ++ List.replicate (p.length - 0) 0 = rows[i] by rw [hri]; simp]
      simp
    rintro ⟨j, rows'⟩ ρk w3 ⟨E3, hs3, hj, hO3, hR3, hr3⟩
    have hrl3 : rows'.length = p.length := by rw [hr3]; simp [hrl]
    have hri3 : rows'[i] = (List.replicate p.length (1 : Int)).take j ++ List.replicate (p.length - j) 0 := by
      simp only [hr3, List.getElem_set_self]
    have hrll3 : rows'[i].length = p.length := by rw [hri3]; simp; omega
    clear hRow hO2
    by_cases hjl : j < p.length
    · have hnew : rows'.set i (rows'[i].set j 1) = rows.set i ((List.replicate p.length (1 : Int)).take (j + 1) ++ List.replicate (p.length - (j + 1)) 0) := by
        rw [hri3, set_fill' _ p.length j hI hjl 0 1 (hJ j hjl), hr3, List.set_set]
      focus
        have szE3 := E3.size; have szE2 := E2.size; have szE1 := E1.size; refine W_seq ?_; refine W_region rfl ?_; refine Wo rfl (opv_lss rfl rfl) ?_; refine Wo_nil ?_; refine W_seq ?_; refine W_cond_dec rfl (fun h2 => ?_) (fun h2 => ?_)
        refine W_skip ?_; refine W_seq ?_; refine W_block ?_; refine W_seq ?_; refine W_region rfl ?_; refine Wo rfl (opv_move (v := .int _ _) rfl) ?_; refine Wo rfl (opv_assign (v := .int _ _) rfl) ?_; refine Wo_nil ?_
        refine W_region rfl ?_; refine Wo rfl (opv_move (v := .slice _ _ _) rfl) ?_; refine Wo rfl (opv_move (v := .int _ _) rfl) ?_; refine Wo rfl (opv_indexAddr Tryz.underlying58 Tryz.sizeOf3 rfl rfl (by omega)) ?_
        refine Wo_gset rfl Tryz.sizeOf3 rfl rfl hO3.toB hR3 (by first | omega | (simp <;> omega)) (by first | omega | (simp <;> omega)) ?_; rintro w4 hO3 hR3 On1 K1 hz1; have E4 := On1.ext1 E3 (by omega); have hs2 := On1.size
        refine Wo_nil ?_; refine W_region rfl ?_; refine Wo rfl (opv_add rfl rfl (by omega)) ?_; refine Wo rfl (opv_move (v := .int _ _) rfl) ?_; refine Wo_nil ?_; rotate_left; (exfalso; omega)
      refine ⟨((j + 1, rows'.set i (rows'[i].set j 1))), by repeat (first | exact trivial | refine And.intro rfl ?_), by repeat (first | with_reducible exact Same.refl | refine Same.upd rfl ?_ | refine Same.upds rfl ?_ | refine Same.mix rfl ?_), ?_, ?_⟩
      · exact ⟨by assumption, by omega, by omega, hO3, hR3, hnew⟩
      · simp only; omega
    · obtain rfl : j = p.length := by omega
      have hnew : rows' = (List.replicate p.length (List.replicate p.length (1 : Int))).take (i + 1) ++ List.replicate (p.length - (i + 1)) (List.replicate p.length 0) := by
        rw [← set_fill' _ p.length i hL hil _ (List.replicate p.length (1 : Int)) (by rw [List.getElem?_replicate, if_pos hil]), hr3, ← hr]
        simp
      focus
        have szE3 := E3.size; have szE2 := E2.size; have szE1 := E1.size; refine W_seq ?_; refine W_region rfl ?_; refine Wo rfl (opv_lss rfl rfl) ?_; refine Wo_nil ?_; refine W_seq ?_; refine W_cond_dec rfl (fun h2 => ?_) (fun h2 => ?_)
        (exfalso; omega); refine W_exit ?_; refine exitX_same ?_; refine W_region rfl ?_; refine Wo rfl (opv_add rfl rfl (by omega)) ?_; refine Wo rfl (opv_move (v := .int _ _) rfl) ?_; refine Wo_nil ?_
      refine ⟨((i + 1, rows')), by repeat (first | exact trivial | refine And.intro rfl ?_), by repeat (first | with_reducible exact Same.refl | refine Same.upd rfl ?_ | refine Same.upds rfl ?_ | refine Same.mix rfl ?_), ?_, ?_⟩
      · exact ⟨E3, by omega, hO3, hnew⟩
      · simp only; omega
  · obtain rfl : i = p.length := by omega
    have hr0 : rows = matV p (bsm p 0) := by rw [hr, ← matV_zero]; simp
    subst hr0
    focus
      have szE2 := E2.size; have szE1 := E1.size; refine W_seq ?_; refine W_region rfl ?_; refine Wo rfl (opv_lss rfl rfl) ?_; refine Wo_nil ?_; refine W_seq ?_; refine W_cond_dec rfl (fun h1 => ?_) (fun h1 => ?_); (exfalso; omega)
      refine W_exit ?_; refine exitX_same ?_; refine W_seq ?_; refine W_seq ?_; refine W_region rfl ?_; refine Wo rfl (opv_move (v := .int _ _) rfl) ?_; refine Wo rfl (opv_move (v := .int _ _) rfl) ?_; refine Wo_nil ?_; refine W_block ?_
    clear hL hI hr
    refine W_loop [5, 9, 10, 11, 32, 33, 34, 35, 36, 37, 38, 39, 40, 41, 42, 43, 44, 45, 46, 47, 48, 49, 50, 51, 52, 53, 54, 55, 56, 57, 58, 59, 60, 61, 62, 63, 64, 65, 66, 67, 68, 69, 70, 71] (fun (m, u) => [(32, .int .i64 (m : Nat)), (5, u)]) (fun (m, u) w' => Ext w w' ∧ m ≤ n ∧ Owned w.heap.size XR w' u (matV p (bsm p m))) (fun x => n - x.1) (0, u1) (by repeat (first | exact trivial | refine And.intro rfl ?_)) ?_ ?_
    · exact ⟨E2, Nat.zero_le _, hO2⟩
    clear hO1 hO2
    rintro ⟨m, u⟩ ρm wm ⟨Em, hm, hOm⟩
    by_cases hmn : m < n
    · have hZ : (List.replicate p.length (List.replicate p.length (0 : Int))).length = p.length := by simp
      have hT := matV_len (p := p) (bsm p (m + 1))
      have hTm := matV_len (p := p) (bsm p m)
      focus
        have szEm := Em.size; have szE2 := E2.size; have szE1 := E1.size; refine W_seq ?_; refine W_region rfl ?_; refine Wo rfl (opv_lss rfl rfl) ?_; refine Wo_nil ?_; refine W_seq ?_; refine W_cond_dec rfl (fun h2 => ?_) (fun h2 => ?_)
        refine W_skip ?_; refine W_seq ?_; refine W_block ?_; refine W_seq ?_; refine W_region rfl ?_; refine Wo rfl (opv_move (v := v) rfl) ?_; refine Wo rfl (opv_len Tryz.underlying22 rfl h) ?_
        refine Wo_call rfl (opc1 (a := .int _ _) Tryz.call73 rfl) (hem _) ?_; rintro u2 w3 ⟨E3, hO1⟩; have hs2 := E3.size; refine Wo rfl (opv_assign (v := u2) rfl) ?_; refine Wo_nil ?_; refine W_seq ?_; refine W_seq ?_
        refine W_region rfl ?_; refine Wo rfl (opv_move (v := v) rfl) ?_; refine Wo rfl (opv_len Tryz.underlying22 rfl h) ?_; refine Wo rfl (opv_move (v := .int _ _) rfl) ?_; refine Wo_nil ?_; refine W_block ?_; rotate_left
        (exfalso; omega)
      refine W_loop [10, 11, 39, 40, 41, 42, 43, 44, 45, 46, 47, 48, 49, 50, 51, 52, 53, 54, 55, 56, 57, 58, 59, 60, 61, 62, 63, 64, 65, 66, 67, 68, 69] (fun (a, nx) => [(39, .int .i64 (a : Nat))]) (fun (a, nx) w' => Ext w w' ∧ wm.heap.size ≤ w'.heap.size ∧ a ≤ p.length ∧ OwnedB w.heap.size wm.heap.size XR w' u (matV p (bsm p m)) ∧ Owned wm.heap.size XR w' u2 nx ∧ nx = (matV p (bsm p (m + 1))).take a ++ List.replicate (p.length - a) (List.replicate p.length 0)) (fun x => p.length - x.1) (0, List.replicate p.length (List.replicate p.length 0)) (by repeat (first | exact trivial | refine And.intro rfl ?_)) ?_ ?_
      · exact ⟨Em.trans E3, E3.size, Nat.zero_le _, hOm.toB.ext E3, hO1, by simp⟩
      rintro ⟨a, nx⟩ ρa wa ⟨Ea, hsa, ha, hBa, hOa, hna⟩
      have hnl : nx.length = p.length := by rw [hna]; simp [hT]; omega
      by_cases hal : a < p.length
      · have hra : nx[a] = List.replicate p.length (0 : Int) := by
          have h9 : nx[a]? = some (List.replicate p.length (0 : Int)) := by
            rw [hna]
            have := fill_get (matV p (bsm p (m + 1))) a (by omega) (List.replicate p.length (0 : Int))
            rw [hT] at this; exact this
          rw [List.getElem?_eq_getElem (by omega)] at h9
          exact Option.some.inj h9
        have hral : nx[a].length = p.length := by rw [hra]; simp
        obtain ⟨ub, uc, rfl, _⟩ := hOa.lit (by omega)
        have hub := hOa.lt_own (k := ub) rfl
        obtain ⟨brw, crw, hRow, hbw1, hbw2⟩ := hOa.rowAt (i := a) (by omega) (by omega)
        have hTa := matV_rlen (p := p) (S := bsm p (m + 1)) hal
        have hma := matV_rlen (p := p) (S := bsm p m) hal
        focus
          have szEa := Ea.size; have szE3 := E3.size; have szEm := Em.size; have szE2 := E2.size; have szE1 := E1.size; refine W_seq ?_; refine W_region rfl ?_; refine Wo rfl (opv_lss rfl rfl) ?_; refine Wo_nil ?_; refine W_seq ?_
          refine W_cond_dec rfl (fun h3 => ?_) (fun h3 => ?_); refine W_skip ?_; refine W_seq ?_; refine W_block ?_; refine W_seq ?_; refine W_region rfl ?_; refine Wo rfl (opv_move (v := .int _ _) rfl) ?_
          refine Wo rfl (opv_assign (v := .int _ _) rfl) ?_; refine Wo_nil ?_; refine W_seq ?_; refine W_region rfl ?_; refine Wo rfl (opv_move (v := v) rfl) ?_; refine Wo rfl (opv_len Tryz.underlying22 rfl h) ?_
          refine Wo rfl (opv_move (v := .int _ _) rfl) ?_; refine Wo_nil ?_; refine W_block ?_; rotate_left; (exfalso; omega)
        refine W_loop [11, 44, 45, 46, 47, 48, 49, 50, 51, 52, 53, 54, 55, 56, 57, 58, 59, 60, 61, 62, 63, 64, 65, 66, 67, 68] (fun (b, nb) => [(44, .int .i64 (b : Nat))]) (fun (b, nb) w' => Ext w w' ∧ wa.heap.size ≤ w'.heap.size ∧ b ≤ p.length ∧ OwnedB w.heap.size wm.heap.size XR w' u (matV p (bsm p m)) ∧ Owned wm.heap.size XR w' (.slice (some ⟨ub, 0, none⟩) nx.length uc) nb ∧ RowAt w' (.slice (some ⟨ub, 0, none⟩) nx.length uc) a brw nx[a].length crw ∧ nb = nx.set a (((matV p (bsm p (m + 1)))[a]'(by omega)).take b ++ List.replicate (p.length - b) 0)) (fun x => p.length - x.1) (0, nx) (by repeat (first | exact trivial | refine And.intro rfl ?_)) ?_ ?_
        · refine ⟨Ea, Nat.le_refl _, Nat.zero_le _, hBa, hOa, hRow, ?_⟩
          rw [show ((matV p (bsm p (m + 1)))[a]'(by omega)).take 0 ++ List.replicate (p.length - 0) 0 = nx[a] by rw [hra]; simp]
          simp
        clear hBa hOa hRow hO1
        rintro ⟨b, nb⟩ ρb wb ⟨Eb, hsb, hb, hBb, hOb, hRb, hnb⟩
        have hbl : nb.length = p.length := by rw [hnb]; simp [hnl]
        have hrb : nb[a] = ((matV p (bsm p (m + 1)))[a]'(by omega)).take b ++ List.replicate (p.length - b) 0 := by
          simp only [hnb, List.getElem_set_self]
        have hrbl : nb[a].length = p.length := by rw [hrb]; simp [hTa]; omega
        by_cases hbl2 : b < p.length
        · have hme := matV_at (p := p) (S := bsm p m) hal hbl2
          have hTe := matV_at (p := p) (S := bsm p (m + 1)) hal hbl2
          have han : ∀ (w : World) (v v' : Value), ESl Ints w v p → ESl Ints w v' (matV p (bsm p m)) → Does Tryz.prog 81 [v, v', .int .i64 (a : Int), .int .i64 (b : Int)] w (Ret w (.bool (mch p (bsm p m) a b && mch p (bsm p m) b a))) := fun w v v' h1 h2 => by
            have := answered_ok w v v' p h1 hp (bsm p m) h2 a b hal hbl2
            rw [← mch_flip (bsm_sym m)] at this
            exact this
          have hset : bsm p (m + 1) a b = true → nb.set a (nb[a].set b 1) = nx.set a (((matV p (bsm p (m + 1)))[a]'(by omega)).take (b + 1) ++ List.replicate (p.length - (b + 1)) 0) := fun ht => by
            rw [hrb, set_fill' _ p.length b hTa hbl2 0 1 (by rw [List.getElem?_eq_getElem (by omega), hTe, ht]; rfl)]
            exact (congrArg (fun l => List.set l a _) hnb).trans (List.set_set ..)
          have hskip : bsm p (m + 1) a b = false → nb = nx.set a (((matV p (bsm p (m + 1)))[a]'(by omega)).take (b + 1) ++ List.replicate (p.length - (b + 1)) 0) := fun ht => by
            have := fill_skip ((matV p (bsm p (m + 1)))[a]'(by omega)) b (by omega) (0 : Int) (by rw [hTe, ht]; rfl)
            simp only [hTa] at this
            exact hnb.trans (congrArg (fun r => nx.set a r) this)
          have hdef : bsm p (m + 1) a b = (bsm p m a b && (mch p (bsm p m) a b && mch p (bsm p m) b a)) := rfl
          focus
            have szEb := Eb.size; have szEa := Ea.size; have szE3 := E3.size; have szEm := Em.size; have szE2 := E2.size; have szE1 := E1.size; refine W_seq ?_; refine W_region rfl ?_; refine Wo rfl (opv_lss rfl rfl) ?_; refine Wo_nil ?_
            refine W_seq ?_; refine W_cond_dec rfl (fun h4 => ?_) (fun h4 => ?_); refine W_skip ?_; refine W_seq ?_; refine W_block ?_; refine W_seq ?_; refine W_region rfl ?_; refine Wo rfl (opv_move (v := .int _ _) rfl) ?_
            refine Wo rfl (opv_assign (v := .int _ _) rfl) ?_; refine Wo_nil ?_; refine W_seq ?_; refine W_region rfl ?_; refine Wo rfl (opv_move (v := u) rfl) ?_; refine Wo rfl (opv_move (v := .int _ _) rfl) ?_
            refine Wo_get Tryz.underlying22 Tryz.sizeOf58 Tryz.isAgg58 rfl (fun _ => rfl) rfl (OwnedB.read hBb) (Ext.refl _) rfl (by first | omega | (simp <;> omega)) ?_; rintro _ u2 hu1; refine Wo rfl (opv_move (v := .int _ _) rfl) ?_
            refine Wo_get Tryz.underlying58 Tryz.sizeOf3 Tryz.isAgg3 rfl (fun _ => rfl) rfl hu1 (Ext.refl _) rfl (by first | omega | (simp <;> omega)) ?_; rintro _ _ rfl; refine Wo rfl (opv_eql rfl rfl) ?_
            refine Wo_split_dec rfl (opv_move (v := .bool _) rfl) (fun h5 => ?_) (fun h5 => ?_); refine Wo rfl (opv_move (v := v) rfl) ?_; refine Wo rfl (opv_move (v := u) rfl) ?_; refine Wo rfl (opv_move (v := .int _ _) rfl) ?_
            refine Wo rfl (opv_move (v := .int _ _) rfl) ?_; refine Wo_call rfl (opc4 (a := v) (b := u) (c := .int _ _) (d := .int _ _) Tryz.call81 rfl rfl rfl rfl) (han _ _ _ ((Mono.mono Eb h)) ((OwnedB.read hBb))) ?_; rintro _ w4 ⟨rfl, E4⟩
            have hs3 := E4.size; refine Wo rfl (opv_pick_t (v := .bool _) rfl rfl) ?_; refine Wo_nil ?_; refine W_cond rfl (fun h6 => ?_) (fun h6 => ?_); refine W_region rfl ?_; refine Wo rfl (opv_move (v := .slice _ _ _) rfl) ?_
            refine Wo rfl (opv_move (v := .int _ _) rfl) ?_; refine Wo_rowAt Tryz.underlying22 Tryz.sizeOf58 Tryz.isAgg58 rfl (fun _ => rfl) rfl ⟨_, _, rfl⟩ rfl (hRb.ext E4) (by first | omega | (simp <;> omega)) ?_; rintro _
            refine Wo rfl (opv_move (v := .int _ _) rfl) ?_; refine Wo rfl (opv_indexAddr Tryz.underlying58 Tryz.sizeOf3 rfl rfl (by omega)) ?_
            refine Wo_gset rfl Tryz.sizeOf3 rfl rfl (hOb.toB.ext E4) (hRb.ext E4) (by first | omega | (simp <;> omega)) (by first | omega | (simp <;> omega)) ?_; rintro w5 hOb hRb On1 K1 hz1; have E5 := On1.ext1 (Eb.trans E4) (by omega)
            have hBb := (hBb.ext E4).wrote K1 (by omega); have hs4 := On1.size; refine Wo_nil ?_; refine W_region rfl ?_; refine Wo rfl (opv_add rfl rfl (by omega)) ?_; refine Wo rfl (opv_move (v := .int _ _) rfl) ?_; refine Wo_nil ?_
            rotate_left; refine W_skip ?_; refine W_region rfl ?_; refine Wo rfl (opv_add rfl rfl (by omega)) ?_; refine Wo rfl (opv_move (v := .int _ _) rfl) ?_; refine Wo_nil ?_; rotate_left; refine Wo_skip rfl ?_; refine Wo_skip rfl ?_
            refine Wo_skip rfl ?_; refine Wo_skip rfl ?_; refine Wo_skip rfl ?_; refine Wo rfl (opv_pick_f (v := .bool _) rfl rfl) ?_; refine Wo_nil ?_; refine W_cond_false rfl ?_; refine W_skip ?_; refine W_region rfl ?_
            refine Wo rfl (opv_add rfl rfl (by omega)) ?_; refine Wo rfl (opv_move (v := .int _ _) rfl) ?_; refine Wo_nil ?_; rotate_left; (exfalso; omega)
          · have ht : bsm p (m + 1) a b = true := by
              rw [hdef, show bsm p m a b = true from b01_one.1 (hme.symm.trans (by assumption)), show (mch p (bsm p m) a b && mch p (bsm p m) b a) = true by assumption]; rfl
            refine ⟨((b + 1, nb.set a (nb[a].set b 1))), by repeat (first | exact trivial | refine And.intro rfl ?_), by repeat (first | with_reducible exact Same.refl | refine Same.upd rfl ?_ | refine Same.upds rfl ?_ | refine Same.mix rfl ?_), ?_, ?_⟩
            · exact ⟨by assumption, by omega, by omega, hBb, hOb, hRb, hset ht⟩
            · simp only; omega
          · have ht : bsm p (m + 1) a b = false := by
              rw [hdef, show (mch p (bsm p m) a b && mch p (bsm p m) b a) = false by assumption, Bool.and_false]
            refine ⟨((b + 1, nb)), by repeat (first | exact trivial | refine And.intro rfl ?_), by repeat (first | with_reducible exact Same.refl | refine Same.upd rfl ?_ | refine Same.upds rfl ?_ | refine Same.mix rfl ?_), ?_, ?_⟩
            · exact ⟨Eb.trans E4, by omega, by omega, hBb.ext E4, hOb.ext E4, hRb.ext E4, hskip ht⟩
            · simp only; omega
          · have ht : bsm p (m + 1) a b = false := by
              rw [hdef]
              cases hs : bsm p m a b with
              | false => rfl
              | true => rw [hs] at hme; exact absurd hme (by assumption)
            refine ⟨((b + 1, nb)), by repeat (first | exact trivial | refine And.intro rfl ?_), by repeat (first | with_reducible exact Same.refl | refine Same.upd rfl ?_ | refine Same.upds rfl ?_ | refine Same.mix rfl ?_), ?_, ?_⟩
            · exact ⟨Eb, by omega, by omega, hBb, hOb, hRb, hskip ht⟩
            · simp only; omega
        · obtain rfl : b = p.length := by omega
          have hnew : nb = (matV p (bsm p (m + 1))).take (a + 1) ++ List.replicate (p.length - (a + 1)) (List.replicate p.length 0) := by
            have hrow : ((matV p (bsm p (m + 1)))[a]'(by omega)).take p.length ++ List.replicate (p.length - p.length) 0 = (matV p (bsm p (m + 1)))[a]'(by omega) := by rw [List.take_of_length_le (by omega)]; simp
            have hsf := set_fill' _ p.length a hT hal (List.replicate p.length (0 : Int)) ((matV p (bsm p (m + 1)))[a]'(by omega)) (by rw [List.getElem?_eq_getElem (by omega)])
            exact (hnb.trans ((congrArg (fun r => nx.set a r) hrow).trans (congrArg (fun l => List.set l a _) hna))).trans hsf
          focus
            have szEb := Eb.size; have szEa := Ea.size; have szE3 := E3.size; have szEm := Em.size; have szE2 := E2.size; have szE1 := E1.size; refine W_seq ?_; refine W_region rfl ?_; refine Wo rfl (opv_lss rfl rfl) ?_; refine Wo_nil ?_
            refine W_seq ?_; refine W_cond_dec rfl (fun h4 => ?_) (fun h4 => ?_); (exfalso; omega); refine W_exit ?_; refine exitX_same ?_; refine W_region rfl ?_; refine Wo rfl (opv_add rfl rfl (by omega)) ?_
            refine Wo rfl (opv_move (v := .int _ _) rfl) ?_; refine Wo_nil ?_
          refine ⟨((a + 1, nb)), by repeat (first | exact trivial | refine And.intro rfl ?_), by repeat (first | with_reducible exact Same.refl | refine Same.upd rfl ?_ | refine Same.upds rfl ?_ | refine Same.mix rfl ?_), ?_, ?_⟩
          · exact ⟨Eb, by omega, by omega, hBb, hOb, hnew⟩
          · simp only; omega
      · obtain rfl : a = p.length := by omega
        have hnx : nx = matV p (bsm p (m + 1)) := by rw [hna, ← hT]; simp
        subst hnx
        focus
          have szEa := Ea.size; have szE3 := E3.size; have szEm := Em.size; have szE2 := E2.size; have szE1 := E1.size; refine W_seq ?_; refine W_region rfl ?_; refine Wo rfl (opv_lss rfl rfl) ?_; refine Wo_nil ?_; refine W_seq ?_
          refine W_cond_dec rfl (fun h3 => ?_) (fun h3 => ?_); (exfalso; omega); refine W_exit ?_; refine exitX_same ?_; refine W_region rfl ?_; refine Wo rfl (opv_move (v := u2) rfl) ?_; refine Wo rfl (opv_assign (v := u2) rfl) ?_
          refine Wo_nil ?_; refine W_region rfl ?_; refine Wo rfl (opv_add rfl rfl (by omega)) ?_; refine Wo rfl (opv_move (v := .int _ _) rfl) ?_; refine Wo_nil ?_
        refine ⟨((m + 1, u2)), by repeat (first | exact trivial | refine And.intro rfl ?_), by repeat (first | with_reducible exact Same.refl | refine Same.upd rfl ?_ | refine Same.upds rfl ?_ | refine Same.mix rfl ?_), ?_, ?_⟩
        · exact ⟨Ea, by omega, hOa.mono (by omega)⟩
        · simp only; omega
    · obtain rfl : m = n := by omega
      focus
        have szEm := Em.size; have szE2 := E2.size; have szE1 := E1.size; refine W_seq ?_; refine W_region rfl ?_; refine Wo rfl (opv_lss rfl rfl) ?_; refine Wo_nil ?_; refine W_seq ?_; refine W_cond_dec rfl (fun h2 => ?_) (fun h2 => ?_)
        (exfalso; omega); refine W_exit ?_; refine exitX_same ?_; refine W_seq ?_; refine W_region rfl ?_; refine Wo rfl (opv_move (v := u) rfl) ?_; refine Wo rfl (opv_assign (v := u) rfl) ?_; refine Wo_nil ?_; refine W_ret ?_
        exact ⟨Em, hOm.toB.o.mono (by omega)⟩

end Go.Proofs.YtgphoihilheoeaaGreatDoor
set_option linter.unusedVariables false
namespace Go.Hs
open Classical

inductive Rch (p : List (List Int)) : Nat → Nat → Prop
  | refl (i : Nat) : Rch p i i
  | step {i k j : Nat} : Rch p i k → j ∈ arr p k → Rch p i j

section
variable {p : List (List Int)} {i j k n : Nat}
theorem Rch.trans (h : Rch p i k) (h2 : Rch p k j) : Rch p i j := by
  induction h2 with
  | refl => exact h
  | step _ hj ih => exact ih.step hj
theorem Rch.head (h : k ∈ arr p i) (h2 : Rch p k j) : Rch p i j := ((Rch.refl i).step h).trans h2
theorem Rch.lt (hp : Gr p) (hi : i < p.length) (h : Rch p i j) : j < p.length := by
  induction h with
  | refl => exact hi
  | step h hj ih => exact ((mem_arr hp ih).1 hj).1

/-- how many below n -/
noncomputable def cnt (P : Nat → Prop) : Nat → Nat
  | 0 => 0
  | n + 1 => cnt P n + if P n then 1 else 0
theorem cnt_le (P : Nat → Prop) (n : Nat) : cnt P n ≤ n := by
  induction n with
  | zero => exact Nat.le_refl _
  | succ n ih => simp only [cnt]; split <;> omega
theorem cnt_mono {P Q : Nat → Prop} (h : ∀ j, j < n → P j → Q j) : cnt P n ≤ cnt Q n := by
  induction n with
  | zero => exact Nat.le_refl _
  | succ n ih =>
    have := ih fun j hj => h j (by omega)
    have h2 := h n (by omega)
    simp only [cnt]
    split <;> split <;> first | omega | (exfalso; simp_all)
theorem cnt_lt {P Q : Nat → Prop} (h : ∀ j, j < n → P j → Q j) (hk : k < n) (h1 : Q k) (h2 : ¬ P k) : cnt P n < cnt Q n := by
  induction n with
  | zero => omega
  | succ n ih =>
    simp only [cnt]
    by_cases e : k = n
    · subst e
      have := cnt_mono (n := k) fun j hj => h j (by omega)
      rw [if_neg h2, if_pos h1]; omega
    · have := ih (fun j hj => h j (by omega)) (by omega)
      have h3 := h n (by omega)
      split <;> split <;> first | omega | (exfalso; simp_all)
theorem cnt_pos {P : Nat → Prop} (hk : k < n) (h1 : P k) : 1 ≤ cnt P n := by
  have := cnt_lt (n := n) (P := fun _ => False) (Q := P) (fun _ _ h => h.elim) hk h1 id
  omega

/-- what is reached within r steps -/
def st (p : List (List Int)) (i : Nat) : Nat → Nat → Prop
  | 0, j => j = i
  | r + 1, j => st p i r j ∨ ∃ k, st p i r k ∧ j ∈ arr p k
theorem st_rch {r : Nat} (h : st p i r j) : Rch p i j := by
  induction r generalizing j with
  | zero => cases h; exact .refl _
  | succ r ih =>
    rcases h with h | ⟨k, h1, h2⟩
    · exact ih h
    · exact (ih h1).step h2
theorem st_self (r : Nat) : st p i r i := by
  induction r with
  | zero => rfl
  | succ r ih => exact .inl ih
theorem st_stable (hp : Gr p) (hi : i < p.length) (r : Nat) : (∀ j, st p i (r + 1) j → st p i r j) ∨ r + 1 ≤ cnt (st p i r) p.length := by
  induction r with
  | zero => exact .inr (cnt_pos hi rfl)
  | succ r ih =>
    by_cases hs : ∀ j, st p i (r + 1) j → st p i r j
    · left
      intro j hj
      rcases hj with h | ⟨k, h1, h2⟩
      · exact h
      · exact .inr ⟨k, hs k h1, h2⟩
    · right
      rcases ih with h | h
      · exact absurd h hs
      · obtain ⟨k, hk⟩ := Classical.not_forall.1 hs
        obtain ⟨hk1, hk2⟩ := Classical.not_imp.1 hk
        have := cnt_lt (P := st p i r) (Q := st p i (r + 1)) (fun j _ h => .inl h) ((st_rch hk1).lt hp hi) hk1 hk2
        omega
theorem rch_st (hp : Gr p) (hi : i < p.length) (h : Rch p i j) : st p i p.length j := by
  have hs : ∀ j, st p i (p.length + 1) j → st p i p.length j := by
    rcases st_stable hp hi p.length with h | h
    · exact h
    · have := cnt_le (st p i p.length) p.length; omega
  induction h with
  | refl => exact st_self _
  | step h hj ih => exact hs _ (.inr ⟨_, ih, hj⟩)

/-- what i reaches, in order -/
noncomputable def rch (p : List (List Int)) (i j : Nat) : Bool := decide (Rch p i j)
theorem rch_iff : rch p i j = true ↔ Rch p i j := decide_eq_true_iff
noncomputable def rf (p : List (List Int)) (i : Nat) : List Nat := (List.range p.length).filter (rch p i)
theorem mem_rf (hp : Gr p) (hi : i < p.length) : j ∈ rf p i ↔ Rch p i j := by
  simp only [rf, List.mem_filter, List.mem_range, rch_iff]
  exact ⟨fun h => h.2, fun h => ⟨h.lt hp hi, h⟩⟩
theorem rf_len : (rf p i).length ≤ p.length := Nat.le_trans (List.length_filter_le _ _) (by simp)
noncomputable def sortI (xs : List Int) : List Int := xs.mergeSort fun x y => decide (x ≤ y)
theorem sortI_len (xs : List Int) : (sortI xs).length = xs.length := by unfold sortI; simp
theorem sortI_eq {xs ys : List Int} (h : xs.Perm ys) (hs : ys.Pairwise (· ≤ ·)) : sortI xs = ys := by
  refine List.Perm.eq_of_pairwise (le := (· ≤ ·)) (fun a b _ _ h1 h2 => Int.le_antisymm h1 h2) ?_ hs ((List.mergeSort_perm _ _).trans h)
  refine (List.pairwise_mergeSort (fun a b c h1 h2 => ?_) (fun a b => ?_) xs).imp (fun h => by simpa using h)
  · simp only [decide_eq_true_eq] at *; omega
  · simp only [Bool.or_eq_true, decide_eq_true_eq]; omega
theorem ints_mono {l : List Nat} (h : l.Pairwise (· < ·)) : (ints l).Pairwise (· ≤ ·) := by
  unfold ints
  rw [List.pairwise_map]
  exact h.imp (fun h => by omega)
theorem mem_ints {l : List Nat} {x : Nat} : (x : Int) ∈ ints l ↔ x ∈ l := by
  unfold ints
  rw [List.mem_map]
  exact ⟨fun ⟨y, h1, h2⟩ => by rw [show x = y by omega]; exact h1, fun h => ⟨x, h, rfl⟩⟩
theorem ints_get {l : List Nat} {k : Nat} (h : k < l.length) : (ints l)[k]'(by rw [ints_len]; exact h) = ((l[k] : Nat) : Int) := by simp [ints]
theorem range_filter_pw (f : Nat → Bool) (n : Nat) : ((List.range n).filter f).Pairwise (· < ·) := List.pairwise_lt_range.filter f
theorem pw_nodup {l : List Nat} (h : l.Pairwise (· < ·)) : l.Nodup := h.imp (fun h => by omega)
/-- A list that holds i, only what i reaches, each once, and is closed under arrows: sorted it is all that i reaches. -/
theorem bfs (hp : Gr p) (hi : i < p.length) {l : List Nat} (hn : l.Nodup) (h0 : i ∈ l) (hs : ∀ j ∈ l, Rch p i j) (hc : ∀ k ∈ l, ∀ j ∈ arr p k, j ∈ l) : sortI (ints l) = ints (rf p i) := by
  refine sortI_eq ?_ (ints_mono (range_filter_pw _ _))
  refine List.Perm.map _ ((List.perm_ext_iff_of_nodup hn (pw_nodup (range_filter_pw _ _))).2 fun j => ?_)
  rw [show (j ∈ (List.range p.length).filter (rch p i)) ↔ Rch p i j from mem_rf hp hi]
  refine ⟨hs j, fun h => ?_⟩
  induction h with
  | refl => exact h0
  | step h hj ih => exact hc _ ih _ hj
theorem nodup_len {l : List Nat} (hn : l.Nodup) (hl : ∀ j ∈ l, j < n) : l.length ≤ n := by
  have h := List.Nodup.length_le_of_subset hn (l₂ := List.range n) (fun j hj => List.mem_range.2 (hl j hj))
  simpa using h
end
end Go.Hs
namespace Go.Proofs.YtgphoihilheoeaaGreatDoor
open Go.Hs
set_option maxRecDepth 10000
set_option maxHeartbeats 4000000
set_option linter.unusedVariables false
set_option linter.unusedSimpArgs false

def Tryz.laysSort_ren : Go.Shelf.Ren := ⟨fun | 189 => 85 | 125 => 100 | 257 => 99 | 128 => 119 | 129 => 120 | 294 => 110 | 295 => 111 | 296 => 112 | 297 => 113 | 298 => 114 | 299 => 115 | 216 => 116 | 300 => 117 | 301 => 118 | 328 => 129 | 329 => 130 | 330 => 131 | 331 => 132 | 332 => 133 | 215 => 134 | 343 => 140 | n => n, fun | 28 => 58 | 3 => 3 | 46 => 103 | 0 => 0 | 51 => 119 | 53 => 121 | 4 => 4 | 183 => 112 | 182 => 111 | 131 => 116 | 5 => 5 | 9 => 9 | 218 => 129 | 222 => 133 | 228 => 138 | 229 => 139 | n => n, fun | n => n⟩
theorem Tryz.laysSort : Go.Proofs.Lays.n189 Tryz.prog Tryz.laysSort_ren := {
  mixed := by kernel_rfl
  f125 := Tryz.func100.trans (congrArg some (by kernel_rfl))
  f128 := Tryz.func119.trans (congrArg some (by kernel_rfl))
  f129 := Tryz.func120.trans (congrArg some (by kernel_rfl))
  f189 := Tryz.func85.trans (congrArg some (by kernel_rfl))
  f215 := Tryz.func134.trans (congrArg some (by kernel_rfl))
  f216 := Tryz.func116.trans (congrArg some (by kernel_rfl))
  f257 := Tryz.func99.trans (congrArg some (by kernel_rfl))
  f294 := Tryz.func110.trans (congrArg some (by kernel_rfl))
  f295 := Tryz.func111.trans (congrArg some (by kernel_rfl))
  f296 := Tryz.func112.trans (congrArg some (by kernel_rfl))
  f297 := Tryz.func113.trans (congrArg some (by kernel_rfl))
  f298 := Tryz.func114.trans (congrArg some (by kernel_rfl))
  f299 := Tryz.func115.trans (congrArg some (by kernel_rfl))
  f300 := Tryz.func117.trans (congrArg some (by kernel_rfl))
  f301 := Tryz.func118.trans (congrArg some (by kernel_rfl))
  f328 := Tryz.func129.trans (congrArg some (by kernel_rfl))
  f329 := Tryz.func130.trans (congrArg some (by kernel_rfl))
  f330 := Tryz.func131.trans (congrArg some (by kernel_rfl))
  f331 := Tryz.func132.trans (congrArg some (by kernel_rfl))
  f332 := Tryz.func133.trans (congrArg some (by kernel_rfl))
  f343 := Tryz.func140.trans (congrArg some (by kernel_rfl))
  t0 := Tryz.underlying0
  a0 := Tryz.isAgg0
  z0 := Tryz.sizeOf0
  v0 := Tryz.zeroValue0
  t3 := Tryz.underlying3
  a3 := Tryz.isAgg3
  z3 := Tryz.sizeOf3
  v3 := Tryz.zeroValue3
  t4 := Tryz.underlying4
  a4 := Tryz.isAgg4
  z4 := Tryz.sizeOf4
  v4 := Tryz.zeroValue4
  t5 := Tryz.underlying5
  a5 := Tryz.isAgg5
  z5 := Tryz.sizeOf5
  v5 := Tryz.zeroValue5
  t9 := Tryz.underlying9
  a9 := Tryz.isAgg9
  z9 := Tryz.sizeOf9
  v9 := Tryz.zeroValue9
  t28 := Tryz.underlying58
  a28 := Tryz.isAgg58
  z28 := Tryz.sizeOf58
  v28 := Tryz.zeroValue58
  t46 := Tryz.underlying103
  a46 := Tryz.isAgg103
  z46 := Tryz.sizeOf103
  v46 := Tryz.zeroValue103
  t51 := Tryz.underlying119
  a51 := Tryz.isAgg119
  z51 := Tryz.sizeOf119
  v51 := Tryz.zeroValue119
  t53 := Tryz.underlying121
  a53 := Tryz.isAgg121
  z53 := Tryz.sizeOf121
  v53 := Tryz.zeroValue121
  t131 := Tryz.underlying116
  a131 := Tryz.isAgg116
  z131 := Tryz.sizeOf116
  v131 := Tryz.zeroValue116
  t182 := Tryz.underlying111
  a182 := Tryz.isAgg111
  z182 := Tryz.sizeOf111
  v182 := Tryz.zeroValue111
  t183 := Tryz.underlying112
  a183 := Tryz.isAgg112
  z183 := Tryz.sizeOf112
  v183 := Tryz.zeroValue112
  t218 := Tryz.underlying129
  a218 := Tryz.isAgg129
  z218 := Tryz.sizeOf129
  v218 := Tryz.zeroValue129
  t222 := Tryz.underlying133
  a222 := Tryz.isAgg133
  z222 := Tryz.sizeOf133
  v222 := Tryz.zeroValue133
  t228 := Tryz.underlying138
  a228 := Tryz.isAgg138
  z228 := Tryz.sizeOf138
  v228 := Tryz.zeroValue138
  t229 := Tryz.underlying139
  a229 := Tryz.isAgg139
  z229 := Tryz.sizeOf139
  v229 := Tryz.zeroValue139 }
theorem XAll_ints {w : World} {fps : List (List Nat)} {cs : List Value} {xs : List Int} (h : XAll XInt w fps cs xs) : cs = xs.map (Value.int .i64) ∧ fps.flatten = [] := by
  induction xs generalizing fps cs with
  | nil => cases fps <;> cases cs <;> first | exact ⟨rfl, rfl⟩ | exact h.elim
  | cons x xs ih =>
    cases fps <;> cases cs <;> first | exact h.elim | skip
    obtain ⟨⟨rfl, rfl⟩, h2⟩ := h
    obtain ⟨rfl, h4⟩ := ih h2
    exact ⟨rfl, h4⟩
theorem XAll_ints_mk {w : World} (xs : List Int) : XAll XInt w (xs.map fun _ => []) (xs.map (Value.int .i64)) xs := by
  induction xs with
  | nil => trivial
  | cons x xs ih => exact ⟨⟨rfl, rfl⟩, ih⟩


theorem Sort_ok (w : World) {lo hi : Nat} (v : Value) (xs : List Int) (h : OwnedB lo hi XI w v xs) (h0 : xs ≠ []) (hl : xs.length ≤ 1000000) :
    Does Tryz.prog 85 [v] w (RetSO lo hi w (.tuple #[]) XI v (sortI xs)) := by
  obtain ⟨fp, hnd, hfp, cs, fps, hrow, rfl, hX⟩ := h
  obtain ⟨rfl, hf⟩ := XAll_ints hX
  rcases hrow.2 with ⟨h6, h7⟩ | ⟨g, cap, cur, rfl, hg, hb, hn, hcap, hsz, htk⟩
  · exact absurd (List.length_eq_zero_iff.1 h7) h0
  have hin := hfp g (by simp [Value.ownBlock])
  have hH := holds_of_blockI hb (by simpa using htk)
  have hlt : g < w.heap.size := (Array.getElem?_eq_some_iff.1 hb).1
  have hc := Go.Proofs.Any.slices_Sort_int Tryz.laysSort g 0 cap xs w hH hlt (by omega)
  unfold Does
  refine Calls.mono (show Calls Tryz.prog 85 _ w _ from hc) ?_
  rintro e w' ⟨he, n, os, rfl⟩
  refine ⟨_, he, rfl, ?_, ?_⟩
  · have G := grownBy_sortedI (w := w) (g := g) (n := n) (os := os) ((xs.mergeSort fun x y => decide (x ≤ y)).toArray)
    exact ⟨G.os, G.tape, G.output, G.size, fun k hk hk2 => G.block k hk2 (by simp; omega)⟩
  · have hr := ownsRow_sortedI (n := n) (os := os) (base := 0) (ss := xs) (ts := sortI xs) (sortI_len xs) (Nat.zero_le _) hb hn hcap hsz
    have hfl : ∀ ys : List Int, (ys.map fun _ => ([] : List Nat)).flatten = [] := by intro ys; induction ys <;> simp_all
    refine ⟨_, ?_, ?_, _, (sortI xs).map fun _ => [], ?_, rfl, XAll_ints_mk _⟩
    · rw [hfl]; simp [Value.ownBlock]
    · intro k hk; rw [hfl] at hk; simp [Value.ownBlock] at hk; omega
    · rw [sortI_len]; exact hr

end Go.Proofs.YtgphoihilheoeaaGreatDoor
namespace Go.Hs
theorem shr_mod (x j : Nat) : ((x >>> j : Nat) : Int) % 2 = if x.testBit j then 1 else 0 := by
  rw [Nat.testBit_eq_decide_div_mod_eq, Nat.shiftRight_eq_div_pow]
  generalize x / 2 ^ j = q
  by_cases h : q % 2 = 1
  · rw [if_pos (by simpa using h)]; omega
  · rw [if_neg (by simpa using h)]; omega
theorem shl_le {g k : Nat} (hg : g ≤ 1) (hk : k ≤ 12) : g <<< k ≤ 4096 := by
  rw [Nat.shiftLeft_eq]
  have h1 : 2 ^ k ≤ 2 ^ 12 := Nat.pow_le_pow_right (by omega) hk
  have h2 : g * 2 ^ k ≤ 1 * 2 ^ 12 := Nat.mul_le_mul hg h1
  omega
theorem pow_le5 {k : Nat} (hk : k ≤ 12) : 2 ^ k ≤ 4096 := Nat.pow_le_pow_right (n := 2) (by omega) hk
end Go.Hs
set_option linter.unusedSimpArgs false
namespace Go.Hs
variable {P : Program} {ρ : Env} {w : World} {ty t t' : TypeId} {x y : Operand} {a b : Int}

theorem opv_shr {k : IntKind} (hx : evalE ρ x = .int .i64 a) (hy : evalE ρ y = .int k b) (h : 0 ≤ a ∧ a ≤ 9223372036854775807 ∧ 0 ≤ b) :
    OpV P (.binOp .shr t x y t') ty ρ w (.int .i64 ((a.toNat >>> b.toNat : Nat) : Int)) := by
  obtain ⟨A, rfl⟩ := Int.eq_ofNat_of_zero_le h.1
  obtain ⟨B, rfl⟩ := Int.eq_ofNat_of_zero_le h.2.2
  have key : ((A : Int) / 2 ^ min B 64 : Int) = ((A >>> B : Nat) : Int) := by
    rw [Nat.shiftRight_eq_div_pow]
    by_cases hb : B ≤ 64
    · rw [Nat.min_eq_left hb]; simp
    · rw [Nat.min_eq_right (by omega)]
      have h1 : A / 2 ^ B = 0 := Nat.div_eq_of_lt (Nat.lt_of_lt_of_le (show A < 2 ^ 64 by omega) (Nat.pow_le_pow_right (by omega) (by omega)))
      rw [h1]
      omega
  simp [OpV, execOp, hx, hy, eqGuard, binOp, shift_shr_any, IntKind.bits]
  exact key
theorem opv_and (hx : evalE ρ x = .int .i64 a) (hy : evalE ρ y = .int .i64 b) (h : 0 ≤ a ∧ 0 ≤ b ∧ b ≤ 9223372036854775807) :
    OpV P (.binOp .and t x y t') ty ρ w (.int .i64 ((a.toNat &&& b.toNat : Nat) : Int)) := by
  obtain ⟨A, rfl⟩ := Int.eq_ofNat_of_zero_le h.1
  obtain ⟨B, rfl⟩ := Int.eq_ofNat_of_zero_le h.2.1
  have hB : B < 2 ^ 63 := by omega
  have hx' : A &&& B ≤ B := Nat.and_le_right
  have key : IntKind.i64.wrap ((BitVec.ofInt 64 (A : Int) &&& BitVec.ofInt 64 (B : Int)).toNat : Int) = ((A &&& B : Nat) : Int) := by
    have e1 : (BitVec.ofInt 64 (A : Int)).toNat = A % 2 ^ 64 := by simp
    have e2 : (BitVec.ofInt 64 (B : Int)).toNat = B := by simp; omega
    have e3 : (A % 2 ^ 64) &&& B = A &&& B := by
      apply Nat.eq_of_testBit_eq
      intro i
      rw [Nat.testBit_and, Nat.testBit_and, Nat.testBit_mod_two_pow]
      by_cases hi : i < 64
      · simp [hi]
      · have : B.testBit i = false := Nat.testBit_lt_two_pow (Nat.lt_of_lt_of_le hB (Nat.pow_le_pow_right (by omega) (by omega)))
        simp [this]
    rw [BitVec.toNat_and, e1, e2, e3, IntKind.wrap_i64]
    omega
  simp [OpV, execOp, hx, hy, eqGuard, binOp, Op.intBits]
  exact key
theorem opv_or (hx : evalE ρ x = .int .i64 a) (hy : evalE ρ y = .int .i64 b) (h : 0 ≤ a ∧ a ≤ 9223372036854775807 ∧ 0 ≤ b ∧ b ≤ 9223372036854775807) :
    OpV P (.binOp .or t x y t') ty ρ w (.int .i64 ((a.toNat ||| b.toNat : Nat) : Int)) := by
  obtain ⟨A, rfl⟩ := Int.eq_ofNat_of_zero_le h.1
  obtain ⟨B, rfl⟩ := Int.eq_ofNat_of_zero_le h.2.2.1
  have hx' : A ||| B < 2 ^ 63 := Nat.or_lt_two_pow (by omega) (by omega)
  have key : IntKind.i64.wrap ((BitVec.ofInt 64 (A : Int) ||| BitVec.ofInt 64 (B : Int)).toNat : Int) = ((A ||| B : Nat) : Int) := by
    have e1 : (BitVec.ofInt 64 (A : Int)).toNat = A := by simp; omega
    have e2 : (BitVec.ofInt 64 (B : Int)).toNat = B := by simp; omega
    rw [BitVec.toNat_or, e1, e2, IntKind.wrap_i64]
    omega
  simp [OpV, execOp, hx, hy, eqGuard, binOp, Op.intBits]
  exact key
/-- 0 or 1, shifted. -/
theorem opv_shl {k : IntKind} (hx : evalE ρ x = .int .i64 a) (hy : evalE ρ y = .int k b) (h : 0 ≤ a ∧ a ≤ 1 ∧ 0 ≤ b ∧ b ≤ 60) :
    OpV P (.binOp .shl t x y t') ty ρ w (.int .i64 ((a.toNat <<< b.toNat : Nat) : Int)) := by
  obtain ⟨A, rfl⟩ := Int.eq_ofNat_of_zero_le h.1
  obtain ⟨B, rfl⟩ := Int.eq_ofNat_of_zero_le h.2.2.1
  have hB : (2 : Nat) ^ B ≤ 2 ^ 60 := Nat.pow_le_pow_right (by omega) (by omega)
  have key : IntKind.i64.wrap ((A : Int) * 2 ^ B) = ((A <<< B : Nat) : Int) := by
    rw [Nat.shiftLeft_eq, IntKind.wrap_i64]
    have e : ((2 : Int) ^ B) = ((2 ^ B : Nat) : Int) := by simp
    rw [e]
    generalize (2 : Nat) ^ B = q at hB
    have hA : A = 0 ∨ A = 1 := by omega
    rcases hA with rfl | rfl
    · simp
    · simp only [Nat.one_mul, Int.natCast_one, Int.one_mul]
      omega
  simp [OpV, execOp, hx, hy, eqGuard, binOp, shift_shl_any, IntKind.bits]
  simpa using key
end Go.Hs
namespace Go.Proofs.YtgphoihilheoeaaGreatDoor
open Go.Hs
set_option maxRecDepth 10000
set_option maxHeartbeats 4000000
set_option linter.unusedVariables false
set_option linter.unusedSimpArgs false
noncomputable def rfV (p : List (List Int)) (z : Int) : List Nat := if Nod p z then rf p z.toNat else []

theorem spec_ReachedFrom_ok (w : World) (v : Value) (p : List (List Int)) (z : Int) (h : ESl Ints w v p) : Does Tryz.prog 78 [v, .int .i64 z] w (RetO w XI (ints (rfV p z))) := by
  have hle := h.le
  by_cases hp : Pic p
  · have hpic : ∀ (w : World) (pv : Value), ESl Ints w pv p → Does Tryz.prog 52 [pv] w (Ret w (.bool true)) := fun w pv h => by
      have := PictureOk_ok w pv p h
      rw [decide_eq_true hp] at this; exact this
    by_cases hz : 0 ≤ z ∧ z < p.length
    · have hV : rfV p z = rf p z.toNat := if_pos ⟨hp, hz⟩
      rw [hV]
      obtain ⟨i, rfl⟩ := Int.eq_ofNat_of_zero_le hz.1
      have hi : i < p.length := by omega
      have hp5 := hp.2.1
      have h2 := pow_le5 (k := p.length) (by omega)
      have hsli := shl_le (g := 1) (k := i) (by omega) (by omega)
      have e0 : ((i : Int)).toNat = i := rfl
      rw [e0]
      have h1p : ∀ j, j < p.length → 1 <<< j < 2 ^ p.length := fun j hj => by rw [Nat.one_shiftLeft]; exact Nat.pow_lt_pow_right (by omega) hj
      have h1b : ∀ j k, (1 <<< j).testBit k = decide (j = k) := fun j k => by rw [Nat.one_shiftLeft, Nat.testBit_two_pow]
      refine fn_of_W1 Tryz.func78 rfl Tryz.results78 Tryz.ntmps78 rfl ?_
      focus
        refine W_seq ?_; refine W_region rfl ?_; refine Wo rfl (opv_assign (v := .slice _ _ _) rfl) ?_; refine Wo_nil ?_; refine W_seq ?_; refine W_region rfl ?_; refine Wo_lit0 XInt rfl el58 Tryz.sizeOf3 ?_; rintro b1 w1 hb1 b1lt E1 hO1
        have hs1 := E1.size; refine Wo rfl (opv_assign (v := .slice _ _ _) rfl) ?_; refine Wo_nil ?_; refine W_seq ?_; refine W_seq ?_; refine W_region rfl ?_; refine Wo rfl (opv_move (v := v) rfl) ?_
        refine Wo_call rfl (opc1 (a := v) Tryz.call52 rfl) (hpic _ _ ((Mono.mono E1 h))) ?_; rintro _ w2 ⟨rfl, E2⟩; have hs2 := E2.size; refine Wo rfl (opv_not rfl) ?_
        refine Wo_split rfl (opv_move (v := .bool _) rfl) (fun h1 => ?_) (fun h1 => ?_); contradiction; refine Wo rfl (opv_move (v := .int _ _) rfl) ?_; refine Wo rfl (opv_move (v := v) rfl) ?_
        refine Wo rfl (opv_len Tryz.underlying22 rfl h) ?_; refine Wo rfl (opv_sub rfl rfl (by omega)) ?_; refine Wo_call rfl (opc3 (a := .int _ _) (b := .int _ _) (c := .int _ _) Tryz.call53 rfl rfl rfl) (l1In_ok _ _ _ _) ?_
        rintro _ w3 ⟨rfl, E3⟩; have hs3 := E3.size; refine Wo rfl (opv_not rfl) ?_; refine Wo rfl (opv_pick_f (v := .bool _) rfl rfl) ?_; refine Wo_nil ?_; refine W_cond_ndec rfl (fun h3 => ?_) (fun h3 => ?_); (exfalso; omega)
        refine W_skip ?_; refine W_seq ?_; refine W_region rfl ?_; refine Wo rfl (opv_move (v := .int _ _) rfl) ?_; refine Wo rfl (opv_shl rfl rfl (by omega)) ?_; refine Wo rfl (opv_assign (v := .int _ _) rfl) ?_; refine Wo_nil ?_
        refine W_seq ?_; refine W_seq ?_; refine W_region rfl ?_; refine Wo rfl (opv_assign (v := .int _ _) rfl) ?_; refine Wo_nil ?_; refine W_block ?_
      refine W_loop [6, 7, 8, 9, 26, 27, 28, 29, 30, 31, 32, 33, 34, 35, 36, 37, 38, 39, 40, 41, 42, 43, 44, 45, 46, 47, 48, 49, 50, 51, 52, 53, 54, 55, 56, 57, 58, 59, 60, 61, 62] (fun (n, M) => [(7, .int .i64 (n : Nat)), (6, .int .i64 (M : Nat))]) (fun (n, M) w' => w' = w3 ∧ n ≤ p.length ∧ M < 2 ^ p.length ∧ (∀ j, st p i n j → M.testBit j = true) ∧ (∀ j, M.testBit j = true → Rch p i j)) (fun x => p.length - x.1) (0, 1 <<< i) (by repeat (first | exact trivial | refine And.intro rfl ?_)) ?_ ?_
      · refine ⟨rfl, Nat.zero_le _, h1p i hi, fun j hj => ?_, fun j hj => ?_⟩
        · rw [show j = i from hj, h1b]; simp
        · rw [h1b] at hj; rw [← of_decide_eq_true hj]; exact .refl _
      rintro ⟨n, M⟩ ρj w4 ⟨rfl, hn, hM, hC, hS⟩
      by_cases hnl : n < p.length
      · focus
          have szE3 := E3.size; have szE2 := E2.size; have szE1 := E1.size; refine W_seq ?_; refine W_seq ?_; refine W_region rfl ?_; refine Wo rfl (opv_move (v := .int _ _) rfl) ?_; refine Wo rfl (opv_move (v := v) rfl) ?_
          refine Wo rfl (opv_len Tryz.underlying22 rfl h) ?_; refine Wo rfl (opv_lss rfl rfl) ?_; refine Wo_nil ?_; refine W_cond_dec rfl (fun h4 => ?_) (fun h4 => ?_); refine W_skip ?_; refine W_seq ?_; refine W_block ?_; refine W_seq ?_
          refine W_region rfl ?_; refine Wo rfl (opv_assign (v := .int _ _) rfl) ?_; refine Wo_nil ?_; refine W_block ?_; rotate_left; (exfalso; omega)
        refine W_loop [6, 8, 9, 32, 33, 34, 35, 36, 37, 38, 39, 40, 41, 42, 43, 44, 45, 46, 47, 48, 49, 50, 51, 52, 53, 54, 55, 56, 57, 58, 59, 60, 61, 62] (fun (k, M) => [(8, .int .i64 (k : Nat)), (6, .int .i64 (M : Nat))]) (fun (k, M) w' => w' = w4 ∧ k ≤ p.length ∧ M < 2 ^ p.length ∧ (∀ j, st p i n j → M.testBit j = true) ∧ (∀ j, M.testBit j = true → Rch p i j) ∧ ∀ k', k' < k → st p i n k' → ∀ j ∈ arr p k', M.testBit j = true) (fun x => p.length - x.1) (0, M) (by repeat (first | exact trivial | refine And.intro rfl ?_)) ?_ ?_
        · exact ⟨rfl, Nat.zero_le _, hM, hC, hS, fun k' hk' => by omega⟩
        clear hM hC hS
        rintro ⟨k, M⟩ ρk w5 ⟨rfl, hk, hM, hC, hS, hK⟩
        by_cases hkl : k < p.length
        · have hrow := hp.row hkl
          focus
            have szE3 := E3.size; have szE2 := E2.size; have szE1 := E1.size; refine W_seq ?_; refine W_seq ?_; refine W_region rfl ?_; refine Wo rfl (opv_move (v := .int _ _) rfl) ?_; refine Wo rfl (opv_move (v := v) rfl) ?_
            refine Wo rfl (opv_len Tryz.underlying22 rfl h) ?_; refine Wo rfl (opv_lss rfl rfl) ?_; refine Wo_nil ?_; refine W_cond_dec rfl (fun h5 => ?_) (fun h5 => ?_); refine W_skip ?_; refine W_seq ?_; refine W_block ?_; refine W_seq ?_
            refine W_region rfl ?_; refine Wo rfl (opv_assign (v := .int _ _) rfl) ?_; refine Wo_nil ?_; refine W_block ?_; rotate_left; (exfalso; omega)
          refine W_loop [6, 9, 38, 39, 40, 41, 42, 43, 44, 45, 46, 47, 48, 49, 50, 51, 52, 53, 54, 55, 56, 57, 58, 59, 60, 61, 62] (fun (j, M) => [(9, .int .i64 (j : Nat)), (6, .int .i64 (M : Nat))]) (fun (j, M) w' => w' = w5 ∧ j ≤ p.length ∧ M < 2 ^ p.length ∧ (∀ j, st p i n j → M.testBit j = true) ∧ (∀ j, M.testBit j = true → Rch p i j) ∧ (∀ k', k' < k → st p i n k' → ∀ j ∈ arr p k', M.testBit j = true) ∧ ∀ j', j' < j → st p i n k → j' ∈ arr p k → M.testBit j' = true) (fun x => p.length - x.1) (0, M) (by repeat (first | exact trivial | refine And.intro rfl ?_)) ?_ ?_
          · exact ⟨rfl, Nat.zero_le _, hM, hC, hS, hK, fun j' hj' => by omega⟩
          clear hM hC hS hK
          rintro ⟨j, M⟩ ρl w6 ⟨rfl, hj, hM, hC, hS, hK, hJ⟩
          by_cases hjl : j < p.length
          · have hgd := getD_lt (l := p[k]) (i := j) (d := 0) (by omega)
            have hsm := shr_mod M k
            have hsl := shl_le (g := 1) (k := j) (by omega) (by omega)
            have hsl0 : (0 : Int) ≤ ((1 <<< j : Nat) : Int) := Int.natCast_nonneg _
            have hma := mem_arr (j := j) hp hkl
            have hbit : bit p k j = p[k][j] := by unfold bit; rw [getD_lt hkl, hgd]
            rw [hbit] at hma
            focus
              have szE3 := E3.size; have szE2 := E2.size; have szE1 := E1.size; refine W_seq ?_; refine W_seq ?_; refine W_region rfl ?_; refine Wo rfl (opv_move (v := .int _ _) rfl) ?_; refine Wo rfl (opv_move (v := v) rfl) ?_
              refine Wo rfl (opv_len Tryz.underlying22 rfl h) ?_; refine Wo rfl (opv_lss rfl rfl) ?_; refine Wo_nil ?_; refine W_cond_dec rfl (fun h6 => ?_) (fun h6 => ?_); refine W_skip ?_; refine W_seq ?_; refine W_block ?_; refine W_seq ?_
              refine W_region rfl ?_; refine Wo rfl (opv_move (v := .int _ _) rfl) ?_; refine Wo rfl (opv_move (v := .int _ _) rfl) ?_; refine Wo rfl (opv_shr rfl rfl (by omega)) ?_
              refine Wo rfl (opv_rem rfl rfl ⟨Int.natCast_nonneg _, by omega⟩) ?_; refine Wo rfl (opv_eql rfl rfl) ?_; refine Wo_split_dec rfl (opv_move (v := .bool _) rfl) (fun h7 => ?_) (fun h7 => ?_); refine Wo rfl (opv_move (v := v) rfl) ?_
              refine Wo rfl (opv_move (v := .int _ _) rfl) ?_; refine Wo_get Tryz.underlying22 Tryz.sizeOf58 Tryz.isAgg58 rfl (fun _ => rfl) rfl h ((E1.trans E2).trans E3) rfl (by first | omega | (simp <;> omega)) ?_; rintro _ u1 hu1
              refine Wo rfl (opv_move (v := .int _ _) rfl) ?_; refine Wo_get Tryz.underlying58 Tryz.sizeOf3 Tryz.isAgg3 rfl (fun _ => rfl) rfl hu1 ((E1.trans E2).trans E3) rfl (by first | omega | (simp <;> omega)) ?_; rintro _ _ rfl
              refine Wo rfl (opv_eql rfl rfl) ?_; refine Wo rfl (opv_pick_t (v := .bool _) rfl rfl) ?_; refine Wo_nil ?_; refine W_cond_dec rfl (fun h8 => ?_) (fun h8 => ?_); refine W_region rfl ?_; refine Wo rfl (opv_move (v := .int _ _) rfl) ?_
              refine Wo rfl (opv_move (v := .int _ _) rfl) ?_; refine Wo rfl (opv_shl rfl rfl (by omega)) ?_
              refine Wo rfl (opv_or rfl rfl ⟨Int.natCast_nonneg _, by omega, Int.natCast_nonneg _, Int.le_trans (Int.ofNat_le.2 (show _ ≤ 4096 by assumption)) (by decide)⟩) ?_; refine Wo rfl (opv_assign (v := .int _ _) rfl) ?_; refine Wo_nil ?_
              refine W_region rfl ?_; refine Wo rfl (opv_move (v := .int _ _) rfl) ?_; refine Wo rfl (opv_add rfl rfl (by omega)) ?_; refine Wo rfl (opv_assign (v := .int _ _) rfl) ?_; refine Wo_nil ?_; rotate_left; refine W_skip ?_
              refine W_region rfl ?_; refine Wo rfl (opv_move (v := .int _ _) rfl) ?_; refine Wo rfl (opv_add rfl rfl (by omega)) ?_; refine Wo rfl (opv_assign (v := .int _ _) rfl) ?_; refine Wo_nil ?_; rotate_left; refine Wo_skip rfl ?_
              refine Wo_skip rfl ?_; refine Wo_skip rfl ?_; refine Wo_skip rfl ?_; refine Wo_skip rfl ?_; refine Wo_skip rfl ?_; refine Wo_skip rfl ?_; refine Wo_skip rfl ?_; refine Wo rfl (opv_pick_f (v := .bool _) rfl rfl) ?_; refine Wo_nil ?_
              refine W_cond_false rfl ?_; refine W_skip ?_; refine W_region rfl ?_; refine Wo rfl (opv_move (v := .int _ _) rfl) ?_; refine Wo rfl (opv_add rfl rfl (by omega)) ?_; refine Wo rfl (opv_assign (v := .int _ _) rfl) ?_
              refine Wo_nil ?_; rotate_left; (exfalso; omega)
            · have h9 : ((M >>> k : Nat) : Int) % 2 = 1 := by assumption
              have hb : p[k][j] = 1 := by assumption
              have hMk : M.testBit k = true := by
                cases hc : M.testBit k with
                | true => rfl
                | false => rw [hc, if_neg Bool.false_ne_true] at hsm; omega
              have hor : ∀ x, (M ||| 1 <<< j).testBit x = (M.testBit x || decide (j = x)) := fun x => by rw [Nat.testBit_or, h1b]
              refine ⟨((j + 1, M ||| 1 <<< j)), by repeat (first | exact trivial | refine And.intro rfl ?_), by repeat (first | with_reducible exact Same.refl | refine Same.upd rfl ?_ | refine Same.upds rfl ?_ | refine Same.mix rfl ?_), ?_, ?_⟩
              · refine ⟨rfl, by omega, Nat.or_lt_two_pow hM (h1p j hjl), fun x hx => by rw [hor, hC x hx]; rfl, fun x hx => ?_, fun k' hk' hs x hx => by rw [hor, hK k' hk' hs x hx]; rfl, fun x hx hs hm => ?_⟩
                · rw [hor] at hx
                  by_cases e : j = x
                  · subst e; exact (hS k hMk).step (hma.2 ⟨hjl, hb⟩)
                  · rw [decide_eq_false e, Bool.or_false] at hx; exact hS x hx
                · rw [hor]
                  by_cases e : j = x
                  · rw [decide_eq_true e]; simp
                  · rw [hJ x (by omega) hs hm]; rfl
              · simp only; omega
            · have hb : ¬ p[k][j] = 1 := by assumption
              refine ⟨((j + 1, M)), by repeat (first | exact trivial | refine And.intro rfl ?_), by repeat (first | with_reducible exact Same.refl | refine Same.upd rfl ?_ | refine Same.upds rfl ?_ | refine Same.mix rfl ?_), ?_, ?_⟩
              · refine ⟨rfl, by omega, hM, hC, hS, hK, fun x hx hs hm => ?_⟩
                by_cases e : j = x
                · subst e; exact absurd (hma.1 hm).2 hb
                · exact hJ x (by omega) hs hm
              · simp only; omega
            · have h9 : ¬ ((M >>> k : Nat) : Int) % 2 = 1 := by assumption
              have hMk : ¬ M.testBit k = true := fun hc => by
                rw [hc, if_pos rfl] at hsm; omega
              refine ⟨((j + 1, M)), by repeat (first | exact trivial | refine And.intro rfl ?_), by repeat (first | with_reducible exact Same.refl | refine Same.upd rfl ?_ | refine Same.upds rfl ?_ | refine Same.mix rfl ?_), ?_, ?_⟩
              · refine ⟨rfl, by omega, hM, hC, hS, hK, fun x hx hs hm => absurd (hC k hs) hMk⟩
              · simp only; omega
          · obtain rfl : j = p.length := by omega
            focus
              have szE3 := E3.size; have szE2 := E2.size; have szE1 := E1.size; refine W_seq ?_; refine W_seq ?_; refine W_region rfl ?_; refine Wo rfl (opv_move (v := .int _ _) rfl) ?_; refine Wo rfl (opv_move (v := v) rfl) ?_
              refine Wo rfl (opv_len Tryz.underlying22 rfl h) ?_; refine Wo rfl (opv_lss rfl rfl) ?_; refine Wo_nil ?_; refine W_cond_dec rfl (fun h6 => ?_) (fun h6 => ?_); (exfalso; omega); refine W_exit ?_; refine exitX_same ?_
              refine W_region rfl ?_; refine Wo rfl (opv_move (v := .int _ _) rfl) ?_; refine Wo rfl (opv_add rfl rfl (by omega)) ?_; refine Wo rfl (opv_assign (v := .int _ _) rfl) ?_; refine Wo_nil ?_
            refine ⟨((k + 1, M)), by repeat (first | exact trivial | refine And.intro rfl ?_), by repeat (first | with_reducible exact Same.refl | refine Same.upd rfl ?_ | refine Same.upds rfl ?_ | refine Same.mix rfl ?_), ?_, ?_⟩
            · refine ⟨rfl, by omega, hM, hC, hS, fun k' hk' hs x hx => ?_⟩
              by_cases e : k' = k
              · subst e; exact hJ x ((mem_arr hp hkl).1 hx).1 hs hx
              · exact hK k' (by omega) hs x hx
            · simp only; omega
        · obtain rfl : k = p.length := by omega
          focus
            have szE3 := E3.size; have szE2 := E2.size; have szE1 := E1.size; refine W_seq ?_; refine W_seq ?_; refine W_region rfl ?_; refine Wo rfl (opv_move (v := .int _ _) rfl) ?_; refine Wo rfl (opv_move (v := v) rfl) ?_
            refine Wo rfl (opv_len Tryz.underlying22 rfl h) ?_; refine Wo rfl (opv_lss rfl rfl) ?_; refine Wo_nil ?_; refine W_cond_dec rfl (fun h5 => ?_) (fun h5 => ?_); (exfalso; omega); refine W_exit ?_; refine exitX_same ?_
            refine W_region rfl ?_; refine Wo rfl (opv_move (v := .int _ _) rfl) ?_; refine Wo rfl (opv_add rfl rfl (by omega)) ?_; refine Wo rfl (opv_assign (v := .int _ _) rfl) ?_; refine Wo_nil ?_
          refine ⟨((n + 1, M)), by repeat (first | exact trivial | refine And.intro rfl ?_), by repeat (first | with_reducible exact Same.refl | refine Same.upd rfl ?_ | refine Same.upds rfl ?_ | refine Same.mix rfl ?_), ?_, ?_⟩
          · refine ⟨rfl, by omega, hM, fun x hx => ?_, hS⟩
            rcases hx with hx | ⟨k', h9, h10⟩
            · exact hC x hx
            · exact hK k' ((st_rch h9).lt hp hi) h9 x h10
          · simp only; omega
      · obtain rfl : n = p.length := by omega
        have hb : ∀ k, M.testBit k = rch p i k := fun k => by
          cases hc : rch p i k with
          | true => exact hC k (rch_st hp hi (rch_iff.1 hc))
          | false => cases hd : M.testBit k with
            | true => rw [rch_iff.2 (hS k hd)] at hc; cases hc
            | false => rfl
        clear hC hS
        focus
          have szE3 := E3.size; have szE2 := E2.size; have szE1 := E1.size; refine W_seq ?_; refine W_seq ?_; refine W_region rfl ?_; refine Wo rfl (opv_move (v := .int _ _) rfl) ?_; refine Wo rfl (opv_move (v := v) rfl) ?_
          refine Wo rfl (opv_len Tryz.underlying22 rfl h) ?_; refine Wo rfl (opv_lss rfl rfl) ?_; refine Wo_nil ?_; refine W_cond_dec rfl (fun h4 => ?_) (fun h4 => ?_); (exfalso; omega); refine W_exit ?_; refine exitX_same ?_; refine W_seq ?_
          refine W_seq ?_; refine W_region rfl ?_; refine Wo rfl (opv_assign (v := .int _ _) rfl) ?_; refine Wo_nil ?_; refine W_block ?_
        refine W_loop [5, 10, 63, 64, 65, 66, 67, 68, 69, 70, 71, 72, 73, 74, 75, 76, 77] (fun (k, u) => [(10, .int .i64 (k : Nat)), (5, u)]) (fun (k, u) w' => Ext w w' ∧ k ≤ p.length ∧ Owned w.heap.size XI w' u (ints ((List.range k).filter (rch p i)))) (fun x => p.length - x.1) (0, .slice (some ⟨b1, 0, none⟩) 0 0) (by repeat (first | exact trivial | refine And.intro rfl ?_)) ?_ ?_
        · exact ⟨(E1.trans E2).trans E3, Nat.zero_le _, by simpa [ints] using hO1.ext (E2.trans E3)⟩
        rintro ⟨k, u⟩ ρk w5 ⟨E5, hk, hO5⟩
        have hll : (ints ((List.range k).filter (rch p i))).length ≤ k := by
          rw [ints_len]; exact Nat.le_trans (List.length_filter_le _ _) (by simp)
        have hfs := filter_range_succ (rch p i) k
        have hsm := shr_mod M k
        by_cases hlt : k < p.length
        · rw [hb k] at hsm
          focus
            have szE5 := E5.size; have szE3 := E3.size; have szE2 := E2.size; have szE1 := E1.size; refine W_seq ?_; refine W_seq ?_; refine W_region rfl ?_; refine Wo rfl (opv_move (v := .int _ _) rfl) ?_
            refine Wo rfl (opv_move (v := v) rfl) ?_; refine Wo rfl (opv_len Tryz.underlying22 rfl h) ?_; refine Wo rfl (opv_lss rfl rfl) ?_; refine Wo_nil ?_; refine W_cond_dec rfl (fun h5 => ?_) (fun h5 => ?_); refine W_skip ?_
            refine W_seq ?_; refine W_block ?_; refine W_seq ?_; refine W_region rfl ?_; refine Wo rfl (opv_move (v := .int _ _) rfl) ?_; refine Wo rfl (opv_move (v := .int _ _) rfl) ?_; refine Wo rfl (opv_shr rfl rfl (by omega)) ?_
            refine Wo rfl (opv_rem rfl rfl ⟨Int.natCast_nonneg _, by omega⟩) ?_; refine Wo rfl (opv_eql rfl rfl) ?_; refine Wo_nil ?_; refine W_cond_dec rfl (fun h6 => ?_) (fun h6 => ?_); refine W_region rfl ?_
            refine Wo rfl (opv_move (v := u) rfl) ?_; refine Wo rfl (opv_move (v := .int _ _) rfl) ?_; refine Wo_buildSlice (ps := [(0, .int _ _)]) (cs := [_]) rfl Tryz.underlying58 Tryz.sizeOf3 Tryz.zeroValue3 rfl rfl rfl rfl ?_
            rintro b2 w3 hb2 E4 hB1; have hlb2 := hB1.lt; have hs4 := E4.size
            refine Wo_app1 rfl el58 rfl rfl hB1 (hO5.toB.ext E4) Owned.int (Nat.le_refl _) (by first | omega | (simp <;> omega)) (by omega) (by omega) (E5.trans E4) (by omega) ?_; have hT1 := (hO5.toB.ext E4); rintro v1 w6 hO5 E6 M1
            have hB1 := hB1.moves M1 hT1 (by omega); have hs5 := E6.size; refine Wo rfl (opv_assign (v := v1) rfl) ?_; refine Wo_nil ?_; refine W_region rfl ?_; refine Wo rfl (opv_move (v := .int _ _) rfl) ?_
            refine Wo rfl (opv_add rfl rfl (by omega)) ?_; refine Wo rfl (opv_assign (v := .int _ _) rfl) ?_; refine Wo_nil ?_; rotate_left; refine W_skip ?_; refine W_region rfl ?_; refine Wo rfl (opv_move (v := .int _ _) rfl) ?_
            refine Wo rfl (opv_add rfl rfl (by omega)) ?_; refine Wo rfl (opv_assign (v := .int _ _) rfl) ?_; refine Wo_nil ?_; rotate_left; (exfalso; omega)
          · have h1 : ((M >>> k : Nat) : Int) % 2 = 1 := by assumption
            have hf : rch p i k = true := by
              cases hc : rch p i k with
              | true => rfl
              | false => rw [hc, if_neg Bool.false_ne_true] at hsm; omega
            refine ⟨((k + 1, v1)), by repeat (first | exact trivial | refine And.intro rfl ?_), by repeat (first | with_reducible exact Same.refl | refine Same.upd rfl ?_ | refine Same.upds rfl ?_ | refine Same.mix rfl ?_), ?_, ?_⟩
            · refine ⟨by assumption, by omega, ?_⟩
              rw [hfs, if_pos hf, ints_append]
              assumption
            · simp only; omega
          · have h1 : ¬ ((M >>> k : Nat) : Int) % 2 = 1 := by assumption
            have hf : rch p i k = false := by
              cases hc : rch p i k with
              | false => rfl
              | true => rw [hc, if_pos rfl] at hsm; omega
            refine ⟨((k + 1, u)), by repeat (first | exact trivial | refine And.intro rfl ?_), by repeat (first | with_reducible exact Same.refl | refine Same.upd rfl ?_ | refine Same.upds rfl ?_ | refine Same.mix rfl ?_), ?_, ?_⟩
            · refine ⟨by assumption, by omega, ?_⟩
              rw [hfs, if_neg (by rw [hf]; exact Bool.false_ne_true), List.append_nil]
              assumption
            · simp only; omega
        · obtain rfl : k = p.length := by omega
          focus
            have szE5 := E5.size; have szE3 := E3.size; have szE2 := E2.size; have szE1 := E1.size; refine W_seq ?_; refine W_seq ?_; refine W_region rfl ?_; refine Wo rfl (opv_move (v := .int _ _) rfl) ?_
            refine Wo rfl (opv_move (v := v) rfl) ?_; refine Wo rfl (opv_len Tryz.underlying22 rfl h) ?_; refine Wo rfl (opv_lss rfl rfl) ?_; refine Wo_nil ?_; refine W_cond_dec rfl (fun h5 => ?_) (fun h5 => ?_); contradiction; refine W_exit ?_
            refine exitX_same ?_; refine W_seq ?_; refine W_region rfl ?_; refine Wo rfl (opv_move (v := u) rfl) ?_; refine Wo rfl (opv_assign (v := u) rfl) ?_; refine Wo_nil ?_; refine W_ret ?_; exact ⟨E5, hO5.toB.o.mono (by omega)⟩
    · have hV : rfV p z = [] := if_neg (fun h => hz h.2)
      rw [hV]
      refine fn_of_W1 Tryz.func78 rfl Tryz.results78 Tryz.ntmps78 rfl ?_
      focus
        refine W_seq ?_; refine W_region rfl ?_; refine Wo rfl (opv_assign (v := .slice _ _ _) rfl) ?_; refine Wo_nil ?_; refine W_seq ?_; refine W_region rfl ?_; refine Wo_lit0 XInt rfl el58 Tryz.sizeOf3 ?_; rintro b1 w1 hb1 b1lt E1 hO1
        have hs1 := E1.size; refine Wo rfl (opv_assign (v := .slice _ _ _) rfl) ?_; refine Wo_nil ?_; refine W_seq ?_; refine W_seq ?_; refine W_region rfl ?_; refine Wo rfl (opv_move (v := v) rfl) ?_
        refine Wo_call rfl (opc1 (a := v) Tryz.call52 rfl) (hpic _ _ ((Mono.mono E1 h))) ?_; rintro _ w2 ⟨rfl, E2⟩; have hs2 := E2.size; refine Wo rfl (opv_not rfl) ?_
        refine Wo_split rfl (opv_move (v := .bool _) rfl) (fun h1 => ?_) (fun h1 => ?_); contradiction; refine Wo rfl (opv_move (v := .int _ _) rfl) ?_; refine Wo rfl (opv_move (v := v) rfl) ?_
        refine Wo rfl (opv_len Tryz.underlying22 rfl h) ?_; refine Wo rfl (opv_sub rfl rfl (by omega)) ?_; refine Wo_call rfl (opc3 (a := .int _ _) (b := .int _ _) (c := .int _ _) Tryz.call53 rfl rfl rfl) (l1In_ok _ _ _ _) ?_
        rintro _ w3 ⟨rfl, E3⟩; have hs3 := E3.size; refine Wo rfl (opv_not rfl) ?_; refine Wo rfl (opv_pick_f (v := .bool _) rfl rfl) ?_; refine Wo_nil ?_; refine W_cond_ndec rfl (fun h2 => ?_) (fun h2 => ?_); refine W_seq ?_
        refine W_region rfl ?_; refine Wo rfl (opv_move (v := .slice _ _ _) rfl) ?_; refine Wo rfl (opv_assign (v := .slice _ _ _) rfl) ?_; refine Wo_nil ?_; refine W_ret ?_
        exact ⟨((E1.trans E2).trans E3), (hO1.toB.ext (E2.trans E3)).o.mono (by omega)⟩; (exfalso; omega)
  · have hpic : ∀ (w : World) (pv : Value), ESl Ints w pv p → Does Tryz.prog 52 [pv] w (Ret w (.bool false)) := fun w pv h => by
      have := PictureOk_ok w pv p h
      rw [decide_eq_false hp] at this; exact this
    have hV : rfV p z = [] := if_neg (fun h => hp h.1)
    rw [hV]
    refine fn_of_W1 Tryz.func78 rfl Tryz.results78 Tryz.ntmps78 rfl ?_
    focus
      refine W_seq ?_; refine W_region rfl ?_; refine Wo rfl (opv_assign (v := .slice _ _ _) rfl) ?_; refine Wo_nil ?_; refine W_seq ?_; refine W_region rfl ?_; refine Wo_lit0 XInt rfl el58 Tryz.sizeOf3 ?_; rintro b1 w1 hb1 b1lt E1 hO1
      have hs1 := E1.size; refine Wo rfl (opv_assign (v := .slice _ _ _) rfl) ?_; refine Wo_nil ?_; refine W_seq ?_; refine W_seq ?_; refine W_region rfl ?_; refine Wo rfl (opv_move (v := v) rfl) ?_
      refine Wo_call rfl (opc1 (a := v) Tryz.call52 rfl) (hpic _ _ ((Mono.mono E1 h))) ?_; rintro _ w2 ⟨rfl, E2⟩; have hs2 := E2.size; refine Wo rfl (opv_not rfl) ?_
      refine Wo_split rfl (opv_move (v := .bool _) rfl) (fun h1 => ?_) (fun h1 => ?_); refine Wo_skip rfl ?_; refine Wo_skip rfl ?_; refine Wo_skip rfl ?_; refine Wo_skip rfl ?_; refine Wo_skip rfl ?_; refine Wo_skip rfl ?_
      refine Wo rfl (opv_pick_t (v := .bool _) rfl rfl) ?_; refine Wo_nil ?_; refine W_cond_true rfl ?_; refine W_seq ?_; refine W_region rfl ?_; refine Wo rfl (opv_move (v := .slice _ _ _) rfl) ?_
      refine Wo rfl (opv_assign (v := .slice _ _ _) rfl) ?_; refine Wo_nil ?_; refine W_ret ?_; exact ⟨(E1.trans E2), (hO1.toB.ext E2).o.mono (by omega)⟩; contradiction

end Go.Proofs.YtgphoihilheoeaaGreatDoor
namespace Go.Proofs.YtgphoihilheoeaaGreatDoor
open Go.Hs
set_option maxRecDepth 10000
set_option maxHeartbeats 4000000
set_option linter.unusedVariables false
set_option linter.unusedSimpArgs false

theorem Index_ok (w : World) (v : Value) (xs : List Int) (h : Ints w v xs) (n : Int) :
    Does Tryz.prog 75 [v, .int .i64 n] w (RetX w (Value.int .i64) (fun z _ => (z = -1 ∧ n ∉ xs) ∨ (0 ≤ z ∧ n ∈ xs))) := by
  have hle := h.le
  refine fn_of_W1 Tryz.func75 rfl Tryz.results75 Tryz.ntmps75 rfl ?_
  focus
    refine W_seq ?_; refine W_region rfl ?_; refine Wo rfl (opv_assign (v := .int _ _) rfl) ?_; refine Wo_nil ?_; refine W_seq ?_; refine W_seq ?_; refine W_region rfl ?_; refine Wo rfl (opv_move (v := v) rfl) ?_
    refine Wo rfl (opv_len Tryz.underlying58 rfl h) ?_; refine Wo rfl (opv_move (v := .int _ _) rfl) ?_; refine Wo_nil ?_; refine W_block ?_
  refine W_loop [4, 5, 8, 9, 10, 11, 12, 13, 14, 15, 16, 17, 18] (fun (k : Nat) => [(8, .int .i64 (k : Nat))]) (fun k w' => Ext w w' ∧ k ≤ xs.length ∧ n ∉ xs.take k) (fun x => xs.length - x) 0 (by repeat (first | exact trivial | refine And.intro rfl ?_)) ?_ ?_
  · exact ⟨Ext.refl _, Nat.zero_le _, by simp⟩
  rintro k ρj w1 ⟨E1, hk, hg⟩
  by_cases hlt : k < xs.length
  · have hmem := List.getElem_mem hlt
    focus
      have szE1 := E1.size; refine W_seq ?_; refine W_region rfl ?_; refine Wo rfl (opv_lss rfl rfl) ?_; refine Wo_nil ?_; refine W_seq ?_; refine W_cond_dec rfl (fun h1 => ?_) (fun h1 => ?_); refine W_skip ?_; refine W_seq ?_
      refine W_block ?_; refine W_seq ?_; refine W_region rfl ?_; refine Wo rfl (opv_move (v := .int _ _) rfl) ?_; refine Wo rfl (opv_assign (v := .int _ _) rfl) ?_; refine Wo_nil ?_; refine W_seq ?_; refine W_region rfl ?_
      refine Wo rfl (opv_move (v := .int _ _) rfl) ?_; refine Wo rfl (opv_move (v := v) rfl) ?_; refine Wo rfl (opv_move (v := .int _ _) rfl) ?_
      refine Wo_get Tryz.underlying58 Tryz.sizeOf3 Tryz.isAgg3 rfl (fun _ => rfl) rfl h E1 rfl (by first | omega | (simp <;> omega)) ?_; rintro _ _ rfl; refine Wo rfl (opv_eql rfl rfl) ?_; refine Wo_nil ?_
      refine W_cond_dec rfl (fun h2 => ?_) (fun h2 => ?_); refine W_seq ?_; refine W_region rfl ?_; refine Wo rfl (opv_move (v := .int _ _) rfl) ?_; refine Wo rfl (opv_assign (v := .int _ _) rfl) ?_; refine Wo_nil ?_; refine W_ret ?_
      refine at_ret (v := .int _ _) rfl ?_; refine ⟨E1, _, rfl, ?_⟩; (try dsimp only); rotate_left; refine W_skip ?_; refine W_region rfl ?_; refine Wo rfl (opv_add rfl rfl (by omega)) ?_; refine Wo rfl (opv_move (v := .int _ _) rfl) ?_
      refine Wo_nil ?_; rotate_left; (exfalso; omega)
    · right
      have e : n = xs[k] := by assumption
      exact ⟨by omega, by rw [e]; exact hmem⟩
    · have e : ¬ n = xs[k] := by assumption
      refine ⟨(k + 1), by repeat (first | exact trivial | refine And.intro rfl ?_), by repeat (first | with_reducible exact Same.refl | refine Same.upd rfl ?_ | refine Same.upds rfl ?_ | refine Same.mix rfl ?_), ?_, ?_⟩
      · refine ⟨E1, by omega, ?_⟩
        rw [take_snoc _ _ hlt, List.mem_append]
        rintro (h9 | h9)
        · exact hg h9
        · exact e (List.mem_singleton.1 h9)
      · omega
  · obtain rfl : k = xs.length := by omega
    focus
      have szE1 := E1.size; refine W_seq ?_; refine W_region rfl ?_; refine Wo rfl (opv_lss rfl rfl) ?_; refine Wo_nil ?_; refine W_seq ?_; refine W_cond_dec rfl (fun h1 => ?_) (fun h1 => ?_); (exfalso; omega); refine W_exit ?_
      refine exitX_same ?_; refine W_seq ?_; refine W_region rfl ?_; refine Wo rfl (opv_assign (v := .int _ _) rfl) ?_; refine Wo_nil ?_; refine W_ret ?_; refine at_ret (v := .int _ _) rfl ?_; refine ⟨E1, _, rfl, ?_⟩; (try dsimp only)
    exact .inl ⟨rfl, by simpa using hg⟩

theorem Contains_ok (w : World) (v : Value) (xs : List Int) (h : Ints w v xs) (n : Int) :
    Does Tryz.prog 51 [v, .int .i64 n] w (Ret w (.bool (decide (n ∈ xs)))) := by
  refine fn_of_W1 Tryz.func51 rfl Tryz.results51 Tryz.ntmps51 rfl ?_
  focus
    refine W_seq ?_; refine W_region rfl ?_; refine Wo rfl (opv_assign (v := .bool _) rfl) ?_; refine Wo_nil ?_; refine W_seq ?_; refine W_region rfl ?_; refine Wo rfl (opv_move (v := v) rfl) ?_
    refine Wo rfl (opv_move (v := .int _ _) rfl) ?_; refine Wo_call rfl (opc2 (a := v) (b := .int _ _) Tryz.call75 rfl rfl) (Index_ok _ _ _ (h) _) ?_; rintro _ w1 ⟨E1, y1, rfl, hy1⟩; have hs1 := E1.size
    refine Wo rfl (opv_geq rfl rfl) ?_; refine Wo rfl (opv_assign (v := .bool _) rfl) ?_; refine Wo_nil ?_; refine W_ret ?_; refine at_ret (v := .bool _) rfl ?_; refine ⟨congrArg Value.bool ?_, E1⟩
  rcases hy1 with ⟨rfl, h9⟩ | ⟨h8, h9⟩
  · rw [decide_eq_false h9]; rfl
  · rw [decide_eq_true h9]; exact decide_eq_true h8

theorem reachedFrom_gr (w : World) (v : Value) (p : List (List Int)) (h : ESl Ints w v p) (hp : Gr p) (i : Nat) (hi : i < p.length) : Does Tryz.prog 71 [v, .int .i64 (i : Int)] w (RetO w XI (ints (rf p i))) := by
  have hle := h.le
  have hp5 := hp.2.1
  refine fn_of_W1 Tryz.func71 rfl Tryz.results71 Tryz.ntmps71 rfl ?_
  focus
    refine W_seq ?_; refine W_region rfl ?_; refine Wo rfl (opv_assign (v := .slice _ _ _) rfl) ?_; refine Wo_nil ?_; refine W_seq ?_; refine W_region rfl ?_; refine Wo rfl (opv_move (v := .int _ _) rfl) ?_
    refine Wo_buildSliceH (ps := [(0, .int _ _)]) (cs := [_]) rfl Tryz.underlying58 Tryz.sizeOf3 Tryz.zeroValue3 rfl rfl rfl rfl ?_; rintro b1 w1 hb1 E1 hB1 hHb1; have hlb1 := hB1.lt; have hs1 := E1.size
    refine Wo rfl (opv_assign (v := .slice _ _ _) rfl) ?_; refine Wo_nil ?_; refine W_seq ?_; refine W_seq ?_; refine W_region rfl ?_; refine Wo rfl (opv_assign (v := .int _ _) rfl) ?_; refine Wo_nil ?_; refine W_block ?_
  have hO1 : Owned w.heap.size XI w1 (.slice (some ⟨b1, 0, none⟩) 1 1) (ints [i]) := Owned.block hHb1 hb1 rfl (by decide) ⟨⟨rfl, rfl⟩, trivial⟩
  clear hHb1 hB1
  refine W_loop [5, 6, 8, 11, 12, 13, 14, 15, 16, 17, 18, 19, 20, 21, 22, 23, 24, 25, 26, 27, 28, 29, 30, 31, 32, 33, 34, 35, 36] (fun (t, u, l) => [(6, .int .i64 (t : Nat)), (5, u)]) (fun (t, u, l) w' => Ext w w' ∧ Owned w.heap.size XI w' u (ints l) ∧ t ≤ l.length ∧ l.Nodup ∧ i ∈ l ∧ (∀ j ∈ l, Rch p i j) ∧ ∀ k ∈ l.take t, ∀ j ∈ arr p k, j ∈ l) (fun x => p.length - x.1) (0, .slice (some ⟨b1, 0, none⟩) 1 1, [i]) (by repeat (first | exact trivial | refine And.intro rfl ?_)) ?_ ?_
  · exact ⟨E1, hO1, Nat.zero_le _, by simp, by simp, fun j hj => by rw [List.mem_singleton.1 hj]; exact .refl _, by simp⟩
  rintro ⟨t, u, l⟩ ρj w2 ⟨E2, hO2, ht, hnd, hil, hrl, hcl⟩
  have hll : l.length ≤ p.length := nodup_len hnd fun j hj => (hrl j hj).lt hp hi
  have hil' := ints_len l
  by_cases hlt : t < l.length
  · have hlm := (hrl _ (List.getElem_mem hlt)).lt hp hi
    have hgt : (ints l)[t]'(by omega) = (l[t] : Int) := by simp [ints]
    have harr : ∀ (w1 : World) (pv : Value), ESl Ints w1 pv p → Does Tryz.prog 74 [pv, .int .i64 ((ints l)[t]'(by omega))] w1 (RetO w1 XI (ints (arr p l[t]))) := fun w1 pv h1 => by
      rw [hgt]
      exact arrowsOf_ok w1 pv p h1 (l[t] : Int) ⟨by omega, by omega⟩ (by rw [getD_lt (by omega), hp.row (by omega)]; omega)
    focus
      have szE2 := E2.size; have szE1 := E1.size; refine W_seq ?_; refine W_seq ?_; refine W_region rfl ?_; refine Wo rfl (opv_move (v := .int _ _) rfl) ?_; refine Wo rfl (opv_move (v := u) rfl) ?_
      refine Wo rfl (opv_len Tryz.underlying58 rfl (Owned.read hO2)) ?_; refine Wo rfl (opv_lss rfl rfl) ?_; refine Wo_nil ?_; refine W_cond_dec rfl (fun h1 => ?_) (fun h1 => ?_); refine W_skip ?_; refine W_seq ?_; refine W_block ?_
      refine W_seq ?_; refine W_region rfl ?_; refine Wo rfl (opv_move (v := v) rfl) ?_; refine Wo rfl (opv_move (v := u) rfl) ?_; refine Wo rfl (opv_move (v := .int _ _) rfl) ?_
      refine Wo_get Tryz.underlying58 Tryz.sizeOf3 Tryz.isAgg3 rfl (fun _ => rfl) rfl (Owned.read hO2) (Ext.refl _) rfl (by first | omega | (simp <;> omega)) ?_; rintro _ _ rfl
      refine Wo_call rfl (opc2 (a := v) (b := .int _ _) Tryz.call74 rfl rfl) (harr _ _ ((Mono.mono E2 h))) ?_; rintro u1 w3 ⟨E3, hO3⟩; have hs2 := E3.size; refine Wo rfl (opv_len Tryz.underlying58 rfl (Owned.read hO3)) ?_
      refine Wo rfl (opv_move (v := .int _ _) rfl) ?_; refine Wo_nil ?_; refine W_block ?_; rotate_left; (exfalso; omega)
    have hBe : Besides u.ownBlock Ints w3 u1 (ints (arr p l[t])) := Besides.start hO2 hO3.above
    have hla := ints_len (arr p l[t])
    refine W_loop [5, 8, 24, 25, 26, 27, 28, 29, 30, 31, 32, 33, 34, 35, 36] (fun (m, u', l') => [(24, .int .i64 (m : Nat)), (5, u')]) (fun (m, u', l') w' => Ext w w' ∧ Owned w.heap.size XI w' u' (ints l') ∧ m ≤ (arr p l[t]).length ∧ Besides u'.ownBlock Ints w' u1 (ints (arr p l[t])) ∧ l'.Nodup ∧ i ∈ l' ∧ (∀ j ∈ l', Rch p i j) ∧ (∃ e, l' = l ++ e) ∧ ∀ j ∈ (arr p l[t]).take m, j ∈ l') (fun x => (arr p l[t]).length - x.1) (0, u, l) (by repeat (first | exact trivial | refine And.intro rfl ?_)) ?_ ?_
    · exact ⟨E2.trans E3, hO2.ext E3, Nat.zero_le _, hBe, hnd, hil, hrl, ⟨[], by simp⟩, by simp⟩
    clear hO2 hBe
    rintro ⟨m, u', l'⟩ ρk w4 ⟨E4, hO4, hm, hBe, hnd', hil', hrl', hex, hcm⟩
    have hll' : l'.length ≤ p.length := nodup_len hnd' fun j hj => (hrl' j hj).lt hp hi
    have hlil := ints_len l'
    by_cases hml : m < (arr p l[t]).length
    · have hal : (arr p l[t]).length ≤ 11 := by
        have h8 := arrR_len (p.getD l[t] [])
        rw [getD_lt (by omega), hp.row (by omega)] at h8
        have : (arr p l[t]).length ≤ p.length := by unfold arr; rw [getD_lt (by omega)]; exact h8
        omega
      have hgm := ints_get hml
      have hmm := List.getElem_mem hml
      have hmi := mem_ints (l := l') (x := (arr p l[t])[m])
      rw [← hgm] at hmi
      have hts := take_snoc _ _ hml
      obtain ⟨e, he⟩ := hex
      focus
        have szE4 := E4.size; have szE3 := E3.size; have szE2 := E2.size; have szE1 := E1.size; refine W_seq ?_; refine W_region rfl ?_; refine Wo rfl (opv_lss rfl rfl) ?_; refine Wo_nil ?_; refine W_seq ?_
        refine W_cond_dec rfl (fun h2 => ?_) (fun h2 => ?_); refine W_skip ?_; refine W_seq ?_; refine W_block ?_; refine W_seq ?_; refine W_region rfl ?_
        refine Wo_get Tryz.underlying58 Tryz.sizeOf3 Tryz.isAgg3 rfl (fun _ => rfl) rfl (Besides.here hBe) (Ext.refl _) rfl (by first | omega | (simp <;> omega)) ?_; rintro _ _ rfl; refine Wo rfl (opv_assign (v := .int _ _) rfl) ?_
        refine Wo_nil ?_; refine W_seq ?_; refine W_region rfl ?_; refine Wo rfl (opv_move (v := u') rfl) ?_; refine Wo rfl (opv_move (v := .int _ _) rfl) ?_
        refine Wo_call rfl (opc2 (a := u') (b := .int _ _) Tryz.call51 rfl rfl) (Contains_ok _ _ _ ((Owned.read hO4)) _) ?_; rintro _ w5 ⟨rfl, E5⟩; have hs3 := E5.size; refine Wo rfl (opv_not rfl) ?_; refine Wo_nil ?_
        refine W_cond_ndec rfl (fun h3 => ?_) (fun h3 => ?_); refine W_region rfl ?_; refine Wo rfl (opv_move (v := u') rfl) ?_; refine Wo rfl (opv_move (v := .int _ _) rfl) ?_
        refine Wo_buildSliceH (ps := [(0, .int _ _)]) (cs := [_]) rfl Tryz.underlying58 Tryz.sizeOf3 Tryz.zeroValue3 rfl rfl rfl rfl ?_; rintro b2 w6 hb2 E6 hB1 hHb2; have hlb2 := hB1.lt; have hs4 := E6.size
        refine Wo_app1 rfl el58 rfl rfl hB1 (hO4.toB.ext (E5.trans E6)) Owned.int (Nat.le_refl _) (by first | omega | (simp <;> omega)) (by omega) (by omega) ((E4.trans E5).trans E6) (by omega) ?_; have hT1 := (hO4.toB.ext (E5.trans E6))
        rintro v1 w7 hO4 E7 M1; have hBe := (hBe.ext (E5.trans E6)).moves M1; have hB1 := hB1.moves M1 hT1 (by omega); have hs5 := E7.size; refine Wo rfl (opv_assign (v := v1) rfl) ?_; refine Wo_nil ?_; refine W_region rfl ?_
        refine Wo rfl (opv_add rfl rfl (by omega)) ?_; refine Wo rfl (opv_move (v := .int _ _) rfl) ?_; refine Wo_nil ?_; rotate_left; refine W_skip ?_; refine W_region rfl ?_; refine Wo rfl (opv_add rfl rfl (by omega)) ?_
        refine Wo rfl (opv_move (v := .int _ _) rfl) ?_; refine Wo_nil ?_; rotate_left; (exfalso; omega)
      · have hno : ¬ (arr p l[t])[m] ∈ l' := fun h9 => by
          have h10 : ¬ (ints (arr p l[t]))[m]'(by omega) ∈ ints l' := by assumption
          exact h10 (hmi.2 h9)
        refine ⟨((m + 1, v1, l' ++ [(arr p l[t])[m]])), by repeat (first | exact trivial | refine And.intro rfl ?_), by repeat (first | with_reducible exact Same.refl | refine Same.upd rfl ?_ | refine Same.upds rfl ?_ | refine Same.mix rfl ?_), ?_, ?_⟩
        · refine ⟨by assumption, ?_, by omega, by assumption, ?_, ?_, ?_, ⟨e ++ [(arr p l[t])[m]], by rw [he, List.append_assoc]⟩, ?_⟩
          · rw [ints_append, show ints [(arr p l[t])[m]] = [(ints (arr p l[t]))[m]'(by omega)] by rw [hgm]; rfl]
            assumption
          · exact List.nodup_append.2 ⟨hnd', by simp, fun a ha b hb hab => hno (by rw [← List.mem_singleton.1 hb, ← hab]; exact ha)⟩
          · exact List.mem_append_left _ hil'
          · intro j hj
            rcases List.mem_append.1 hj with h9 | h9
            · exact hrl' j h9
            · rw [List.mem_singleton.1 h9]; exact (hrl _ (List.getElem_mem hlt)).step hmm
          · intro j hj
            rw [hts] at hj
            rcases List.mem_append.1 hj with h9 | h9
            · exact List.mem_append_left _ (hcm j h9)
            · exact List.mem_append_right _ h9
        · simp only; omega
      · have hyes : (arr p l[t])[m] ∈ l' := hmi.1 (by assumption)
        refine ⟨((m + 1, u', l')), by repeat (first | exact trivial | refine And.intro rfl ?_), by repeat (first | with_reducible exact Same.refl | refine Same.upd rfl ?_ | refine Same.upds rfl ?_ | refine Same.mix rfl ?_), ?_, ?_⟩
        · refine ⟨E4.trans E5, hO4.ext E5, by omega, hBe.ext E5, hnd', hil', hrl', ⟨e, he⟩, fun j hj => ?_⟩
          rw [hts] at hj
          rcases List.mem_append.1 hj with h9 | h9
          · exact hcm j h9
          · rw [List.mem_singleton.1 h9]; exact hyes
        · simp only; omega
    · obtain rfl : m = (arr p l[t]).length := by omega
      focus
        have szE4 := E4.size; have szE3 := E3.size; have szE2 := E2.size; have szE1 := E1.size; refine W_seq ?_; refine W_region rfl ?_; refine Wo rfl (opv_lss rfl rfl) ?_; refine Wo_nil ?_; refine W_seq ?_
        refine W_cond_dec rfl (fun h2 => ?_) (fun h2 => ?_); (exfalso; omega); refine W_exit ?_; refine exitX_same ?_; refine W_region rfl ?_; refine Wo rfl (opv_move (v := .int _ _) rfl) ?_; refine Wo rfl (opv_add rfl rfl (by omega)) ?_
        refine Wo rfl (opv_assign (v := .int _ _) rfl) ?_; refine Wo_nil ?_
      obtain ⟨e, rfl⟩ := hex
      refine ⟨((t + 1, u', l ++ e)), by repeat (first | exact trivial | refine And.intro rfl ?_), by repeat (first | with_reducible exact Same.refl | refine Same.upd rfl ?_ | refine Same.upds rfl ?_ | refine Same.mix rfl ?_), ?_, ?_⟩
      · refine ⟨by assumption, by assumption, by simp; omega, hnd', hil', hrl', fun k hk j hj => ?_⟩
        rw [List.take_append_of_le_length (by omega), take_snoc _ _ hlt] at hk
        rcases List.mem_append.1 hk with h9 | h9
        · exact List.mem_append_left _ (hcl k h9 j hj)
        · rw [List.mem_singleton.1 h9] at hj
          exact hcm j (by rw [List.take_length]; exact hj)
      · simp only; omega
  · obtain rfl : t = l.length := by omega
    have hB2 := hO2.toB
    have hne : ints l ≠ [] := by cases l with
      | nil => cases hil
      | cons a l => simp [ints]
    focus
      have szE2 := E2.size; have szE1 := E1.size; refine W_seq ?_; refine W_seq ?_; refine W_region rfl ?_; refine Wo rfl (opv_move (v := .int _ _) rfl) ?_; refine Wo rfl (opv_move (v := u) rfl) ?_
      refine Wo rfl (opv_len Tryz.underlying58 rfl (OwnedB.read hB2)) ?_; refine Wo rfl (opv_lss rfl rfl) ?_; refine Wo_nil ?_; refine W_cond_dec rfl (fun h1 => ?_) (fun h1 => ?_); (exfalso; omega); refine W_exit ?_; refine exitX_same ?_
      refine W_seq ?_; refine W_region rfl ?_; refine Wo rfl (opv_move (v := u) rfl) ?_; refine Wo_call rfl (opc1 (a := u) Tryz.call85 rfl) (Sort_ok _ _ _ (hB2) (by assumption) (by omega)) ?_; rintro _ w3 ⟨rfl, E3, hO3⟩
      have E4 := E2.span E3 (by omega); have hs2 := E3.size; refine Wo_nil ?_; refine W_seq ?_; refine W_region rfl ?_; refine Wo rfl (opv_move (v := u) rfl) ?_; refine Wo rfl (opv_assign (v := u) rfl) ?_; refine Wo_nil ?_
      refine W_ret ?_; refine ⟨E4, (congrArg (Owned _ _ _ _) ?_).mp (hO3.o.mono (by omega))⟩
    exact bfs hp hi hnd hil hrl (fun k hk => hcl k (by rw [List.take_length]; exact hk))
end Go.Proofs.YtgphoihilheoeaaGreatDoor
set_option linter.unusedVariables false
set_option linter.unusedSimpArgs false
namespace Go.Hs
section
variable {p : List (List Int)} {a b c d n m : Nat}
theorem mch_iff {S : Nat → Nat → Bool} : mch p S a b = true ↔ ∀ k ∈ arr p a, ∃ j ∈ arr p b, S k j = true := by simp [mch, List.all_eq_true, List.any_eq_true]
theorem bsm_succ : bsm p (n + 1) a b = true ↔ bsm p n a b = true ∧ (∀ k ∈ arr p a, ∃ j ∈ arr p b, bsm p n k j = true) ∧ (∀ k ∈ arr p b, ∃ j ∈ arr p a, bsm p n k j = true) := by
  simp only [bsm, Bool.and_eq_true, mch_iff]
theorem bsm_refl : ∀ (n a : Nat), bsm p n a a = true := by
  intro n
  induction n with
  | zero => intro a; rfl
  | succ n ih => intro a; exact bsm_succ.2 ⟨ih a, fun k hk => ⟨k, hk, ih k⟩, fun k hk => ⟨k, hk, ih k⟩⟩
theorem bsm_trans : ∀ (n : Nat) {a b c : Nat}, bsm p n a b = true → bsm p n b c = true → bsm p n a c = true := by
  intro n
  induction n with
  | zero => intro a b c _ _; rfl
  | succ n ih =>
    intro a b c h1 h2
    obtain ⟨h3, h4, h5⟩ := bsm_succ.1 h1
    obtain ⟨h6, h7, h8⟩ := bsm_succ.1 h2
    refine bsm_succ.2 ⟨ih h3 h6, fun k hk => ?_, fun k hk => ?_⟩
    · obtain ⟨j, hj, e⟩ := h4 k hk
      obtain ⟨i, hi, e2⟩ := h7 j hj
      exact ⟨i, hi, ih e e2⟩
    · obtain ⟨j, hj, e⟩ := h8 k hk
      obtain ⟨i, hi, e2⟩ := h5 j hj
      exact ⟨i, hi, ih e e2⟩
/-- the least of those it is not told apart from -/
def ldr (p : List (List Int)) (n a : Nat) : Prop := ∀ b, b < a → bsm p n b a = false
theorem ldr_ex (n : Nat) : ∀ a, ∃ c, c ≤ a ∧ ldr p n c ∧ bsm p n c a = true := by
  intro a
  induction a using Nat.strongRecOn with
  | ind a ih =>
    by_cases h : ldr p n a
    · exact ⟨a, Nat.le_refl _, h, bsm_refl _ _⟩
    · obtain ⟨b, hb⟩ := Classical.not_forall.1 h
      obtain ⟨hb, h2⟩ := Classical.not_imp.1 hb
      obtain ⟨c, hc, h3, h4⟩ := ih b hb
      exact ⟨c, by omega, h3, bsm_trans n h4 (by simpa using h2)⟩
theorem ldr_eq (h1 : ldr p n c) (h2 : ldr p n d) (h : bsm p n c d = true) : c = d := by
  rcases Nat.lt_trichotomy c d with hl | rfl | hl
  · rw [h2 c hl] at h; cases h
  · rfl
  · rw [bsm_sym, h1 d hl] at h; cases h
theorem ldr_up (h : ldr p n a) : ldr p (n + 1) a := fun b hb => by
  cases hc : bsm p (n + 1) b a with
  | false => rfl
  | true => have := bsm_le hc; rw [h b hb] at this; cases this
def stab (p : List (List Int)) (n : Nat) : Prop := ∀ a b, a < p.length → b < p.length → bsm p n a b = true → bsm p (n + 1) a b = true
theorem stab_of (h : ∀ a, a < p.length → ldr p (n + 1) a → ldr p n a) : stab p n := fun a b ha hb hab => by
  obtain ⟨c, hc, hc1, hc2⟩ := ldr_ex (p := p) (n + 1) a
  obtain ⟨d, hd, hd1, hd2⟩ := ldr_ex (p := p) (n + 1) b
  have e : c = d := by
    refine ldr_eq (h c (by omega) hc1) (h d (by omega) hd1) (bsm_trans n (bsm_le hc2) (bsm_trans n hab ?_))
    rw [bsm_sym]; exact bsm_le hd2
  subst e
  refine bsm_trans (n + 1) ?_ hd2
  rw [bsm_sym]; exact hc2
theorem arr_lt (hp : Gr p) (ha : a < p.length) (h : b ∈ arr p a) : b < p.length := ((mem_arr hp ha).1 h).1
theorem stab_succ (hp : Gr p) (h : stab p n) : stab p (n + 1) := fun a b ha hb hab => by
  obtain ⟨h1, h2, h3⟩ := bsm_succ.1 hab
  refine bsm_succ.2 ⟨hab, fun k hk => ?_, fun k hk => ?_⟩
  · obtain ⟨j, hj, e⟩ := h2 k hk
    exact ⟨j, hj, h _ _ (arr_lt hp ha hk) (arr_lt hp hb hj) e⟩
  · obtain ⟨j, hj, e⟩ := h3 k hk
    exact ⟨j, hj, h _ _ (arr_lt hp hb hk) (arr_lt hp ha hj) e⟩
theorem stab_or (hp : Gr p) : ∀ n, stab p n ∨ n + 1 < cnt (ldr p (n + 1)) p.length := by
  have key : ∀ n, stab p n ∨ cnt (ldr p n) p.length < cnt (ldr p (n + 1)) p.length := fun n => by
    by_cases h : ∀ a, a < p.length → ldr p (n + 1) a → ldr p n a
    · exact .inl (stab_of h)
    · right
      obtain ⟨a, ha⟩ := Classical.not_forall.1 h
      obtain ⟨ha, h2⟩ := Classical.not_imp.1 ha
      obtain ⟨h2, h3⟩ := Classical.not_imp.1 h2
      exact cnt_lt (fun j _ hj => ldr_up hj) ha h2 h3
  intro n
  induction n with
  | zero =>
    rcases key 0 with h | h
    · exact .inl h
    · have := cnt_pos (P := ldr p 0) (k := 0) (n := p.length) (by have := hp.1; omega) (fun b hb => by omega)
      right; omega
  | succ n ih =>
    rcases ih with h | h
    · exact .inl (stab_succ hp h)
    · rcases key (n + 1) with h2 | h2
      · exact .inl h2
      · right; omega
theorem stab_len (hp : Gr p) (h : p.length ≤ n + 1) : stab p n := by
  rcases stab_or hp n with h1 | h1
  · exact h1
  · have := cnt_le (ldr p (n + 1)) p.length; omega
end
end Go.Hs
set_option linter.unusedVariables false
set_option linter.unusedSimpArgs false
namespace Go.Hs
open Classical
section
variable {p q s : List (List Int)} {a b c x y z k j n m : Nat}

/-- both draw the same set -/
def Bis (p : List (List Int)) (a : Nat) (q : List (List Int)) (b : Nat) : Prop :=
  ∃ R : Nat → Nat → Prop, R a b ∧ ∀ x y, R x y → (∀ k ∈ arr p x, ∃ j ∈ arr q y, R k j) ∧ (∀ j ∈ arr q y, ∃ k ∈ arr p x, R k j)
theorem Bis.refl : Bis p a p a := ⟨fun x y => x = y, rfl, by rintro x y rfl; exact ⟨fun k hk => ⟨k, hk, rfl⟩, fun k hk => ⟨k, hk, rfl⟩⟩⟩
theorem Bis.symm (h : Bis p a q b) : Bis q b p a := by
  obtain ⟨R, h1, h2⟩ := h
  exact ⟨fun x y => R y x, h1, fun x y h => ⟨(h2 y x h).2, (h2 y x h).1⟩⟩
theorem Bis.trans (h : Bis p a q b) (h' : Bis q b s c) : Bis p a s c := by
  obtain ⟨R, h1, h2⟩ := h
  obtain ⟨S, h3, h4⟩ := h'
  refine ⟨fun x z => ∃ y, R x y ∧ S y z, ⟨b, h1, h3⟩, fun x z ⟨y, h5, h6⟩ => ⟨fun k hk => ?_, fun k hk => ?_⟩⟩
  · obtain ⟨j, hj, e⟩ := (h2 x y h5).1 k hk
    obtain ⟨i, hi, e2⟩ := (h4 y z h6).1 j hj
    exact ⟨i, hi, j, e, e2⟩
  · obtain ⟨j, hj, e⟩ := (h4 y z h6).2 k hk
    obtain ⟨i, hi, e2⟩ := (h2 x y h5).2 j hj
    exact ⟨i, hi, j, e2, e⟩
theorem Bis.fst (h : Bis p a q b) : ∀ k ∈ arr p a, ∃ j ∈ arr q b, Bis p k q j := by
  obtain ⟨R, h1, h2⟩ := h
  intro k hk
  obtain ⟨j, hj, e⟩ := (h2 a b h1).1 k hk
  exact ⟨j, hj, R, e, h2⟩
theorem Bis.snd (h : Bis p a q b) : ∀ j ∈ arr q b, ∃ k ∈ arr p a, Bis p k q j := by
  obtain ⟨R, h1, h2⟩ := h
  intro k hk
  obtain ⟨j, hj, e⟩ := (h2 a b h1).2 k hk
  exact ⟨j, hj, R, e, h2⟩
/-- what has the same members is the same -/
theorem Bis.mk (h1 : ∀ k ∈ arr p a, ∃ j ∈ arr q b, Bis p k q j) (h2 : ∀ j ∈ arr q b, ∃ k ∈ arr p a, Bis p k q j) : Bis p a q b := by
  refine ⟨fun x y => (x = a ∧ y = b) ∨ Bis p x q y, .inl ⟨rfl, rfl⟩, fun x y h => ?_⟩
  have hh : (∀ k ∈ arr p x, ∃ j ∈ arr q y, Bis p k q j) ∧ (∀ j ∈ arr q y, ∃ k ∈ arr p x, Bis p k q j) := by
    rcases h with ⟨rfl, rfl⟩ | h
    · exact ⟨h1, h2⟩
    · exact ⟨h.fst, h.snd⟩
  exact ⟨fun k hk => by obtain ⟨j, hj, e⟩ := hh.1 k hk; exact ⟨j, hj, .inr e⟩, fun k hk => by obtain ⟨j, hj, e⟩ := hh.2 k hk; exact ⟨j, hj, .inr e⟩⟩
theorem Bis.rch (h : Bis p a q b) (hr : Rch p a x) : ∃ y, Rch q b y ∧ Bis p x q y := by
  induction hr with
  | refl => exact ⟨b, .refl _, h⟩
  | step h1 hj ih =>
    obtain ⟨y, h2, h3⟩ := ih
    obtain ⟨j, hj', e⟩ := h3.fst _ hj
    exact ⟨j, h2.step hj', e⟩

/-- not told apart in as many rounds as there are nodes -/
def eqv (p : List (List Int)) (a b : Nat) : Bool := bsm p p.length a b
theorem Bis.bsm (h : Bis p a p b) : ∀ n, bsm p n a b = true := by
  intro n
  obtain ⟨R, h1, h2⟩ := h
  induction n generalizing a b with
  | zero => rfl
  | succ n ih =>
    refine bsm_succ.2 ⟨ih h1, fun k hk => ?_, fun k hk => ?_⟩
    · obtain ⟨j, hj, e⟩ := (h2 a b h1).1 k hk
      exact ⟨j, hj, ih e⟩
    · obtain ⟨j, hj, e⟩ := (h2 a b h1).2 k hk
      refine ⟨j, hj, ?_⟩
      rw [bsm_sym]; exact ih e
theorem bis_of_eqv (hp : Gr p) (ha : a < p.length) (hb : b < p.length) (h : eqv p a b = true) : Bis p a p b := by
  refine ⟨fun x y => x < p.length ∧ y < p.length ∧ eqv p x y = true, ⟨ha, hb, h⟩, fun x y ⟨h1, h2, h3⟩ => ?_⟩
  obtain ⟨_, h4, h5⟩ := bsm_succ.1 (stab_len hp (Nat.le_succ _) x y h1 h2 h3)
  refine ⟨fun k hk => ?_, fun k hk => ?_⟩
  · obtain ⟨j, hj, e⟩ := h4 k hk
    exact ⟨j, hj, arr_lt hp h1 hk, arr_lt hp h2 hj, e⟩
  · obtain ⟨j, hj, e⟩ := h5 k hk
    refine ⟨j, hj, arr_lt hp h1 hj, arr_lt hp h2 hk, ?_⟩
    unfold eqv; rw [bsm_sym]; exact e
theorem eqv_iff (hp : Gr p) (ha : a < p.length) (hb : b < p.length) : eqv p a b = true ↔ Bis p a p b := ⟨bis_of_eqv hp ha hb, fun h => h.bsm _⟩

/-- the least node that draws the same set -/
def knd (p : List (List Int)) (a : Nat) : Nat := ((List.range p.length).find? fun b => eqv p a b).getD 0
theorem knd_spec (ha : a < p.length) : knd p a < p.length ∧ eqv p a (knd p a) = true ∧ ∀ b, b < knd p a → eqv p a b = false := by
  unfold knd
  cases h : (List.range p.length).find? fun b => eqv p a b with
  | none =>
    have := List.find?_eq_none.1 h a (List.mem_range.2 ha)
    exact absurd (bsm_refl _ _) this
  | some b =>
    simp only [Option.getD_some]
    obtain ⟨h1, as1, bs, h2, h3⟩ := List.find?_eq_some_iff_append.1 h
    have hb : b < p.length := List.mem_range.1 (by rw [h2]; simp)
    refine ⟨hb, h1, fun i hi => ?_⟩
    have hpw : (List.range p.length).Pairwise (· < ·) := List.pairwise_lt_range
    rw [h2, List.pairwise_append] at hpw
    have hm : i ∈ as1 ++ b :: bs := by rw [← h2]; exact List.mem_range.2 (by omega)
    rcases List.mem_append.1 hm with hm | hm
    · simpa using h3 i hm
    · rcases List.mem_cons.1 hm with rfl | hm
      · omega
      · have := (List.pairwise_cons.1 hpw.2.1).1 i hm; omega
theorem eqv_sym (a b : Nat) : eqv p a b = eqv p b a := bsm_sym _ _ _
theorem eqv_trans (h : eqv p a b = true) (h2 : eqv p b c = true) : eqv p a c = true := bsm_trans _ h h2
theorem knd_lt (ha : a < p.length) : knd p a < p.length := (knd_spec ha).1
theorem knd_eq_iff (ha : a < p.length) (hb : b < p.length) : knd p a = knd p b ↔ eqv p a b = true := by
  obtain ⟨h1, h2, h3⟩ := knd_spec ha
  obtain ⟨h4, h5, h6⟩ := knd_spec hb
  constructor
  · intro e
    refine eqv_trans h2 ?_
    rw [e, eqv_sym]; exact h5
  · intro e
    rcases Nat.lt_trichotomy (knd p a) (knd p b) with hl | he | hl
    · have := h6 _ hl
      rw [eqv_trans (by rw [eqv_sym]; exact e) h2] at this; cases this
    · exact he
    · have := h3 _ hl
      rw [eqv_trans e h5] at this; cases this
theorem knd_bis (hp : Gr p) (ha : a < p.length) (hb : b < p.length) : knd p a = knd p b ↔ Bis p a p b := (knd_eq_iff ha hb).trans (eqv_iff hp ha hb)
theorem knd_self (hp : Gr p) (ha : a < p.length) : Bis p a p (knd p a) := bis_of_eqv hp ha (knd_lt ha) (knd_spec ha).2.1
theorem knd_knd (ha : a < p.length) : knd p (knd p a) = knd p a := ((knd_eq_iff ha (knd_lt ha)).2 (knd_spec ha).2.1).symm

/-- the picture of these kinds, in this order -/
def qp (p : List (List Int)) (L : List Nat) : List (List Int) := L.map fun x => L.map fun y => b01 ((arr p x).any fun j => decide (knd p j = y))
/-- these are the kinds of all that a reaches, its own first -/
def Kds (p : List (List Int)) (a : Nat) (L : List Nat) : Prop := L.Nodup ∧ L.head? = some (knd p a) ∧ ∀ x, x ∈ L ↔ ∃ y, Rch p a y ∧ knd p y = x
/-- a picture of the set at a -/
def Cand (p : List (List Int)) (a : Nat) (c : List (List Int)) : Prop := ∃ L, Kds p a L ∧ c = qp p L
theorem qp_len {L : List Nat} : (qp p L).length = L.length := by simp [qp]
theorem qp_rlen {L : List Nat} (r : List Int) (h : r ∈ qp p L) : r.length = L.length := by
  obtain ⟨x, _, rfl⟩ := List.mem_map.1 h
  simp
theorem qp_bits {L : List Nat} (r : List Int) (h : r ∈ qp p L) (x : Int) (hx : x ∈ r) : x = 0 ∨ x = 1 := by
  obtain ⟨x, _, rfl⟩ := List.mem_map.1 h
  obtain ⟨y, _, rfl⟩ := List.mem_map.1 hx
  unfold b01; split <;> simp
theorem arr_qp {L : List Nat} {i m : Nat} (hi : i < L.length) : m ∈ arr (qp p L) i ↔ ∃ hm : m < L.length, ∃ j ∈ arr p L[i], knd p j = L[m] := by
  have e : (qp p L).getD i [] = L.map fun y => b01 ((arr p L[i]).any fun j => decide (knd p j = y)) := by
    rw [getD_lt (by rw [qp_len]; exact hi)]
    simp [qp]
  unfold arr
  rw [mem_arrR, e]
  simp only [List.length_map]
  constructor
  · rintro ⟨h1, h2⟩
    refine ⟨h1, ?_⟩
    rw [getD_lt (by simpa using h1)] at h2
    simp only [List.getElem_map, b01_one, List.any_eq_true, decide_eq_true_eq] at h2
    exact h2
  · rintro ⟨h1, h2⟩
    refine ⟨h1, ?_⟩
    rw [getD_lt (by simpa using h1)]
    simp only [List.getElem_map, b01_one, List.any_eq_true, decide_eq_true_eq]
    exact h2
theorem Kds.lt {L : List Nat} (hp : Gr p) (ha : a < p.length) (h : Kds p a L) (hx : x ∈ L) : x < p.length := by
  obtain ⟨y, h1, rfl⟩ := (h.2.2 x).1 hx
  exact knd_lt (h1.lt hp ha)
theorem Kds.len {L : List Nat} (hp : Gr p) (ha : a < p.length) (h : Kds p a L) : 1 ≤ L.length ∧ L.length ≤ p.length := by
  refine ⟨?_, nodup_len h.1 fun j hj => h.lt hp ha hj⟩
  have := h.2.1
  cases L with
  | nil => cases this
  | cons _ _ => simp
theorem Kds.kk {L : List Nat} (hp : Gr p) (ha : a < p.length) (h : Kds p a L) (hx : x ∈ L) : knd p x = x := by
  obtain ⟨y, h1, rfl⟩ := (h.2.2 x).1 hx
  exact knd_knd (h1.lt hp ha)
theorem Kds.perm {L L' : List Nat} (h : Kds p a L) (h' : Kds p a L') : L.Perm L' := (List.perm_ext_iff_of_nodup h.1 h'.1).2 fun x => (h.2.2 x).trans (h'.2.2 x).symm
theorem Cand.len {c c' : List (List Int)} (h : Cand p a c) (h' : Cand p a c') : c.length = c'.length := by
  obtain ⟨L, h1, rfl⟩ := h
  obtain ⟨L', h1', rfl⟩ := h'
  rw [qp_len, qp_len]; exact (h1.perm h1').length_eq
theorem Cand.gr {c : List (List Int)} (hp : Gr p) (ha : a < p.length) (h : Cand p a c) : Gr c := by
  obtain ⟨L, h1, rfl⟩ := h
  have := h1.len hp ha
  refine ⟨by rw [qp_len]; exact this.1, by rw [qp_len]; have := hp.2.1; omega, fun r hr => ⟨by rw [qp_len]; exact qp_rlen r hr, qp_bits r hr⟩⟩
theorem Cand.pic {c : List (List Int)} (hp : Gr p) (ha : a < p.length) (h : Cand p a c) (h5 : c.length ≤ 5) : Pic c := by
  have := h.gr hp ha
  exact ⟨this.1, h5, this.2.2⟩
/-- it draws the same set -/
theorem Cand.bis {c : List (List Int)} (hp : Gr p) (ha : a < p.length) (h : Cand p a c) : Bis p a c 0 := by
  obtain ⟨L, hL, rfl⟩ := h
  have hlen := hL.len hp ha
  have h0 : L[0]'(by omega) = knd p a := by
    have := hL.2.1
    rw [List.head?_eq_getElem?, List.getElem?_eq_getElem (by omega)] at this
    exact Option.some.inj this
  refine ⟨fun y i => Rch p a y ∧ ∃ hi : i < L.length, knd p y = L[i], ⟨.refl _, by omega, h0.symm⟩, fun y i ⟨h1, hi, h2⟩ => ?_⟩
  have hy := h1.lt hp ha
  have hb := knd_self hp hy
  rw [h2] at hb
  refine ⟨fun k hk => ?_, fun m hm => ?_⟩
  · have hr := h1.step hk
    obtain ⟨m, hm, e⟩ := List.mem_iff_getElem.1 ((hL.2.2 (knd p k)).2 ⟨k, hr, rfl⟩)
    obtain ⟨j, hj, e2⟩ := hb.fst k hk
    refine ⟨m, (arr_qp hi).2 ⟨hm, j, hj, ?_⟩, hr, hm, e.symm⟩
    rw [e]
    exact ((knd_bis hp (hr.lt hp ha) (arr_lt hp (hL.lt hp ha (List.getElem_mem hi)) hj)).2 e2).symm
  · obtain ⟨hm, j, hj, e⟩ := (arr_qp hi).1 hm
    obtain ⟨k, hk, e2⟩ := hb.snd j hj
    have hr := h1.step hk
    refine ⟨k, hk, hr, hm, ?_⟩
    rw [← e]
    exact (knd_bis hp (hr.lt hp ha) (arr_lt hp (hL.lt hp ha (List.getElem_mem hi)) hj)).2 e2
/-- what draws the same set has the same pictures -/
theorem Bis.cand {c : List (List Int)} (hp : Gr p) (hq : Gr q) (ha : a < p.length) (hb : b < q.length) (h : Bis p a q b) (hc : Cand p a c) : Cand q b c := by
  obtain ⟨L, hL, rfl⟩ := hc
  let φ : Nat → Nat := fun x => if hx : ∃ y, y < q.length ∧ Bis p x q y then knd q (Classical.choose hx) else 0
  have hφ : ∀ x y, y < q.length → Bis p x q y → φ x = knd q y := fun x y hy hxy => by
    have hx : ∃ y, y < q.length ∧ Bis p x q y := ⟨y, hy, hxy⟩
    have e : φ x = knd q (Classical.choose hx) := dif_pos hx
    have hs := Classical.choose_spec hx
    rw [e]
    exact (knd_bis hq hs.1 hy).2 (hs.2.symm.trans hxy)
  have hex : ∀ x ∈ L, ∃ z, Rch q b z ∧ Bis p x q z := fun x hx => by
    obtain ⟨y, h1, rfl⟩ := (hL.2.2 x).1 hx
    obtain ⟨z, h2, h3⟩ := h.rch h1
    exact ⟨z, h2, (knd_self hp (h1.lt hp ha)).symm.trans h3⟩
  have hxl : ∀ x ∈ L, x < p.length := fun x hx => hL.lt hp ha hx
  have hinj : ∀ x ∈ L, ∀ x' ∈ L, φ x = φ x' → x = x' := fun x hx x' hx' e => by
    obtain ⟨z, h1, h2⟩ := hex x hx
    obtain ⟨z', h1', h2'⟩ := hex x' hx'
    rw [hφ x z (h1.lt hq hb) h2, hφ x' z' (h1'.lt hq hb) h2'] at e
    have := (knd_bis hq (h1.lt hq hb) (h1'.lt hq hb)).1 e
    have := (knd_bis hp (hxl x hx) (hxl x' hx')).2 ((h2.trans this).trans h2'.symm)
    rw [hL.kk hp ha hx, hL.kk hp ha hx'] at this
    exact this
  refine ⟨L.map φ, ⟨?_, ?_, fun y => ?_⟩, ?_⟩
  · clear hex hxl
    obtain ⟨hn, _⟩ := hL
    unfold List.Nodup at hn ⊢
    rw [List.pairwise_map]
    refine List.Pairwise.imp_of_mem (fun {x y} hx hy hxy e => hxy (hinj x hx y hy e)) hn
  · rw [List.head?_map, hL.2.1]
    exact congrArg some (hφ _ b hb ((knd_self hp ha).symm.trans h))
  · rw [List.mem_map]
    constructor
    · rintro ⟨x, hx, rfl⟩
      obtain ⟨z, h1, h2⟩ := hex x hx
      exact ⟨z, h1, (hφ x z (h1.lt hq hb) h2).symm⟩
    · rintro ⟨z, h1, rfl⟩
      obtain ⟨y, h2, h3⟩ := h.symm.rch h1
      refine ⟨knd p y, (hL.2.2 _).2 ⟨y, h2, rfl⟩, hφ _ z (h1.lt hq hb) ((knd_self hp (h2.lt hp ha)).symm.trans h3.symm)⟩
  · unfold qp
    rw [List.map_map]
    refine List.map_congr_left fun x hx => ?_
    simp only [Function.comp, List.map_map]
    refine List.map_congr_left fun y hy => ?_
    simp only [Function.comp]
    refine congrArg b01 ?_
    rw [Bool.eq_iff_iff]
    simp only [List.any_eq_true, decide_eq_true_eq]
    obtain ⟨z, h1, h2⟩ := hex x hx
    have hz := h1.lt hq hb
    have ex := hφ x z hz h2
    have h3 := h2.trans (knd_self hq hz)
    rw [← ex] at h3
    have hpx := hxl x hx
    have hqx : φ x < q.length := by rw [ex]; exact knd_lt hz
    obtain ⟨z', h1', h2'⟩ := hex y hy
    have hz' := h1'.lt hq hb
    have ey := hφ y z' hz' h2'
    constructor
    · rintro ⟨j, hj, e⟩
      obtain ⟨i, hi, e2⟩ := h3.fst j hj
      refine ⟨i, hi, ?_⟩
      have hpj := arr_lt hp hpx hj
      rw [ey]
      refine (knd_bis hq (arr_lt hq hqx hi) hz').2 (e2.symm.trans ((knd_self hp hpj).trans ?_))
      rw [e]; exact h2'
    · rintro ⟨i, hi, e⟩
      obtain ⟨j, hj, e2⟩ := h3.snd i hi
      refine ⟨j, hj, ?_⟩
      have hpj := arr_lt hp hpx hj
      have hqi := arr_lt hq hqx hi
      rw [ey] at e
      have h5 := (knd_bis hq hqi hz').1 e
      have := (knd_bis hp hpj (hxl y hy)).2 ((e2.trans h5).trans h2'.symm)
      rw [hL.kk hp ha hy] at this
      exact this
end
end Go.Hs
set_option linter.unusedVariables false
set_option linter.unusedSimpArgs false
namespace Go.Hs
section
variable {s : UInt8} {l r x : List UInt8} {ps qs : List (List UInt8)}
/-- what stands between the bytes s -/
def cutB (s : UInt8) : List UInt8 → List (List UInt8)
  | [] => [[]]
  | c :: l => if c = s then [] :: cutB s l else match cutB s l with
    | [] => [[c]]
    | x :: xs => (c :: x) :: xs
/-- put together, with s between them -/
def joinB (s : UInt8) : List (List UInt8) → List UInt8
  | [] => []
  | x :: xs => x ++ xs.flatMap fun y => s :: y
theorem cutB_cons (c : UInt8) (l : List UInt8) : cutB s (c :: l) = if c = s then [] :: cutB s l else match cutB s l with
    | [] => [[c]]
    | x :: xs => (c :: x) :: xs := rfl
theorem cutB_ne : ∀ (l : List UInt8), cutB s l ≠ []
  | [] => by simp [cutB]
  | c :: l => by
    unfold cutB
    split
    · simp
    · split <;> simp
theorem cutB_snoc (c : UInt8) : ∀ (l : List UInt8) (ps : List (List UInt8)) (x : List UInt8), cutB s l = ps ++ [x] → cutB s (l ++ [c]) = if c = s then ps ++ [x, []] else ps ++ [x ++ [c]] := by
  intro l
  induction l with
  | nil =>
    intro ps x h
    have : ps = [] ∧ x = [] := by
      cases ps with
      | nil => simpa [cutB] using h.symm
      | cons a b => simp [cutB] at h
    obtain ⟨rfl, rfl⟩ := this
    by_cases hc : c = s <;> simp [cutB, hc]
  | cons d l ih =>
    intro ps x h
    rw [List.cons_append]
    unfold cutB at h ⊢
    by_cases hd : d = s
    · rw [if_pos hd] at h ⊢
      cases ps with
      | nil => simp only [List.nil_append, List.cons.injEq] at h; exact absurd h.2 (cutB_ne l)
      | cons a ps =>
        simp only [List.cons_append, List.cons.injEq] at h
        rw [ih ps x h.2, ← h.1]
        split <;> simp
    · rw [if_neg hd] at h ⊢
      cases hl : cutB s l with
      | nil => exact absurd hl (cutB_ne l)
      | cons y ys =>
        rw [hl] at h
        simp only at h
        cases ps with
        | nil =>
          simp only [List.nil_append, List.cons.injEq] at h
          have := ih [] y (by rw [hl, h.2]; rfl)
          rw [this, ← h.1]
          by_cases hc : c = s <;> simp [hc]
        | cons a ps =>
          simp only [List.cons_append, List.cons.injEq] at h
          have := ih (y :: ps) x (by rw [hl, h.2]; rfl)
          rw [this, ← h.1]
          by_cases hc : c = s <;> simp [hc]
theorem cutB_app (h : s ∉ l) : cutB s (l ++ s :: r) = l :: cutB s r := by
  induction l with
  | nil => simp [cutB]
  | cons c l ih =>
    rw [List.cons_append, cutB_cons, if_neg (fun e => h (by simp [e])), ih (fun hm => h (by simp [hm]))]
theorem cutB_one (h : s ∉ l) : cutB s l = [l] := by
  induction l with
  | nil => rfl
  | cons c l ih =>
    unfold cutB
    rw [if_neg (fun e => h (by simp [e])), ih (fun hm => h (by simp [hm]))]
theorem cutB_join (hne : ps ≠ []) (h : ∀ x ∈ ps, s ∉ x) : cutB s (joinB s ps) = ps := by
  induction ps with
  | nil => exact absurd rfl hne
  | cons x ps ih =>
    cases ps with
    | nil =>
      have : joinB s [x] = x := by simp [joinB]
      rw [this]; exact cutB_one (h x (by simp))
    | cons y ps =>
      have : joinB s (x :: y :: ps) = x ++ s :: joinB s (y :: ps) := by simp [joinB]
      rw [this, cutB_app (h x (by simp)), ih (by simp) (fun z hz => h z (by simp only [List.mem_cons] at hz ⊢; exact .inr hz))]
theorem joinB_snoc (hne : ps ≠ []) : joinB s (ps ++ [x]) = joinB s ps ++ s :: x := by
  cases ps with
  | nil => exact absurd rfl hne
  | cons y ps => simp [joinB]
theorem cutB_len (l : List UInt8) : (cutB s l).length = l.count s + 1 := by
  induction l with
  | nil => rfl
  | cons c l ih =>
    unfold cutB
    split
    · rename_i hc; subst hc; simp [ih]
    · rename_i hc
      rw [List.count_cons_of_ne hc, ← ih]
      cases hl : cutB s l with
      | nil => exact absurd hl (cutB_ne l)
      | cons y ys => rfl
/-- one more byte looked at -/
theorem cut_step {l : List UInt8} {from_ k : Nat} {ps : List (List UInt8)} (hk : k < l.length) (hf : from_ ≤ k) (h : cutB s (l.take k) = ps ++ [(l.drop from_).take (k - from_)]) :
    (l[k] = s → cutB s (l.take (k + 1)) = (ps ++ [(l.drop from_).take (k - from_)]) ++ [(l.drop (k + 1)).take (k + 1 - (k + 1))]) ∧ (l[k] ≠ s → cutB s (l.take (k + 1)) = ps ++ [(l.drop from_).take (k + 1 - from_)]) := by
  have e : l.take (k + 1) = l.take k ++ [l[k]] := by rw [List.take_succ_eq_append_getElem hk]
  have e2 : (l.drop from_).take (k + 1 - from_) = (l.drop from_).take (k - from_) ++ [l[k]] := by
    rw [show k + 1 - from_ = (k - from_) + 1 by omega, List.take_succ_eq_append_getElem (by simp; omega)]
    simp only [List.getElem_drop]
    congr 3; omega
  have := cutB_snoc (s := s) l[k] _ _ _ h
  rw [e]
  refine ⟨fun hc => ?_, fun hc => ?_⟩
  · rw [this, if_pos hc]; simp
  · rw [this, if_neg hc, e2]
end

section
open Op
theorem bless_irr : ∀ (a : List UInt8), bytesLess a a = false
  | [] => rfl
  | x :: a => by
    have := bless_irr a
    simp [bytesLess, this]
theorem bless_trans : ∀ (a b c : List UInt8), bytesLess a b = true → bytesLess b c = true → bytesLess a c = true := by
  intro a
  induction a with
  | nil =>
    intro b c h1 h2
    cases b with
    | nil => simp [bytesLess] at h1
    | cons y b =>
      cases c with
      | nil => simp [bytesLess] at h2
      | cons z c => rfl
  | cons x a ih =>
    intro b c h1 h2
    cases b with
    | nil => simp [bytesLess] at h1
    | cons y b =>
      cases c with
      | nil => simp [bytesLess] at h2
      | cons z c =>
        simp only [bytesLess, Bool.or_eq_true, Bool.and_eq_true, decide_eq_true_eq, beq_iff_eq] at h1 h2 ⊢
        rcases h1 with h1 | ⟨rfl, h1⟩
        · rcases h2 with h2 | ⟨rfl, h2⟩
          · exact .inl (UInt8.lt_trans h1 h2)
          · exact .inl h1
        · rcases h2 with h2 | ⟨rfl, h2⟩
          · exact .inl h2
          · exact .inr ⟨rfl, ih b c h1 h2⟩
theorem bless_tri : ∀ (a b : List UInt8), bytesLess a b = false → bytesLess b a = false → a = b := by
  intro a
  induction a with
  | nil =>
    intro b h1 h2
    cases b with
    | nil => rfl
    | cons y b => simp [bytesLess] at h1
  | cons x a ih =>
    intro b h1 h2
    cases b with
    | nil => simp [bytesLess] at h2
    | cons y b =>
      simp only [bytesLess, Bool.or_eq_false_iff, Bool.and_eq_false_iff, decide_eq_false_iff_not, beq_eq_false_iff_ne, ne_eq] at h1 h2
      obtain ⟨h3, h4⟩ := h1
      obtain ⟨h5, h6⟩ := h2
      have e : x = y := UInt8.le_antisymm (UInt8.not_lt.1 h5) (UInt8.not_lt.1 h3)
      subst e
      rw [ih b (h4.resolve_left (fun h => h rfl)) (h6.resolve_left (fun h => h rfl))]
/-- not less, one behind the other -/
theorem bless_ge {a b c : List UInt8} (h1 : bytesLess a b = false) (h2 : bytesLess b c = false) : bytesLess a c = false := by
  cases h : bytesLess a c with
  | false => rfl
  | true =>
    by_cases e : b = a
    · subst e; rw [h] at h2; cases h2
    · cases h3 : bytesLess b a with
      | true => rw [bless_trans _ _ _ h3 h] at h2; cases h2
      | false => exact absurd (bless_tri _ _ h3 h1) e
end

section
variable {p q : List (List Int)} {r r' : List Int} {n m : Nat}
def dig (n : Nat) : UInt8 := UInt8.ofNat (48 + n)
theorem dig_toNat (h : n < 200) : (dig n).toNat = 48 + n := by unfold dig; rw [UInt8.toNat_ofNat']; omega
theorem dig_inj (h : n < 200) (h' : m < 200) (e : dig n = dig m) : n = m := by
  have := congrArg UInt8.toNat e
  rw [dig_toNat h, dig_toNat h'] at this; omega
/-- the numbers of the nodes to which there are arrows -/
def txR (r : List Int) : List UInt8 := (arrR r).map dig
/-- the text of a picture -/
def txt (p : List (List Int)) : List UInt8 := joinB 47 (p.map txR)
theorem txR_sep (h : r.length ≤ 100) : (47 : UInt8) ∉ txR r := by
  intro hm
  obtain ⟨j, hj, e⟩ := List.mem_map.1 hm
  have := (mem_arrR.1 hj).1
  have e2 := congrArg UInt8.toNat e
  rw [dig_toNat (by omega)] at e2
  have : (47 : UInt8).toNat = 47 := rfl
  omega
theorem map_inj_on {f : Nat → UInt8} : ∀ {a b : List Nat}, (∀ x ∈ a, ∀ y ∈ b, f x = f y → x = y) → a.map f = b.map f → a = b
  | [], [], _, _ => rfl
  | [], _ :: _, _, h => by simp at h
  | _ :: _, [], _, h => by simp at h
  | x :: a, y :: b, hi, h => by
    simp only [List.map_cons, List.cons.injEq] at h
    rw [hi x (by simp) y (by simp) h.1, map_inj_on (fun x hx y hy => hi x (by simp [hx]) y (by simp [hy])) h.2]
theorem arrR_inj (hl : r.length = r'.length) (h1 : ∀ x ∈ r, x = 0 ∨ x = 1) (h2 : ∀ x ∈ r', x = 0 ∨ x = 1) (h : arrR r = arrR r') : r = r' := by
  refine List.ext_getElem hl fun i hi hi' => ?_
  have h3 := h1 _ (List.getElem_mem hi)
  have h4 := h2 _ (List.getElem_mem hi')
  have e1 : i ∈ arrR r ↔ r[i] = 1 := by rw [mem_arrR, getD_lt hi]; exact ⟨fun h => h.2, fun h => ⟨hi, h⟩⟩
  have e2 : i ∈ arrR r' ↔ r'[i] = 1 := by rw [mem_arrR, getD_lt hi']; exact ⟨fun h => h.2, fun h => ⟨hi', h⟩⟩
  rw [h] at e1
  have := e1.symm.trans e2
  rcases h3 with h3 | h3 <;> rcases h4 with h4 | h4 <;> rw [h3, h4] at this ⊢ <;> simp at this
theorem txR_inj (hl : r.length = r'.length) (hr : r.length ≤ 100) (h1 : ∀ x ∈ r, x = 0 ∨ x = 1) (h2 : ∀ x ∈ r', x = 0 ∨ x = 1) (h : txR r = txR r') : r = r' := by
  refine arrR_inj hl h1 h2 (map_inj_on (fun x hx y hy e => ?_) h)
  have := (mem_arrR.1 hx).1
  have := (mem_arrR.1 hy).1
  exact dig_inj (by omega) (by omega) e
theorem cut_txt (hp : Gr p) : cutB 47 (txt p) = p.map txR := by
  refine cutB_join (by have := hp.1; intro h; simp at h; subst h; simp at this) fun x hx => ?_
  obtain ⟨r, hr, rfl⟩ := List.mem_map.1 hx
  exact txR_sep (by rw [(hp.2.2 r hr).1]; have := hp.2.1; omega)
theorem txt_inj (hp : Gr p) (hq : Gr q) (h : txt p = txt q) : p = q := by
  have e : p.map txR = q.map txR := by rw [← cut_txt hp, ← cut_txt hq, h]
  have hl : p.length = q.length := by simpa using congrArg List.length e
  refine List.ext_getElem hl fun i hi hi' => ?_
  have h1 := hp.2.2 _ (List.getElem_mem hi)
  have h2 := hq.2.2 _ (List.getElem_mem hi')
  have := hp.2.1
  refine txR_inj (by rw [h1.1, h2.1, hl]) (by rw [h1.1]; omega) h1.2 h2.2 ?_
  have := congrArg (fun l => l[i]?) e
  simpa [hi, hi'] using this
theorem txR_len (r : List Int) : (txR r).length ≤ r.length := by unfold txR; rw [List.length_map]; exact arrR_len r
theorem txt_len (hp : Gr p) : (txt p).length ≤ 200 := by
  have key : ∀ (l : List (List UInt8)) (n : Nat), (∀ x ∈ l, x.length ≤ n) → (joinB 47 l).length ≤ l.length * (n + 1) := by
    intro l n h
    cases l with
    | nil => simp [joinB]
    | cons x l =>
      have : ∀ (l : List (List UInt8)), (∀ x ∈ l, x.length ≤ n) → (l.flatMap fun y => (47 : UInt8) :: y).length ≤ l.length * (n + 1) := by
        intro l
        induction l with
        | nil => intro _; simp
        | cons y l ih =>
          intro h
          have h1 := ih (fun x hx => h x (by simp [hx]))
          have h2 := h y (by simp)
          simp only [List.flatMap_cons, List.length_append, List.length_cons, Nat.succ_mul] at *
          omega
      have h1 := this l (fun x hx => h x (by simp [hx]))
      have h2 := h x (by simp)
      simp only [joinB, List.length_append, List.length_cons, Nat.succ_mul] at *
      omega
  have h1 := key (p.map txR) p.length (fun x hx => by
    obtain ⟨r, hr, rfl⟩ := List.mem_map.1 hx
    have := txR_len r
    rw [(hp.2.2 r hr).1] at this; exact this)
  rw [List.length_map] at h1
  have h2 := hp.2.1
  have : p.length * (p.length + 1) ≤ 11 * 12 := Nat.mul_le_mul h2 (by omega)
  unfold txt; omega
open Classical in
/-- the picture of a text -/
noncomputable def rdP (l : List UInt8) : Option (List (List Int)) := if h : ∃ p, Pic p ∧ txt p = l then some (Classical.choose h) else none
theorem rdP_txt (hp : Pic p) : rdP (txt p) = some p := by
  have h : ∃ q, Pic q ∧ txt q = txt p := ⟨p, hp, rfl⟩
  unfold rdP
  rw [dif_pos h]
  have := Classical.choose_spec h
  rw [txt_inj this.1.gr hp.gr this.2]
theorem rdP_some {l : List UInt8} (h : rdP l = some p) : Pic p ∧ txt p = l := by
  unfold rdP at h
  split at h
  · rename_i hx
    have := Classical.choose_spec hx
    rw [← Option.some.inj h]; exact this
  · cases h
end
end Go.Hs
set_option linter.unusedVariables false
set_option linter.unusedSimpArgs false
namespace Go.Hs
open Classical Op
section
variable {p q c c' : List (List Int)} {a b n k : Nat} {o o' L L' : List Nat}
/-- orders of the first ones, 0 staying first -/
def ordS (n : Nat) : Nat → List (List Nat)
  | 0 => [[0]]
  | k + 1 => (ordS n k).flatMap fun o => ((List.range n).filter fun x => decide (1 ≤ x) && !o.contains x).map fun x => o ++ [x]
def orders (n : Nat) : List (List Nat) := ordS n (n - 1)
def Pre (n : Nat) (o : List Nat) : Prop := o.Nodup ∧ o.head? = some 0 ∧ ∀ x ∈ o, x < n
def Ord (n : Nat) (o : List Nat) : Prop := o.length = n ∧ Pre n o
theorem Pre.pos (h : Pre n o) : 1 ≤ o.length := by
  have := h.2.1
  cases o with
  | nil => cases this
  | cons _ _ => simp
theorem Pre.le (h : Pre n o) : o.length ≤ n := nodup_len h.1 h.2.2
theorem Pre.snoc (h : Pre n o) {x : Nat} (hx : x < n) (hn : x ∉ o) : Pre n (o ++ [x]) := by
  refine ⟨List.nodup_append.2 ⟨h.1, by simp, fun a ha b hb e => ?_⟩, ?_, fun y hy => ?_⟩
  · simp only [List.mem_singleton] at hb; subst hb; subst e; exact hn ha
  · rw [List.head?_append, h.2.1]; rfl
  · rcases List.mem_append.1 hy with hy | hy
    · exact h.2.2 y hy
    · simp only [List.mem_singleton] at hy; subst hy; exact hx
theorem Pre.init {x : Nat} (h : Pre n (o ++ [x])) (ho : o ≠ []) : Pre n o ∧ x < n ∧ x ∉ o := by
  obtain ⟨h1, h2, h3⟩ := h
  rw [List.nodup_append] at h1
  refine ⟨⟨h1.1, ?_, fun y hy => h3 y (by simp [hy])⟩, h3 x (by simp), fun hm => h1.2.2 x hm x (by simp) rfl⟩
  cases o with
  | nil => exact absurd rfl ho
  | cons y o => simpa using h2
theorem mem_ordS (hn : 1 ≤ n) : ∀ (k : Nat) (o : List Nat), o ∈ ordS n k ↔ o.length = k + 1 ∧ Pre n o := by
  intro k
  induction k with
  | zero =>
    intro o
    simp only [ordS, List.mem_singleton]
    constructor
    · rintro rfl; exact ⟨rfl, by simp, rfl, by simp; omega⟩
    · rintro ⟨h1, h2⟩
      cases o with
      | nil => cases h1
      | cons x o =>
        have : o = [] := List.eq_nil_of_length_eq_zero (by simpa using h1)
        subst this
        have := h2.2.1
        simp at this; subst this; rfl
  | succ k ih =>
    intro o
    simp only [ordS, List.mem_flatMap, List.mem_map, List.mem_filter, List.mem_range, Bool.and_eq_true, decide_eq_true_eq, Bool.not_eq_true', List.contains_eq_mem, decide_eq_false_iff_not]
    constructor
    · rintro ⟨o', h1, x, ⟨h2, h3, h4⟩, rfl⟩
      obtain ⟨h5, h6⟩ := (ih o').1 h1
      exact ⟨by simp [h5], h6.snoc h2 h4⟩
    · rintro ⟨h1, h2⟩
      have hne : o ≠ [] := by rintro rfl; cases h1
      have e := List.dropLast_concat_getLast hne
      have hl : o.dropLast.length = k + 1 := by simp [h1]
      rw [← e] at h2
      obtain ⟨h3, h4, h5⟩ := h2.init (by intro h; rw [h] at hl; cases hl)
      refine ⟨o.dropLast, (ih _).2 ⟨hl, h3⟩, o.getLast hne, ⟨h4, ?_, h5⟩, e⟩
      rcases Nat.eq_zero_or_pos (o.getLast hne) with h0 | h0
      · exfalso
        rw [h0] at h5
        have := h3.2.1
        cases hd : o.dropLast with
        | nil => rw [hd] at hl; cases hl
        | cons y ys => rw [hd] at this h5; simp at this; exact h5 (by simp [this])
      · exact h0
theorem mem_orders (hn : 1 ≤ n) : o ∈ orders n ↔ Ord n o := by
  unfold orders Ord
  rw [mem_ordS hn]
  rw [show n - 1 + 1 = n by omega]

/-- the nodes in another order -/
def reo (c : List (List Int)) (o : List Nat) : List (List Int) := o.map fun i => o.map fun j => bit c i j
theorem reo_len : (reo c o).length = o.length := by simp [reo]
theorem bit_qp {i m : Nat} (hi : i < L.length) (hm : m < L.length) : bit (qp p L) i m = b01 ((arr p L[i]).any fun j => decide (knd p j = L[m])) := by
  unfold bit
  have e : (qp p L).getD i [] = L.map fun y => b01 ((arr p L[i]).any fun j => decide (knd p j = y)) := by
    rw [getD_lt (by rw [qp_len]; exact hi)]
    simp [qp]
  rw [e, getD_lt (by simpa using hm)]
  simp
theorem Ord.perm (h : Ord n o) : o.Perm (List.range n) := by
  refine (List.perm_ext_iff_of_nodup h.2.1 List.nodup_range).2 fun x => ⟨fun hx => List.mem_range.2 (h.2.2.2 x hx), fun hx => ?_⟩
  refine Classical.byContradiction fun hn => ?_
  have := nodup_len (n := n) (l := x :: o) (List.nodup_cons.2 ⟨hn, h.2.1⟩) (fun j hj => by
    rcases List.mem_cons.1 hj with rfl | hj
    · exact List.mem_range.1 hx
    · exact h.2.2.2 j hj)
  simp only [List.length_cons, h.1] at this
  omega
theorem reo_cand (hc : Cand p a c) (ho : Ord c.length o) : Cand p a (reo c o) := by
  obtain ⟨L, hL, rfl⟩ := hc
  rw [qp_len] at ho
  have hlt := ho.2.2.2
  have hpos : 1 ≤ L.length := by have := ho.2.pos; rw [ho.1] at this; exact this
  refine ⟨o.map fun i => L.getD i 0, ⟨?_, ?_, fun x => ?_⟩, ?_⟩
  · have hn := ho.2.1
    unfold List.Nodup at hn ⊢
    rw [List.pairwise_map]
    refine List.Pairwise.imp_of_mem (fun {x y} hx hy hxy e => hxy ?_) hn
    rw [getD_lt (hlt x hx), getD_lt (hlt y hy)] at e
    exact (List.getElem_inj hL.1).1 e
  · rw [List.head?_map, ho.2.2.1, ← hL.2.1]
    simp only [Option.map_some]
    rw [List.head?_eq_getElem?, List.getElem?_eq_getElem (by omega), getD_lt (by omega)]
  · rw [← hL.2.2 x, List.mem_map]
    constructor
    · rintro ⟨i, hi, rfl⟩
      rw [getD_lt (hlt i hi)]; exact List.getElem_mem _
    · intro hx
      obtain ⟨i, hi, e⟩ := List.mem_iff_getElem.1 hx
      refine ⟨i, ho.perm.mem_iff.2 (List.mem_range.2 hi), ?_⟩
      rw [getD_lt hi]; exact e
  · unfold reo
    rw [show qp p (o.map fun i => L.getD i 0) = o.map fun i => o.map fun m => b01 ((arr p (L.getD i 0)).any fun j => decide (knd p j = L.getD m 0)) by simp [qp]]
    refine List.map_congr_left fun i hi => List.map_congr_left fun m hm => ?_
    rw [bit_qp (hlt i hi) (hlt m hm), getD_lt (hlt i hi), getD_lt (hlt m hm)]
theorem cand_reo (hc : Cand p a c) (hc' : Cand p a c') : ∃ o, Ord c.length o ∧ c' = reo c o := by
  obtain ⟨L, hL, rfl⟩ := hc
  obtain ⟨L', hL', rfl⟩ := hc'
  have hperm := hL.perm hL'
  have hi : ∀ x ∈ L', L.idxOf x < L.length ∧ L.getD (L.idxOf x) 0 = x := fun x hx => by
    have h1 := List.idxOf_lt_length_iff.2 (hperm.mem_iff.2 hx)
    exact ⟨h1, by rw [getD_lt h1]; exact List.getElem_idxOf h1⟩
  have hpos : 1 ≤ L.length := by
    have := hL.2.1
    cases L with
    | nil => cases this
    | cons _ _ => simp
  have hback : (L'.map fun x => L.idxOf x).map (fun i => L.getD i 0) = L' := by
    rw [List.map_map]
    conv => rhs; rw [← List.map_id L']
    exact List.map_congr_left fun x hx => (hi x hx).2
  refine ⟨L'.map fun x => L.idxOf x, ⟨?_, ?_, ?_, fun i him => ?_⟩, ?_⟩
  · rw [List.length_map, qp_len, hperm.length_eq]
  · have hn := hL'.1
    unfold List.Nodup at hn ⊢
    rw [List.pairwise_map]
    refine List.Pairwise.imp_of_mem (fun {x y} hx hy hxy e => hxy ?_) hn
    rw [← (hi x hx).2, e, (hi y hy).2]
  · rw [List.head?_map, hL'.2.1]
    simp only [Option.map_some, Option.some.injEq]
    have := hL.2.1
    cases L with
    | nil => cases this
    | cons y L => simp at this; subst this; simp
  · obtain ⟨x, hx, rfl⟩ := List.mem_map.1 him
    rw [qp_len]; exact (hi x hx).1
  · conv => lhs; rw [← hback]
    unfold reo
    rw [show qp p ((L'.map fun x => L.idxOf x).map fun i => L.getD i 0) = (L'.map fun x => L.idxOf x).map fun i => (L'.map fun x => L.idxOf x).map fun m => b01 ((arr p (L.getD i 0)).any fun j => decide (knd p j = L.getD m 0)) by simp [qp]]
    refine List.map_congr_left fun i him => List.map_congr_left fun m hmm => ?_
    obtain ⟨x, hx, rfl⟩ := List.mem_map.1 him
    obtain ⟨y, hy, rfl⟩ := List.mem_map.1 hmm
    have h1 := (hi x hx).1
    have h2 := (hi y hy).1
    rw [bit_qp h1 h2, getD_lt h1, getD_lt h2]

/-- the least one -/
def Lst (p : List (List Int)) (a : Nat) (c : List (List Int)) : Prop := Cand p a c ∧ ∀ c', Cand p a c' → bytesLess (txt c') (txt c) = false
theorem Lst.uniq (hp : Gr p) (ha : a < p.length) (h : Lst p a c) (h' : Lst p a c') : c = c' :=
  txt_inj (h.1.gr hp ha) (h'.1.gr hp ha) (bless_tri _ _ (h'.2 c h.1) (h.2 c' h'.1))
/-- one more looked at -/
def lstep (x best y : List (List Int)) : List (List Int) := if bytesLess (txt y) (txt best) then y else best
theorem lst_fold (hc : Cand p a c) : ∀ (os : List (List Nat)) (best : List (List Int)), (∀ o ∈ os, Ord c.length o) → Cand p a best →
    Cand p a (os.foldl (fun best o => lstep c best (reo c o)) best) ∧ bytesLess (txt best) (txt (os.foldl (fun best o => lstep c best (reo c o)) best)) = false ∧
    ∀ o ∈ os, bytesLess (txt (reo c o)) (txt (os.foldl (fun best o => lstep c best (reo c o)) best)) = false := by
  intro os
  induction os with
  | nil => intro best _ hb; exact ⟨hb, bless_irr _, fun o ho => by cases ho⟩
  | cons o os ih =>
    intro best ho hb
    simp only [List.foldl_cons]
    have hr := reo_cand hc (ho o (by simp))
    have hs : Cand p a (lstep c best (reo c o)) ∧ bytesLess (txt best) (txt (lstep c best (reo c o))) = false ∧ bytesLess (txt (reo c o)) (txt (lstep c best (reo c o))) = false := by
      unfold lstep
      split
      · rename_i h
        refine ⟨hr, ?_, bless_irr _⟩
        cases hh : bytesLess (txt best) (txt (reo c o)) with
        | false => rfl
        | true => have := bless_trans _ _ _ h hh; rw [bless_irr] at this; cases this
      · rename_i h
        exact ⟨hb, bless_irr _, by simpa using h⟩
    obtain ⟨h1, h2, h3⟩ := ih _ (fun o' ho' => ho o' (by simp [ho'])) hs.1
    refine ⟨h1, bless_ge hs.2.1 h2, fun o' ho' => ?_⟩
    rcases List.mem_cons.1 ho' with rfl | ho'
    · exact bless_ge hs.2.2 h2
    · exact h3 o' ho'
/-- a picture of it there is -/
noncomputable def kdl (p : List (List Int)) (a : Nat) : List Nat := knd p a :: (List.range p.length).filter fun x => decide (x ≠ knd p a ∧ ∃ y, Rch p a y ∧ knd p y = x)
theorem kdl_ok (hp : Gr p) (ha : a < p.length) : Kds p a (kdl p a) := by
  unfold kdl
  refine ⟨List.nodup_cons.2 ⟨?_, (pw_nodup (range_filter_pw _ _))⟩, rfl, fun x => ?_⟩
  · simp
  · simp only [List.mem_cons, List.mem_filter, List.mem_range, decide_eq_true_eq]
    constructor
    · rintro (rfl | ⟨_, _, h⟩)
      · exact ⟨a, .refl _, rfl⟩
      · exact h
    · rintro ⟨y, h1, rfl⟩
      by_cases e : knd p y = knd p a
      · exact .inl e
      · exact .inr ⟨knd_lt (h1.lt hp ha), e, y, h1, rfl⟩
theorem fold_lst (hp : Gr p) (ha : a < p.length) (hc : Cand p a c) : Lst p a ((orders c.length).foldl (fun best o => lstep c best (reo c o)) c) := by
  have h1 := (hc.gr hp ha).1
  obtain ⟨h2, _, h3⟩ := lst_fold hc (orders c.length) c (fun o ho => (mem_orders h1).1 ho) hc
  refine ⟨h2, fun c' hc' => ?_⟩
  obtain ⟨o, ho, rfl⟩ := cand_reo hc hc'
  exact h3 o ((mem_orders h1).2 ho)
/-- the least picture of the set at a -/
noncomputable def lst (p : List (List Int)) (a : Nat) : List (List Int) := if h : ∃ c, Lst p a c then Classical.choose h else []
theorem lst_ok (hp : Gr p) (ha : a < p.length) : Lst p a (lst p a) := by
  have h : ∃ c, Lst p a c := ⟨_, fold_lst hp ha ⟨_, kdl_ok hp ha, rfl⟩⟩
  unfold lst
  rw [dif_pos h]; exact Classical.choose_spec h
theorem lst_eq (hp : Gr p) (ha : a < p.length) (h : Lst p a c) : lst p a = c := (lst_ok hp ha).uniq hp ha h
theorem lst_fold_eq (hp : Gr p) (ha : a < p.length) (hc : Cand p a c) : (orders c.length).foldl (fun best o => lstep c best (reo c o)) c = lst p a := (lst_eq hp ha (fold_lst hp ha hc)).symm
theorem lst_cand (hp : Gr p) (ha : a < p.length) : Cand p a (lst p a) := (lst_ok hp ha).1
theorem lst_gr (hp : Gr p) (ha : a < p.length) : Gr (lst p a) := (lst_cand hp ha).gr hp ha
theorem lst_bis (hp : Gr p) (ha : a < p.length) : Bis p a (lst p a) 0 := (lst_cand hp ha).bis hp ha
theorem lst_pos (hp : Gr p) (ha : a < p.length) : 0 < (lst p a).length := (lst_gr hp ha).1
/-- the same set, the same least picture -/
theorem lst_same (hp : Gr p) (hq : Gr q) (ha : a < p.length) (hb : b < q.length) : lst p a = lst q b ↔ Bis p a q b := by
  constructor
  · intro e
    have h1 := lst_bis hp ha
    rw [e] at h1
    exact h1.trans (lst_bis hq hb).symm
  · intro h
    exact lst_eq hp ha ⟨h.symm.cand hq hp hb ha (lst_cand hq hb), fun c' hc' => (lst_ok hq hb).2 c' (h.cand hp hq ha hb hc')⟩
theorem lst_lst (hp : Gr p) (ha : a < p.length) : lst (lst p a) 0 = lst p a := (lst_same (lst_gr hp ha) hp (lst_pos hp ha) ha).2 (lst_bis hp ha).symm
theorem lst_len (hp : Gr p) (ha : a < p.length) (hc : Cand p a c) : (lst p a).length = c.length := (lst_cand hp ha).len hc
theorem lst_le (hp : Gr p) (ha : a < p.length) : (lst p a).length ≤ p.length := by
  obtain ⟨L, hL, e⟩ := lst_cand hp ha
  rw [e, qp_len]; exact (hL.len hp ha).2
theorem lst_pic (hp : Pic p) (ha : a < p.length) : Pic (lst p a) := by
  have h := lst_gr hp.gr ha
  exact ⟨h.1, Nat.le_trans (lst_le hp.gr ha) hp.2.1, h.2.2⟩
/-- a least picture -/
def LeastP (p : List (List Int)) : Prop := Pic p ∧ lst p 0 = p
theorem LeastP.lst (hp : Gr p) (ha : a < p.length) (h5 : (Hs.lst p a).length ≤ 5) : LeastP (Hs.lst p a) := by
  have h := lst_gr hp ha
  exact ⟨⟨h.1, h5, h.2.2⟩, lst_lst hp ha⟩
/-- what comes of a search: at best one of those at hand -/
def Srch (c : List (List Int)) (o : List Nat) (best best' : List (List Int)) : Prop :=
  (best' = best ∨ ∃ o', o <+: o' ∧ Ord c.length o' ∧ best' = reo c o') ∧ bytesLess (txt best) (txt best') = false ∧ ∀ o', o <+: o' → Ord c.length o' → bytesLess (txt (reo c o')) (txt best') = false
theorem Srch.full (ho : Ord c.length o) (best : List (List Int)) : Srch c o best (lstep c best (reo c o)) := by
  have hpre : ∀ o', o <+: o' → Ord c.length o' → o' = o := fun o' h1 h2 => (h1.eq_of_length (by rw [ho.1, h2.1])).symm
  unfold lstep
  split
  · rename_i h
    refine ⟨.inr ⟨o, List.prefix_refl _, ho, rfl⟩, ?_, fun o' h1 h2 => by rw [hpre o' h1 h2]; exact bless_irr _⟩
    cases hh : bytesLess (txt best) (txt (reo c o)) with
    | false => rfl
    | true => have := bless_trans _ _ _ h hh; rw [bless_irr] at this; cases this
  · rename_i h
    exact ⟨.inl rfl, bless_irr _, fun o' h1 h2 => by rw [hpre o' h1 h2]; simpa using h⟩
/-- a search among the nodes below k put next -/
def SrchK (c : List (List Int)) (o : List Nat) (k : Nat) (best best' : List (List Int)) : Prop :=
  (best' = best ∨ ∃ o', o <+: o' ∧ Ord c.length o' ∧ best' = reo c o') ∧ bytesLess (txt best) (txt best') = false ∧ ∀ v o', v < k → (o ++ [v]) <+: o' → Ord c.length o' → bytesLess (txt (reo c o')) (txt best') = false
theorem SrchK.zero (best : List (List Int)) : SrchK c o 0 best best := ⟨.inl rfl, bless_irr _, fun v o' h => by omega⟩
theorem SrchK.skip {best best' : List (List Int)} (h : SrchK c o k best best') (hk : k ∈ o) : SrchK c o (k + 1) best best' := by
  refine ⟨h.1, h.2.1, fun v o' hv hp ho => ?_⟩
  by_cases e : v = k
  · exfalso
    subst e
    obtain ⟨t, rfl⟩ := hp
    have := ho.2.1
    rw [List.append_assoc, List.nodup_append] at this
    exact this.2.2 v hk v (by simp) rfl
  · exact h.2.2 v o' (by omega) hp ho
theorem SrchK.step {best best' best'' : List (List Int)} (h : SrchK c o k best best') (h2 : Srch c (o ++ [k]) best' best'') : SrchK c o (k + 1) best best'' := by
  refine ⟨?_, bless_ge h.2.1 h2.2.1, fun v o' hv hp ho => ?_⟩
  · rcases h2.1 with e | ⟨o', h3, h4, h5⟩
    · rw [e]; exact h.1
    · exact .inr ⟨o', (List.prefix_append _ _).trans h3, h4, h5⟩
  · by_cases e : v = k
    · subst e; exact h2.2.2 o' hp ho
    · exact bless_ge (h.2.2 v o' (by omega) hp ho) h2.2.1
theorem SrchK.all {best best' : List (List Int)} (h : SrchK c o c.length best best') (hl : o.length < c.length) : Srch c o best best' := by
  refine ⟨h.1, h.2.1, fun o' hp ho => ?_⟩
  obtain ⟨t, rfl⟩ := hp
  cases t with
  | nil => exfalso; have := ho.1; simp at this; omega
  | cons v t => exact h.2.2 v _ (ho.2.2.2 v (by simp)) ⟨t, by simp⟩ ho
theorem Srch.lst {best' : List (List Int)} (hp : Gr p) (ha : a < p.length) (hc : Cand p a c) (h : Srch c [0] c best') : lst p a = best' := by
  refine lst_eq hp ha ⟨?_, fun c' hc' => ?_⟩
  · rcases h.1 with rfl | ⟨o', _, h1, rfl⟩
    · exact hc
    · exact reo_cand hc h1
  · obtain ⟨o, ho, rfl⟩ := cand_reo hc hc'
    refine h.2.2 o ?_ ho
    have := ho.2.2.1
    cases o with
    | nil => cases this
    | cons x o => simp at this; subst this; exact ⟨o, rfl⟩
end
end Go.Hs
set_option linter.unusedVariables false
set_option linter.unusedSimpArgs false
namespace Go.Hs
section
variable {p : List (List Int)} {a k n : Nat} {L : List Nat}
noncomputable def kndL (p : List (List Int)) : List Nat := (List.range p.length).map (knd p)
theorem kndL_len : (kndL p).length = p.length := by simp [kndL]
theorem kndL_at (h : k < (kndL p).length) : (kndL p)[k] = knd p k := by simp [kndL]
theorem ikndL_len : (ints (kndL p)).length = p.length := by rw [ints_len, kndL_len]
theorem ikndL_at (h : k < (ints (kndL p)).length) : (ints (kndL p))[k] = (knd p k : Int) := by
  rw [ints_len] at h
  rw [ints_get h, kndL_at]
theorem ikndL_getD (h : k < p.length) : (ints (kndL p)).getD k 0 = (knd p k : Int) := by
  rw [getD_lt (by rw [ikndL_len]; exact h), ikndL_at]
theorem first_knd (ha : a < p.length) {z : Int} (h : (z = -1 ∧ (1 : Int) ∉ (matV p (bsm p p.length))[a]'(by rw [matV_len]; exact ha)) ∨
    ∃ (j : Nat) (hj : j < ((matV p (bsm p p.length))[a]'(by rw [matV_len]; exact ha)).length), z = j ∧ ((matV p (bsm p p.length))[a]'(by rw [matV_len]; exact ha))[j] = 1 ∧ (1 : Int) ∉ ((matV p (bsm p p.length))[a]'(by rw [matV_len]; exact ha)).take j) : z = (knd p a : Int) := by
  obtain ⟨h1, h2, h3⟩ := knd_spec ha
  have hm := matV_rlen (p := p) (S := bsm p p.length) ha
  have hk : ((matV p (bsm p p.length))[a]'(by rw [matV_len]; exact ha))[knd p a]'(by rw [hm]; exact h1) = 1 := by
    rw [matV_at ha h1]; exact b01_one.2 h2
  rcases h with ⟨_, h4⟩ | ⟨j, hj, rfl, h4, h5⟩
  · exact absurd (hk ▸ List.getElem_mem _) h4
  · rw [hm] at hj
    rw [matV_at ha hj] at h4
    have h6 : eqv p a j = true := b01_one.1 h4
    rcases Nat.lt_trichotomy j (knd p a) with h7 | h7 | h7
    · rw [h3 j h7] at h6; cases h6
    · rw [h7]
    · exact absurd (List.mem_iff_getElem.2 ⟨knd p a, by rw [List.length_take, hm]; omega, by rw [List.getElem_take]; exact hk⟩) h5
/-- whether the arrow to j leads to y's kind -/
def ptF (p : List (List Int)) (K : List Int) (x y : Int) (j : Nat) : Bool := decide ((p.getD x.toNat []).getD j 0 = 1) && decide (K.getD j 0 = K.getD y.toNat 0)
def ptV (p : List (List Int)) (K L : List Int) : List (List Int) := L.map fun x => L.map fun y => b01 ((List.range p.length).any (ptF p K x y))
theorem ptV_len {K L : List Int} : (ptV p K L).length = L.length := by simp [ptV]
theorem pt_any (hp : Gr p) {x y : Nat} (hx : x < p.length) (hy : y < p.length) : (List.range p.length).any (ptF p (ints (kndL p)) (x : Int) (y : Int)) = (arr p (knd p x)).any fun j => decide (knd p j = knd p y) := by
  rw [Bool.eq_iff_iff, List.any_eq_true, List.any_eq_true]
  have hkx := knd_lt hx
  have hb := knd_self hp hx
  constructor
  · rintro ⟨j, hj, h⟩
    rw [List.mem_range] at hj
    simp only [ptF, Int.toNat_natCast, Bool.and_eq_true, decide_eq_true_eq, ikndL_getD hj, ikndL_getD hy] at h
    have hm : j ∈ arr p x := (mem_arr hp hx).2 ⟨hj, h.1⟩
    obtain ⟨j', hj', hb'⟩ := hb.fst j hm
    refine ⟨j', hj', ?_⟩
    rw [decide_eq_true_eq, ← (knd_bis hp hj (arr_lt hp hkx hj')).2 hb']
    have := h.2; omega
  · rintro ⟨j', hj', h⟩
    rw [decide_eq_true_eq] at h
    obtain ⟨j, hj, hb'⟩ := hb.snd j' hj'
    have hjl := arr_lt hp hx hj
    refine ⟨j, List.mem_range.2 hjl, ?_⟩
    simp only [ptF, Int.toNat_natCast, Bool.and_eq_true, decide_eq_true_eq, ikndL_getD hjl, ikndL_getD hy]
    refine ⟨((mem_arr hp hx).1 hj).2, ?_⟩
    rw [(knd_bis hp hjl (arr_lt hp hkx hj')).2 hb', h]
theorem ptV_qp (hp : Gr p) (hL : ∀ x ∈ L, x < p.length) : ptV p (ints (kndL p)) (ints L) = qp p (L.map (knd p)) := by
  unfold ptV qp ints
  simp only [List.map_map]
  refine List.map_congr_left fun x hx => ?_
  simp only [Function.comp_def]
  refine List.map_congr_left fun y hy => ?_
  have := pt_any hp (hL x hx) (hL y hy)
  unfold ints at this
  rw [this]
/-- the kinds found so far -/
structure Fnd (p : List (List Int)) (a k : Nat) (L : List Nat) : Prop where
  nd : (L.map (knd p)).Nodup
  hd : (L.map (knd p)).head? = some (knd p a)
  rc : ∀ x ∈ L, Rch p a x
  al : ∀ j (h : j < (rf p a).length), j < k → knd p (rf p a)[j] ∈ L.map (knd p)
theorem Fnd.zero' {r : Nat} (hr : Rch p a r) (hk : knd p r = knd p a) : Fnd p a 0 [r] := ⟨by simp, by simp [hk], fun x hx => by rw [List.mem_singleton.1 hx]; exact hr, fun j h h2 => by omega⟩
theorem Fnd.zero : Fnd p a 0 [a] := Fnd.zero' (.refl a) rfl
theorem Fnd.skip (h : Fnd p a k L) (hk : k < (rf p a).length) (hm : knd p (rf p a)[k] ∈ L.map (knd p)) : Fnd p a (k + 1) L := ⟨h.nd, h.hd, h.rc, fun j hj h2 => by
  rcases Nat.lt_or_ge j k with h3 | h3
  · exact h.al j hj h3
  · obtain rfl : j = k := by omega
    exact hm⟩
theorem Fnd.step (hp : Gr p) (ha : a < p.length) (h : Fnd p a k L) (hk : k < (rf p a).length) (hm : knd p (rf p a)[k] ∉ L.map (knd p)) : Fnd p a (k + 1) (L ++ [(rf p a)[k]]) := by
  refine ⟨?_, ?_, fun x hx => ?_, fun j hj h2 => ?_⟩
  · rw [List.map_append, List.nodup_append]
    refine ⟨h.nd, by simp, fun x hx y hy e => ?_⟩
    simp only [List.map_cons, List.map_nil, List.mem_singleton] at hy
    subst hy; subst e; exact hm hx
  · rw [List.map_append, List.head?_append, h.hd]; rfl
  · rcases List.mem_append.1 hx with hx | hx
    · exact h.rc x hx
    · rw [List.mem_singleton.1 hx]
      exact (mem_rf hp ha).1 (List.getElem_mem hk)
  · rw [List.map_append, List.mem_append]
    rcases Nat.lt_or_ge j k with h3 | h3
    · exact .inl (h.al j hj h3)
    · obtain rfl : j = k := by omega
      exact .inr (by simp)
theorem Fnd.kds (hp : Gr p) (ha : a < p.length) (h : Fnd p a k L) (hk : (rf p a).length ≤ k) : Kds p a (L.map (knd p)) := by
  refine ⟨h.nd, h.hd, fun x => ⟨fun hx => ?_, ?_⟩⟩
  · obtain ⟨y, hy, rfl⟩ := List.mem_map.1 hx
    exact ⟨y, h.rc y hy, rfl⟩
  · rintro ⟨y, hy, rfl⟩
    obtain ⟨j, hj, e⟩ := List.mem_iff_getElem.1 ((mem_rf hp ha).2 hy)
    have := h.al j hj (by omega)
    rwa [e] at this
theorem Fnd.lt (hp : Gr p) (ha : a < p.length) (h : Fnd p a k L) {x : Nat} (hx : x ∈ L) : x < p.length := (h.rc x hx).lt hp ha
theorem Fnd.len (hp : Gr p) (ha : a < p.length) (h : Fnd p a k L) : L.length ≤ p.length := by
  have := nodup_len h.nd (n := p.length) fun j hj => by
    obtain ⟨y, hy, rfl⟩ := List.mem_map.1 hj
    exact knd_lt (h.lt hp ha hy)
  simpa using this
/-- a row of the picture of kinds, from any node of the kind -/
def krow (p : List (List Int)) (K : List Nat) (l : List Nat) : List Int := K.map fun y => b01 (l.any fun j => decide (knd p j = y))
theorem krow_len {K l : List Nat} : (krow p K l).length = K.length := by simp [krow]
theorem krow_none {K : List Nat} : krow p K [] = List.replicate K.length 0 := by
  rw [← List.map_const']
  exact List.map_congr_left fun y _ => rfl
theorem krow_step {K l : List Nat} {j m : Nat} (hn : K.Nodup) (hm : m < K.length) (hj : knd p j = K[m]) : (krow p K l).set m 1 = krow p K (l ++ [j]) := by
  apply List.ext_getElem (by simp [krow])
  intro i h1 h2
  rw [List.getElem_set]
  have hi : i < K.length := by simpa [krow] using h2
  simp only [krow, List.getElem_map, List.any_append, List.any_cons, List.any_nil, Bool.or_false]
  by_cases e : m = i
  · subst e
    have : decide (knd p j = K[m]) = true := decide_eq_true hj
    rw [if_pos rfl, this, Bool.or_true]; rfl
  · have : decide (knd p j = K[i]) = false := decide_eq_false fun h => e ((List.getElem_inj hn).1 (hj.symm.trans h))
    rw [if_neg e, this, Bool.or_false]
theorem krow_qp (hp : Gr p) {K : List Nat} {v i : Nat} (hv : v < p.length) (hi : i < K.length) (hk : knd p v = K[i]) (hK : ∀ x ∈ K, x < p.length) (hkk : ∀ x ∈ K, knd p x = x) : krow p K (arr p v) = (qp p K)[i]'(by rw [qp_len]; exact hi) := by
  simp only [qp, List.getElem_map, krow]
  refine List.map_congr_left fun y hy => ?_
  congr 1
  have hb := knd_self hp hv
  rw [hk] at hb
  have hil := hK K[i] (List.getElem_mem hi)
  rw [Bool.eq_iff_iff, List.any_eq_true, List.any_eq_true]
  constructor
  · rintro ⟨j, hj, h⟩
    obtain ⟨j', hj', hb'⟩ := hb.fst j hj
    exact ⟨j', hj', by rw [decide_eq_true_eq] at h ⊢; rw [← (knd_bis hp (arr_lt hp hv hj) (arr_lt hp hil hj')).2 hb', h]⟩
  · rintro ⟨j, hj, h⟩
    obtain ⟨j', hj', hb'⟩ := hb.snd j hj
    exact ⟨j', hj', by rw [decide_eq_true_eq] at h ⊢; rw [(knd_bis hp (arr_lt hp hv hj') (arr_lt hp hil hj)).2 hb', h]⟩
/-- rows laid so far, the others empty -/
def fq (Q : List (List Int)) (n i : Nat) : List (List Int) := Q.take i ++ List.replicate (n - i) (List.replicate n 0)
theorem fq_len {Q : List (List Int)} {i : Nat} (hQ : Q.length = n) (hi : i ≤ n) : (fq Q n i).length = n := by simp [fq]; omega
theorem fq_at {Q : List (List Int)} {i : Nat} (hQ : Q.length = n) (hi : i < n) : (fq Q n i)[i]'(by rw [fq_len hQ (by omega)]; exact hi) = List.replicate n 0 := by
  have hl : (Q.take i).length = i := by simp; omega
  unfold fq
  rw [List.getElem_append_right (by omega)]
  simp
theorem fq_set {Q : List (List Int)} {i : Nat} (hQ : Q.length = n) (hi : i < n) {r : List Int} (hr : Q[i]'(by omega) = r) : (fq Q n i).set i r = fq Q n (i + 1) := by
  have hl : (Q.take i).length = i := by simp; omega
  unfold fq
  rw [List.set_append_right _ _ (by omega), hl, Nat.sub_self, show n - i = (n - (i + 1)) + 1 by omega, List.replicate_succ, List.set_cons_zero, take_snoc _ _ (by omega), List.append_assoc, hr]
  rfl
theorem fq_all {Q : List (List Int)} (hQ : Q.length = n) : fq Q n n = Q := by
  unfold fq
  rw [List.take_of_length_le (by omega)]; simp
theorem row_next {Q rows : List (List Int)} {i k : Nat} {r r' : List Int} {x : Int} (hrw : rows = Q.set i r) (hi : i < rows.length) (h : rows[i].set k x = r') : rows.set i (rows[i].set k x) = Q.set i r' := by
  rw [h]; subst hrw; rw [List.set_set]
end
end Go.Hs
namespace Go.Proofs.YtgphoihilheoeaaGreatDoor
open Go.Hs
set_option maxRecDepth 10000
set_option maxHeartbeats 4000000
set_option linter.unusedVariables false
set_option linter.unusedSimpArgs false

theorem IndexAt_ok (w : World) (v : Value) (xs : List Int) (h : Ints w v xs) (n : Int) :
    Does Tryz.prog 75 [v, .int .i64 n] w (RetX w (Value.int .i64) (fun z _ => (z = -1 ∧ n ∉ xs) ∨ ∃ (j : Nat) (hj : j < xs.length), z = j ∧ xs[j] = n ∧ n ∉ xs.take j)) := by
  have hle := h.le
  refine fn_of_W1 Tryz.func75 rfl Tryz.results75 Tryz.ntmps75 rfl ?_
  focus
    refine W_seq ?_; refine W_region rfl ?_; refine Wo rfl (opv_assign (v := .int _ _) rfl) ?_; refine Wo_nil ?_; refine W_seq ?_; refine W_seq ?_; refine W_region rfl ?_; refine Wo rfl (opv_move (v := v) rfl) ?_
    refine Wo rfl (opv_len Tryz.underlying58 rfl h) ?_; refine Wo rfl (opv_move (v := .int _ _) rfl) ?_; refine Wo_nil ?_; refine W_block ?_
  refine W_loop [4, 5, 8, 9, 10, 11, 12, 13, 14, 15, 16, 17, 18] (fun (k : Nat) => [(8, .int .i64 (k : Nat))]) (fun k w' => Ext w w' ∧ k ≤ xs.length ∧ n ∉ xs.take k) (fun x => xs.length - x) 0 (by repeat (first | exact trivial | refine And.intro rfl ?_)) ?_ ?_
  · exact ⟨Ext.refl _, Nat.zero_le _, by simp⟩
  rintro k ρj w1 ⟨E1, hk, hg⟩
  by_cases hlt : k < xs.length
  · focus
      have szE1 := E1.size; refine W_seq ?_; refine W_region rfl ?_; refine Wo rfl (opv_lss rfl rfl) ?_; refine Wo_nil ?_; refine W_seq ?_; refine W_cond_dec rfl (fun h1 => ?_) (fun h1 => ?_); refine W_skip ?_; refine W_seq ?_
      refine W_block ?_; refine W_seq ?_; refine W_region rfl ?_; refine Wo rfl (opv_move (v := .int _ _) rfl) ?_; refine Wo rfl (opv_assign (v := .int _ _) rfl) ?_; refine Wo_nil ?_; refine W_seq ?_; refine W_region rfl ?_
      refine Wo rfl (opv_move (v := .int _ _) rfl) ?_; refine Wo rfl (opv_move (v := v) rfl) ?_; refine Wo rfl (opv_move (v := .int _ _) rfl) ?_
      refine Wo_get Tryz.underlying58 Tryz.sizeOf3 Tryz.isAgg3 rfl (fun _ => rfl) rfl h E1 rfl (by first | omega | (simp <;> omega)) ?_; rintro _ _ rfl; refine Wo rfl (opv_eql rfl rfl) ?_; refine Wo_nil ?_
      refine W_cond_dec rfl (fun h2 => ?_) (fun h2 => ?_); refine W_seq ?_; refine W_region rfl ?_; refine Wo rfl (opv_move (v := .int _ _) rfl) ?_; refine Wo rfl (opv_assign (v := .int _ _) rfl) ?_; refine Wo_nil ?_; refine W_ret ?_
      refine at_ret (v := .int _ _) rfl ?_; refine ⟨E1, _, rfl, ?_⟩; (try dsimp only); rotate_left; refine W_skip ?_; refine W_region rfl ?_; refine Wo rfl (opv_add rfl rfl (by omega)) ?_; refine Wo rfl (opv_move (v := .int _ _) rfl) ?_
      refine Wo_nil ?_; rotate_left; (exfalso; omega)
    · exact .inr ⟨k, hlt, rfl, (by assumption : n = xs[k]).symm, hg⟩
    · have e : ¬ n = xs[k] := by assumption
      refine ⟨(k + 1), by repeat (first | exact trivial | refine And.intro rfl ?_), by repeat (first | with_reducible exact Same.refl | refine Same.upd rfl ?_ | refine Same.upds rfl ?_ | refine Same.mix rfl ?_), ?_, ?_⟩
      · refine ⟨E1, by omega, ?_⟩
        rw [take_snoc _ _ hlt, List.mem_append]
        rintro (h9 | h9)
        · exact hg h9
        · exact e (List.mem_singleton.1 h9)
      · omega
  · obtain rfl : k = xs.length := by omega
    focus
      have szE1 := E1.size; refine W_seq ?_; refine W_region rfl ?_; refine Wo rfl (opv_lss rfl rfl) ?_; refine Wo_nil ?_; refine W_seq ?_; refine W_cond_dec rfl (fun h1 => ?_) (fun h1 => ?_); (exfalso; omega); refine W_exit ?_
      refine exitX_same ?_; refine W_seq ?_; refine W_region rfl ?_; refine Wo rfl (opv_assign (v := .int _ _) rfl) ?_; refine Wo_nil ?_; refine W_ret ?_; refine at_ret (v := .int _ _) rfl ?_; refine ⟨E1, _, rfl, ?_⟩; (try dsimp only)
    exact .inl ⟨rfl, by simpa using hg⟩

theorem kindsOf_ok (w : World) (v : Value) (p : List (List Int)) (h : ESl Ints w v p) (hp : Gr p) : Does Tryz.prog 70 [v] w (RetO w XI (ints (kndL p))) := by
  have hp5 := hp.2.1
  have hle := h.le
  have k1 : ∀ (w : World) (v : Value), ESl Ints w v p → Does Tryz.prog 60 [v, .int .i64 (p.length : Int)] w (RetO w XR (matV p (bsm p p.length))) := fun w v h => leftAfter_ok w v p h hp _ (by omega)
  have hml := matV_len (p := p) (bsm p p.length)
  have hkl := ikndL_len (p := p)
  refine fn_of_W1 Tryz.func70 rfl Tryz.results70 Tryz.ntmps70 rfl ?_
  focus
    refine W_seq ?_; refine W_region rfl ?_; refine Wo rfl (opv_assign (v := .slice _ _ _) rfl) ?_; refine Wo_nil ?_; refine W_seq ?_; refine W_region rfl ?_; refine Wo_lit0 XInt rfl el58 Tryz.sizeOf3 ?_; rintro b1 w1 hb1 b1lt E1 hO1
    have hs1 := E1.size; refine Wo rfl (opv_assign (v := .slice _ _ _) rfl) ?_; refine Wo_nil ?_; refine W_seq ?_; refine W_seq ?_; refine W_region rfl ?_; refine Wo rfl (opv_move (v := v) rfl) ?_
    refine Wo rfl (opv_move (v := v) rfl) ?_; refine Wo rfl (opv_len Tryz.underlying22 rfl h) ?_; refine Wo_call rfl (opc2 (a := v) (b := .int _ _) Tryz.call60 rfl rfl) (k1 _ _ ((Mono.mono E1 h))) ?_; rintro u1 w2 ⟨E2, hO2⟩
    have hs2 := E2.size; refine Wo rfl (opv_len Tryz.underlying22 rfl (Owned.read hO2)) ?_; refine Wo rfl (opv_move (v := .int _ _) rfl) ?_; refine Wo_nil ?_; refine W_block ?_
  have hBe : Besides (Value.slice (some ⟨b1, 0, none⟩) 0 0).ownBlock (ESl Ints) w2 u1 (matV p (bsm p p.length)) := Besides.start hO1 hO2.above
  refine W_loop [3, 5, 12, 13, 14, 15, 16, 17, 18, 19, 20, 21] (fun ((k, u) : Nat × Value) => [(12, .int .i64 (k : Nat)), (3, u)]) (fun (k, u) w' => Ext w w' ∧ k ≤ p.length ∧ Owned w.heap.size XI w' u ((ints (kndL p)).take k) ∧ Besides u.ownBlock (ESl Ints) w' u1 (matV p (bsm p p.length))) (fun x => p.length - x.1) (0, .slice (some ⟨b1, 0, none⟩) 0 0) (by repeat (first | exact trivial | refine And.intro rfl ?_)) ?_ ?_
  · exact ⟨by first | assumption | exact E1.trans E2, Nat.zero_le _, by simpa using hO1.ext E2, hBe⟩
  clear hBe hO1 hO2
  rintro ⟨k, u⟩ ρj w3 ⟨E3, hk, hO1, hBe⟩
  by_cases hlt : k < p.length
  · have htl : ((ints (kndL p)).take k).length = k := by simp; omega
    focus
      have szE3 := E3.size; have szE2 := E2.size; have szE1 := E1.size; refine W_seq ?_; refine W_region rfl ?_; refine Wo rfl (opv_lss rfl rfl) ?_; refine Wo_nil ?_; refine W_seq ?_; refine W_cond_dec rfl (fun h1 => ?_) (fun h1 => ?_)
      refine W_skip ?_; refine W_seq ?_; refine W_block ?_; refine W_seq ?_; refine W_region rfl ?_
      refine Wo_get Tryz.underlying22 Tryz.sizeOf58 Tryz.isAgg58 rfl (fun _ => rfl) rfl (Besides.here hBe) (Ext.refl _) rfl (by first | omega | (simp <;> omega)) ?_; rintro _ u2 hu1; refine Wo rfl (opv_assign (v := u2) rfl) ?_
      refine Wo_nil ?_; refine W_region rfl ?_; refine Wo rfl (opv_move (v := u) rfl) ?_; refine Wo rfl (opv_move (v := u2) rfl) ?_; refine Wo_call rfl (opc2 (a := u2) (b := .int _ _) Tryz.call75 rfl rfl) (IndexAt_ok _ _ _ (hu1) _) ?_
      rintro _ w4 ⟨E4, y1, rfl, hy1⟩; have hs3 := E4.size; refine Wo_buildSliceH (ps := [(0, .int _ _)]) (cs := [_]) rfl Tryz.underlying58 Tryz.sizeOf3 Tryz.zeroValue3 rfl rfl rfl rfl ?_; rintro b2 w5 hb2 E5 hB1 hHb2; have hlb2 := hB1.lt
      have hs4 := E5.size; refine Wo_app1 rfl el58 rfl rfl hB1 (hO1.toB.ext (E4.trans E5)) Owned.int (Nat.le_refl _) (by first | omega | (simp <;> omega)) (by omega) (by omega) ((E3.trans E4).trans E5) (by omega) ?_
      have hT1 := (hO1.toB.ext (E4.trans E5)); rintro v1 w6 hO1 E6 M1; have hBe := (hBe.ext (E4.trans E5)).moves M1; have hB1 := hB1.moves M1 hT1 (by omega); have hs5 := E6.size; refine Wo rfl (opv_assign (v := v1) rfl) ?_
      refine Wo_nil ?_; refine W_region rfl ?_; refine Wo rfl (opv_add rfl rfl (by omega)) ?_; refine Wo rfl (opv_move (v := .int _ _) rfl) ?_; refine Wo_nil ?_; rotate_left; (exfalso; omega)
    have e := first_knd hlt hy1
    subst e
    refine ⟨((k + 1, v1)), by repeat (first | exact trivial | refine And.intro rfl ?_), by repeat (first | with_reducible exact Same.refl | refine Same.upd rfl ?_ | refine Same.upds rfl ?_ | refine Same.mix rfl ?_), ?_, ?_⟩
    · refine ⟨by assumption, by omega, ?_, by assumption⟩
      rw [take_snoc _ _ (by omega), ikndL_at]
      assumption
    · simp only; omega
  · obtain rfl : k = p.length := by omega
    focus
      have szE3 := E3.size; have szE2 := E2.size; have szE1 := E1.size; refine W_seq ?_; refine W_region rfl ?_; refine Wo rfl (opv_lss rfl rfl) ?_; refine Wo_nil ?_; refine W_seq ?_; refine W_cond_dec rfl (fun h1 => ?_) (fun h1 => ?_)
      (exfalso; omega); refine W_exit ?_; refine exitX_same ?_; refine W_seq ?_; refine W_region rfl ?_; refine Wo rfl (opv_move (v := u) rfl) ?_; refine Wo rfl (opv_assign (v := u) rfl) ?_; refine Wo_nil ?_; refine W_ret ?_
      refine ⟨E3, (congrArg (Owned _ _ _ _) ?_).mp (hO1.toB.o.mono (by omega))⟩
    rw [List.take_of_length_le (by omega)]

theorem spec_KindsOf_ok (w : World) (v : Value) (p : List (List Int)) (h : ESl Ints w v p) : Does Tryz.prog 79 [v] w (RetO w XI (if Pic p then ints (kndL p) else [])) := by
  have hle := h.le
  by_cases hp : Pic p
  · have hp5 := hp.2.1
    rw [if_pos hp]
    have k1 : ∀ (w : World) (v : Value), ESl Ints w v p → Does Tryz.prog 90 [v] w (RetO w XR (matV p (bsm p p.length))) := fun w v h => by
      have := SameRows_ok w v p h
      rw [show leftV p p.length = matV p (bsm p p.length) from by unfold leftV; rw [if_pos ⟨hp, by omega, by omega⟩]; rfl] at this; exact this
    have hml := matV_len (p := p) (bsm p p.length)
    have hkl := ikndL_len (p := p)
    refine fn_of_W1 Tryz.func79 rfl Tryz.results79 Tryz.ntmps79 rfl ?_
    focus
      refine W_seq ?_; refine W_region rfl ?_; refine Wo rfl (opv_assign (v := .slice _ _ _) rfl) ?_; refine Wo_nil ?_; refine W_seq ?_; refine W_region rfl ?_; refine Wo_lit0 XInt rfl el58 Tryz.sizeOf3 ?_; rintro b1 w1 hb1 b1lt E1 hO1
      have hs1 := E1.size; refine Wo rfl (opv_assign (v := .slice _ _ _) rfl) ?_; refine Wo_nil ?_; refine W_seq ?_; refine W_region rfl ?_; refine Wo rfl (opv_move (v := v) rfl) ?_
      refine Wo_call rfl (opc1 (a := v) Tryz.call90 rfl) (k1 _ _ ((Mono.mono E1 h))) ?_; rintro u1 w2 ⟨E2, hO2⟩; have hs2 := E2.size; refine Wo rfl (opv_assign (v := u1) rfl) ?_; refine Wo_nil ?_; refine W_seq ?_; refine W_seq ?_
      refine W_region rfl ?_; refine Wo rfl (opv_assign (v := .int _ _) rfl) ?_; refine Wo_nil ?_; refine W_block ?_
    have hBe : Besides (Value.slice (some ⟨b1, 0, none⟩) 0 0).ownBlock (ESl Ints) w2 u1 (matV p (bsm p p.length)) := Besides.start hO1 hO2.above
    refine W_loop [3, 5, 6, 10, 11, 12, 13, 14, 15, 16, 17, 18, 19, 20, 21, 22, 23, 24, 25, 26, 27, 28, 29, 30, 31, 32, 33] (fun ((k, u) : Nat × Value) => [(5, .int .i64 (k : Nat)), (3, u)]) (fun (k, u) w' => Ext w w' ∧ k ≤ p.length ∧ Owned w.heap.size XI w' u ((ints (kndL p)).take k) ∧ Besides u.ownBlock (ESl Ints) w' u1 (matV p (bsm p p.length))) (fun x => p.length - x.1) (0, .slice (some ⟨b1, 0, none⟩) 0 0) (by repeat (first | exact trivial | refine And.intro rfl ?_)) ?_ ?_
    · exact ⟨by first | assumption | exact E1.trans E2, Nat.zero_le _, by simpa using hO1.ext E2, hBe⟩
    clear hBe hO1 hO2
    rintro ⟨k, u⟩ ρj w3 ⟨E3, hk, hO1, hBe⟩
    by_cases hlt : k < p.length
    · have htl : ((ints (kndL p)).take k).length = k := by simp; omega
      obtain ⟨g1, g2, g3⟩ := knd_spec hlt
      focus
        have szE3 := E3.size; have szE2 := E2.size; have szE1 := E1.size; refine W_seq ?_; refine W_seq ?_; refine W_region rfl ?_; refine Wo rfl (opv_move (v := .int _ _) rfl) ?_; refine Wo rfl (opv_move (v := u1) rfl) ?_
        refine Wo rfl (opv_len Tryz.underlying22 rfl (Besides.here hBe)) ?_; refine Wo rfl (opv_lss rfl rfl) ?_; refine Wo_nil ?_; refine W_cond_dec rfl (fun h1 => ?_) (fun h1 => ?_); refine W_skip ?_; refine W_seq ?_; refine W_block ?_
        refine W_seq ?_; refine W_region rfl ?_; refine Wo rfl (opv_assign (v := .int _ _) rfl) ?_; refine Wo_nil ?_; refine W_block ?_; rotate_left; (exfalso; omega)
      refine W_loop [3, 6, 16, 17, 18, 19, 20, 21, 22, 23, 24, 25, 26, 27, 28, 29, 30, 31, 32, 33] (fun (j : Nat) => [(6, .int .i64 (j : Nat)), (3, u)]) (fun j w' => w' = w3 ∧ j ≤ knd p k) (fun j => p.length - j) 0 (by repeat (first | exact trivial | refine And.intro rfl ?_)) ?_ ?_
      · exact ⟨rfl, Nat.zero_le _⟩
      rintro j ρk w4 ⟨rfl, hj⟩
      have hmr := matV_rlen (p := p) (S := bsm p p.length) hlt
      have hma := matV_at (p := p) (S := bsm p p.length) (a := k) (b := j) hlt (by omega)
      rcases Nat.lt_or_ge j (knd p k) with hjl | hjl
      · have h0 : ((matV p (bsm p p.length))[k]'(by omega))[j]'(by omega) = 0 := by rw [hma, show bsm p p.length k j = false from g3 j hjl]; rfl
        focus
          have szE3 := E3.size; have szE2 := E2.size; have szE1 := E1.size; refine W_seq ?_; refine W_seq ?_; refine W_region rfl ?_; refine Wo rfl (opv_move (v := .int _ _) rfl) ?_; refine Wo rfl (opv_move (v := u1) rfl) ?_
          refine Wo rfl (opv_len Tryz.underlying22 rfl (Besides.here hBe)) ?_; refine Wo rfl (opv_lss rfl rfl) ?_; refine Wo_nil ?_; refine W_cond_dec rfl (fun h2 => ?_) (fun h2 => ?_); refine W_skip ?_; refine W_seq ?_; refine W_block ?_
          refine W_seq ?_; refine W_region rfl ?_; refine Wo rfl (opv_move (v := u1) rfl) ?_; refine Wo rfl (opv_move (v := .int _ _) rfl) ?_
          refine Wo_get Tryz.underlying22 Tryz.sizeOf58 Tryz.isAgg58 rfl (fun _ => rfl) rfl (Besides.here hBe) (Ext.refl _) rfl (by first | omega | (simp <;> omega)) ?_; rintro _ u2 hu1; refine Wo rfl (opv_move (v := .int _ _) rfl) ?_
          refine Wo_get Tryz.underlying58 Tryz.sizeOf3 Tryz.isAgg3 rfl (fun _ => rfl) rfl hu1 (Ext.refl _) rfl (by first | omega | (simp <;> omega)) ?_; rintro _ _ rfl; refine Wo rfl (opv_eql rfl rfl) ?_; refine Wo_nil ?_
          refine W_cond_dec rfl (fun h3 => ?_) (fun h3 => ?_); (exfalso; omega); refine W_skip ?_; refine W_region rfl ?_; refine Wo rfl (opv_move (v := .int _ _) rfl) ?_; refine Wo rfl (opv_add rfl rfl (by omega)) ?_
          refine Wo rfl (opv_assign (v := .int _ _) rfl) ?_; refine Wo_nil ?_; rotate_left; (exfalso; omega)
        refine ⟨(j + 1), by repeat (first | exact trivial | refine And.intro rfl ?_), by repeat (first | with_reducible exact Same.refl | refine Same.upd rfl ?_ | refine Same.upds rfl ?_ | refine Same.mix rfl ?_), ?_, ?_⟩
        · exact ⟨rfl, by omega⟩
        · omega
      · obtain rfl : j = knd p k := by omega
        have h1 : ((matV p (bsm p p.length))[k]'(by omega))[knd p k]'(by omega) = 1 := by rw [hma, show bsm p p.length k (knd p k) = true from g2]; rfl
        focus
          have szE3 := E3.size; have szE2 := E2.size; have szE1 := E1.size; refine W_seq ?_; refine W_seq ?_; refine W_region rfl ?_; refine Wo rfl (opv_move (v := .int _ _) rfl) ?_; refine Wo rfl (opv_move (v := u1) rfl) ?_
          refine Wo rfl (opv_len Tryz.underlying22 rfl (Besides.here hBe)) ?_; refine Wo rfl (opv_lss rfl rfl) ?_; refine Wo_nil ?_; refine W_cond_dec rfl (fun h2 => ?_) (fun h2 => ?_); refine W_skip ?_; refine W_seq ?_; refine W_block ?_
          refine W_seq ?_; refine W_region rfl ?_; refine Wo rfl (opv_move (v := u1) rfl) ?_; refine Wo rfl (opv_move (v := .int _ _) rfl) ?_
          refine Wo_get Tryz.underlying22 Tryz.sizeOf58 Tryz.isAgg58 rfl (fun _ => rfl) rfl (Besides.here hBe) (Ext.refl _) rfl (by first | omega | (simp <;> omega)) ?_; rintro _ u2 hu1; refine Wo rfl (opv_move (v := .int _ _) rfl) ?_
          refine Wo_get Tryz.underlying58 Tryz.sizeOf3 Tryz.isAgg3 rfl (fun _ => rfl) rfl hu1 (Ext.refl _) rfl (by first | omega | (simp <;> omega)) ?_; rintro _ _ rfl; refine Wo rfl (opv_eql rfl rfl) ?_; refine Wo_nil ?_
          refine W_cond_dec rfl (fun h3 => ?_) (fun h3 => ?_); refine W_seq ?_; refine W_region rfl ?_; refine Wo rfl (opv_move (v := u) rfl) ?_; refine Wo rfl (opv_move (v := .int _ _) rfl) ?_
          refine Wo_buildSliceH (ps := [(0, .int _ _)]) (cs := [_]) rfl Tryz.underlying58 Tryz.sizeOf3 Tryz.zeroValue3 rfl rfl rfl rfl ?_; rintro b2 w3 hb2 E4 hB1 hHb2; have hlb2 := hB1.lt; have hs3 := E4.size
          refine Wo_app1 rfl el58 rfl rfl hB1 (hO1.toB.ext E4) Owned.int (Nat.le_refl _) (by first | omega | (simp <;> omega)) (by omega) (by omega) (E3.trans E4) (by omega) ?_; have hT1 := (hO1.toB.ext E4); rintro v1 w5 hO1 E5 M1
          have hBe := (hBe.ext E4).moves M1; have hB1 := hB1.moves M1 hT1 (by omega); have hs4 := E5.size; refine Wo rfl (opv_assign (v := v1) rfl) ?_; refine Wo_nil ?_; refine W_exit ?_; refine exitX_other rfl ?_; refine exitX_same ?_
          refine W_region rfl ?_; refine Wo rfl (opv_move (v := .int _ _) rfl) ?_; refine Wo rfl (opv_add rfl rfl (by omega)) ?_; refine Wo rfl (opv_assign (v := .int _ _) rfl) ?_; refine Wo_nil ?_; rotate_left; contradiction
          (exfalso; omega)
        refine ⟨((k + 1, v1)), by repeat (first | exact trivial | refine And.intro rfl ?_), by repeat (first | with_reducible exact Same.refl | refine Same.upd rfl ?_ | refine Same.upds rfl ?_ | refine Same.mix rfl ?_), ?_, ?_⟩
        · refine ⟨by assumption, by omega, ?_, by assumption⟩
          rw [take_snoc _ _ (by omega), ikndL_at]
          assumption
        · simp only; omega
    · obtain rfl : k = p.length := by omega
      focus
        have szE3 := E3.size; have szE2 := E2.size; have szE1 := E1.size; refine W_seq ?_; refine W_seq ?_; refine W_region rfl ?_; refine Wo rfl (opv_move (v := .int _ _) rfl) ?_; refine Wo rfl (opv_move (v := u1) rfl) ?_
        refine Wo rfl (opv_len Tryz.underlying22 rfl (Besides.here hBe)) ?_; refine Wo rfl (opv_lss rfl rfl) ?_; refine Wo_nil ?_; refine W_cond_dec rfl (fun h1 => ?_) (fun h1 => ?_); (exfalso; omega); refine W_exit ?_; refine exitX_same ?_
        refine W_seq ?_; refine W_region rfl ?_; refine Wo rfl (opv_move (v := u) rfl) ?_; refine Wo rfl (opv_assign (v := u) rfl) ?_; refine Wo_nil ?_; refine W_ret ?_
        refine ⟨E3, (congrArg (Owned _ _ _ _) ?_).mp (hO1.toB.o.mono (by omega))⟩
      rw [List.take_of_length_le (by omega)]
  · rw [if_neg hp]
    have k1 : ∀ (w : World) (v : Value), ESl Ints w v p → Does Tryz.prog 90 [v] w (RetO w XR []) := fun w v h => by
      have := SameRows_ok w v p h
      rw [show leftV p p.length = [] from if_neg fun h => hp h.1] at this; exact this
    refine fn_of_W1 Tryz.func79 rfl Tryz.results79 Tryz.ntmps79 rfl ?_
    focus
      refine W_seq ?_; refine W_region rfl ?_; refine Wo rfl (opv_assign (v := .slice _ _ _) rfl) ?_; refine Wo_nil ?_; refine W_seq ?_; refine W_region rfl ?_; refine Wo_lit0 XInt rfl el58 Tryz.sizeOf3 ?_; rintro b1 w1 hb1 b1lt E1 hO1
      have hs1 := E1.size; refine Wo rfl (opv_assign (v := .slice _ _ _) rfl) ?_; refine Wo_nil ?_; refine W_seq ?_; refine W_region rfl ?_; refine Wo rfl (opv_move (v := v) rfl) ?_
      refine Wo_call rfl (opc1 (a := v) Tryz.call90 rfl) (k1 _ _ ((Mono.mono E1 h))) ?_; rintro u1 w2 ⟨E2, hO2⟩; have hs2 := E2.size; refine Wo rfl (opv_assign (v := u1) rfl) ?_; refine Wo_nil ?_; refine W_seq ?_; refine W_seq ?_
      refine W_region rfl ?_; refine Wo rfl (opv_assign (v := .int _ _) rfl) ?_; refine Wo_nil ?_; refine W_block ?_
    refine W_loop [3, 5, 6, 10, 11, 12, 13, 14, 15, 16, 17, 18, 19, 20, 21, 22, 23, 24, 25, 26, 27, 28, 29, 30, 31, 32, 33] (fun (k : Nat) => [(5, .int .i64 (k : Nat)), (3, .slice (some ⟨b1, 0, none⟩) 0 0)]) (fun k w' => w' = w2 ∧ k = 0) (fun x => 0) 0 (by repeat (first | exact trivial | refine And.intro rfl ?_)) ?_ ?_
    · exact ⟨rfl, rfl⟩
    rintro k ρj w3 ⟨rfl, rfl⟩
    have hnil : (([] : List (List Int)).length : Int) = 0 := rfl
    focus
      have szE2 := E2.size; have szE1 := E1.size; refine W_seq ?_; refine W_seq ?_; refine W_region rfl ?_; refine Wo rfl (opv_move (v := .int _ _) rfl) ?_; refine Wo rfl (opv_move (v := u1) rfl) ?_
      refine Wo rfl (opv_len Tryz.underlying22 rfl (Owned.read hO2)) ?_; refine Wo rfl (opv_lss rfl rfl) ?_; refine Wo_nil ?_; refine W_cond_dec rfl (fun h1 => ?_) (fun h1 => ?_); contradiction; refine W_exit ?_; refine exitX_same ?_
      refine W_seq ?_; refine W_region rfl ?_; refine Wo rfl (opv_move (v := .slice _ _ _) rfl) ?_; refine Wo rfl (opv_assign (v := .slice _ _ _) rfl) ?_; refine Wo_nil ?_; refine W_ret ?_
      exact ⟨(E1.trans E2), (hO1.toB.ext E2).o.mono (by omega)⟩

end Go.Proofs.YtgphoihilheoeaaGreatDoor
set_option linter.unusedVariables false
namespace Go.Hs
section
variable {α : Type} {X : World → List Nat → Value → α → Prop} {w w' w0 w1 : World} {v u v' : Value} {x : α} {xs : List α} {lo hi lt ht br m i n cr : Nat} {e : TypeId}
theorem OwnedB.grown [Loc X] (h : OwnedB lo hi X w v x) (g : w.grownBy w' (some br)) (hb : br < lo ∨ hi ≤ br) : OwnedB lo hi X w' v x := by
  obtain ⟨fp, h1, h2, h3⟩ := h
  exact ⟨fp, h1, h2, Loc.loc (fun k hk => g.block k (Loc.lt h3 k hk) (by have := h2 k hk; simp; omega)) h3⟩
theorem RowAt.grown (h : RowAt w v i n m cr) (g : w.grownBy w' (some br)) (hv : v.ownBlock ≠ some br) : RowAt w' v i n m cr := by
  obtain ⟨b, m', c, rfl, h1, h2⟩ := h
  have hne : b ≠ br := fun e => hv (by simp [Value.ownBlock, e])
  exact ⟨b, m', c, rfl, h1, by rw [← h2]; exact World.cell?_of_block (g.block b (World.block_lt_of_cell? _ _ h2) (by simp [hne]))⟩
theorem own_notin (k : OwnedB lt ht (XSl e X) w v xs) {b : Nat} (hd : ht ≤ b ∨ b < lt) : some b ≠ v.ownBlock := by
  intro h
  obtain ⟨fq, k1, k2, cs, fps, k3, rfl, k4⟩ := k
  have := k2 b (by simp [← h])
  omega
theorem Rdr.moves (h : Rdr w0 w br m) (E : Ext w0 w') (M : Moves w v w' v') (k : OwnedB lt ht (XSl e X) w v xs) (hd : ht ≤ br ∨ br < lt) : Rdr w0 w' br m := by
  obtain ⟨h1, h2, h3, vb, bs, p, h4, h5, h6, h7⟩ := h
  exact ⟨E, h2, Nat.lt_of_lt_of_le h3 M.1.size, vb, bs, p, h4, h5, h6.of_heap (M.1.block br h3 (own_notin k hd)), h7⟩
theorem grownBy_moves (h : w1.grownBy w (some br)) (M : Moves w v w' v') (k : OwnedB lt ht (XSl e X) w v xs) (hd : w1.heap.size ≤ lt) : w1.grownBy w' (some br) := by
  exact ⟨M.1.os.trans h.os, M.1.tape.trans h.tape, M.1.output.trans h.output, Nat.le_trans h.size M.1.size, fun j hj hr => (M.1.block j (Nat.lt_of_lt_of_le hj h.size) (own_notin k (.inr (by omega)))).trans (h.block j hj hr)⟩
/-- What a draw leaves that hands back data of its own. -/
def RetDO (w0 w : World) (br m : Nat) (X : World → List Nat → Value → α → Prop) (p : α → Prop) : Value → World → Prop := fun v w' => w.grownBy w' (some br) ∧ Rdr w0 w' br m ∧ ∃ x, Owned w.heap.size X w' v x ∧ p x
end
section
variable {w w' : World} {v v' : Value} {lo hi lo' i m cr b n c brw : Nat} {e e2 : TypeId} {p : List (List Int)} {row : List Int}
theorem slice_len {w : World} {e : TypeId} {a : Option Addr} {n m c : Nat} {cs : List Value} (h : w.ownsRow 0 e 1 (.slice a n c) m cs) : n = m := by
  rcases h.2 with ⟨h6, h7⟩ | ⟨g, cap, cur, h6, _⟩
  · cases h6; exact h7.symm
  · cases h6; rfl
/-- A row of own rows is an own one. -/
theorem OwnedB.rowOwn (h : OwnedB lo hi (XSl e (XSl e2 XInt)) w v p) (hR : RowAt w v i brw m cr) (hi' : i < p.length) : m = p[i].length ∧ OwnedB brw (brw + 1) (XSl e2 XInt) w (.slice (some ⟨brw, 0, none⟩) m cr) p[i] := by
  obtain ⟨fp, h1, h2, cs, fps, h3, rfl, h5⟩ := h
  obtain ⟨f, u, h6, h7, h8⟩ := h5.at hi'
  obtain ⟨b, m', c, rfl, hne, hcell⟩ := hR
  have hl := h5.len
  have := slice_len h3
  subst this
  rw [h3.cellAt i (by omega), h7] at hcell
  cases hcell
  have hf := XI_fp h8
  subst hf
  have h8' := h8
  obtain ⟨cs', fps', k3, _, _⟩ := h8'
  exact ⟨slice_len k3, _, by simp [Value.ownBlock], fun k hk => by simp [Value.ownBlock] at hk; omega, h8⟩
/-- A row appended to, and put back. -/
theorem OwnedB.rowBack (h : OwnedB lo hi (XSl e (XSl e2 XInt)) w (.slice (some ⟨b, 0, none⟩) n c) p) (hR : RowAt w (.slice (some ⟨b, 0, none⟩) n c) i brw m cr) (hi' : i < p.length)
    (M : Moves w (.slice (some ⟨brw, 0, none⟩) m cr) w' v') (hN : Owned lo' (XSl e2 XInt) w' v' row) (hlo : lo ≤ w.heap.size) :
    Owned lo (XSl e (XSl e2 XInt)) (w'.setCell ⟨b, i, none⟩ v') (.slice (some ⟨b, 0, none⟩) n c) (p.set i row) ∧ isCell v' = true ∧ (∃ u, w'.cell? ⟨b, i, none⟩ = some u) ∧ w'.frozen? ⟨b, i, none⟩ = false := by
  obtain ⟨fp, h1, h2, cs, fps, h3, rfl, h5⟩ := h
  obtain ⟨f, u, h6, h7, h8⟩ := h5.at hi'
  obtain ⟨b', m', c', ee, hne, hcell⟩ := hR
  simp only [Value.slice.injEq, Option.some.injEq, Addr.mk.injEq] at ee
  obtain ⟨⟨rfl, _⟩, rfl, rfl⟩ := ee
  have hl := h5.len
  have := slice_len h3
  subst this
  rw [h3.cellAt i (by omega), h7] at hcell
  cases hcell
  have hf := XI_fp h8
  subst hf
  obtain ⟨fn, n1, n2, hX⟩ := hN
  have hfn := XI_fp hX
  have h1' : (b :: fps.flatten).Nodup := h1
  rw [List.nodup_cons] at h1'
  have hltf := h5.lt
  have hblt : b < w.heap.size := (h3.lt b rfl).2
  have hbrw : brw ∈ fps.flatten := List.mem_flatten.2 ⟨_, List.mem_of_getElem? h6, by simp [Value.ownBlock]⟩
  have hsame : ∀ k, k < w.heap.size → k ≠ brw → w'.heap[k]? = w.heap[k]? := fun k hk hk' => M.1.block k hk (by simp [Value.ownBlock]; exact hk')
  have hfr : ∀ k ∈ fn, k = brw ∨ w.heap.size ≤ k := by
    intro k hk
    rw [hfn] at hk
    rcases M.2 with h9 | ⟨g, h9, hg⟩
    · rw [h9] at hk; simp [Value.ownBlock] at hk; exact .inl hk
    · rw [h9] at hk; simp at hk; right; omega
  have hbfn : b ∉ fn := fun hm => by
    rcases hfr b hm with h9 | h9
    · exact hne h9.symm
    · omega
  have h3' : w'.ownsRow 0 e 1 (.slice (some ⟨b, 0, none⟩) p.length c) p.length cs := ownsRow_loc (fun k hk => by
    have : b = k := by simpa [Value.ownBlock] using hk
    subst this
    exact hsame b hblt (fun e => hne e.symm)) h3
  have hst := h3'.stored i v'
  have hd : ∀ (j : Nat) g, j ≠ i → fps[j]? = some g → ∀ k ∈ g, k ≠ brw ∧ k ∈ fps.flatten := fun j g hj hg k hk =>
    ⟨fun e => flatten_apart h1'.2 h6 hg (fun e => hj e.symm) (by simp [Value.ownBlock, e]) hk, List.mem_flatten.2 ⟨g, List.mem_of_getElem? hg, hk⟩⟩
  have key : ∀ (fs : List (List Nat)) (i : Nat), fs.flatten.Nodup → fn.Nodup → (∀ (j : Nat) g, j ≠ i → fs[j]? = some g → ∀ k ∈ g, k ∉ fn) → (fs.set i fn).flatten.Nodup ∧ ∀ k ∈ (fs.set i fn).flatten, k ∈ fn ∨ k ∈ fs.flatten := by
    intro fs
    induction fs with
    | nil => intro i h1 h2 h3; simp
    | cons g fs ih =>
      intro i k1 k2 k3
      rw [List.flatten_cons, List.nodup_append] at k1
      cases i with
      | zero =>
        simp only [List.set_cons_zero, List.flatten_cons]
        refine ⟨List.nodup_append.2 ⟨k2, k1.2.1, fun a ha b hb hab => ?_⟩, fun k hk => ?_⟩
        · obtain ⟨g', hg', hb'⟩ := List.mem_flatten.1 hb
          obtain ⟨j, hj, rfl⟩ := List.mem_iff_getElem.1 hg'
          exact k3 (j + 1) _ (by omega) (by simp [hj]) b hb' (hab ▸ ha)
        · rcases List.mem_append.1 hk with hk | hk
          · exact .inl hk
          · exact .inr (List.mem_append_right _ hk)
      | succ i =>
        obtain ⟨q1, q2⟩ := ih i k1.2.1 k2 (fun j g' hj hg k hk => k3 (j + 1) g' (by omega) (by simpa using hg) k hk)
        simp only [List.set_cons_succ, List.flatten_cons]
        refine ⟨List.nodup_append.2 ⟨k1.1, q1, fun a ha b hb hab => ?_⟩, fun k hk => ?_⟩
        · subst hab
          rcases q2 a hb with h9 | h9
          · exact k3 0 g (by omega) rfl a ha h9
          · exact k1.2.2 a ha a h9 rfl
        · rcases List.mem_append.1 hk with hk | hk
          · exact .inr (List.mem_append_left _ hk)
          · rcases q2 k hk with h9 | h9
            · exact .inl h9
            · exact .inr (List.mem_append_right _ h9)
  obtain ⟨q1, q2⟩ := key fps i h1'.2 n1 (fun j g hj hg k hk hm => by
    obtain ⟨r1, r2⟩ := hd j g hj hg k hk
    rcases hfr k hm with h9 | h9
    · exact r1 h9
    · have := hltf k r2; omega)
  refine ⟨⟨b :: (fps.set i fn).flatten, List.nodup_cons.2 ⟨fun hm => ?_, q1⟩, fun k hk => ?_, cs.set i v', fps.set i fn, ?_, rfl, ?_⟩, Loc.cell hX, ?_, h3'.frozenAt i⟩
  · rcases q2 b hm with h9 | h9
    · exact hbfn h9
    · exact h1'.1 h9
  · rcases List.mem_cons.1 hk with rfl | hk
    · exact (h2 k (by simp [Value.ownBlock])).1
    · rcases q2 k hk with h9 | h9
      · rcases hfr k h9 with h10 | h10
        · subst h10; exact (h2 k (List.mem_append_right _ hbrw)).1
        · omega
      · exact (h2 k (List.mem_append_right _ h9)).1
  · have : (p.set i row).length = p.length := by simp
    rw [this]; exact hst.1
  · refine h5.turned hi' (Loc.loc (fun k hk => heap_setCell_other _ (fun e => hbfn (by simp only at e; rw [← e]; exact hk))) hX) (fun j g hj hg k hk => ?_)
    obtain ⟨r1, r2⟩ := hd j g hj hg k hk
    rw [heap_setCell_other _ (fun e => h1'.1 (by simp only at e; rw [← e]; exact r2))]
    exact hsame k (hltf k r2) r1
  · exact ⟨cs[i]'(by omega), by rw [h3'.cellAt i (by omega)]; simp⟩
end
end Go.Hs
set_option linter.unusedVariables false
namespace Go.Hs
def RetDX {α : Type} (w : World) (X : World → List Nat → Value → α → Prop) (p : α → Prop) : Value → World → Prop := fun u w' => ∃ x, Ext w w' ∧ Owned w.heap.size X w' u x ∧ p x
end Go.Hs
namespace Go.Proofs.YtgphoihilheoeaaGreatDoor
open Go.Hs
set_option maxRecDepth 10000
set_option maxHeartbeats 4000000
set_option linter.unusedVariables false
set_option linter.unusedSimpArgs false

def ptR (p : List (List Int)) (K : List Int) (x : Int) (j : Nat) (y : Int) : Int := b01 ((List.range j).any (ptF p K x y))
def ptM (p : List (List Int)) (K L : List Int) (x : Int) (j m : Nat) : List Int := (L.take m).map (ptR p K x (j + 1)) ++ (L.drop m).map (ptR p K x j)
theorem ptM_len {p : List (List Int)} {K L : List Int} {x : Int} {j m : Nat} : (ptM p K L x j m).length = L.length := by
  unfold ptM
  rw [List.length_append, List.length_map, List.length_map, ← List.length_append, List.take_append_drop]
theorem ptR_succ {p : List (List Int)} {K : List Int} {x y : Int} {j : Nat} : ptR p K x (j + 1) y = if ptF p K x y j then 1 else ptR p K x j y := by
  unfold ptR
  rw [any_range_succ']
  cases ptF p K x y j <;> cases (List.range j).any (ptF p K x y) <;> rfl
theorem ptM_yes {p : List (List Int)} {K L : List Int} {x : Int} {j m : Nat} (hm : m < L.length) (hf : ptF p K x L[m] j = true) : (ptM p K L x j m).set m 1 = ptM p K L x j (m + 1) := by
  have hl : ((L.take m).map (ptR p K x (j + 1))).length = m := by simp; omega
  unfold ptM
  rw [List.set_append_right _ _ (by omega), hl, Nat.sub_self, List.drop_eq_getElem_cons hm, List.map_cons, List.set_cons_zero, take_snoc _ _ hm, List.map_append, List.append_assoc]
  congr 1
  rw [List.map_cons, List.map_nil, ptR_succ, hf]
  rfl
theorem ptM_no {p : List (List Int)} {K L : List Int} {x : Int} {j m : Nat} (hm : m < L.length) (hf : ptF p K x L[m] j = false) : ptM p K L x j m = ptM p K L x j (m + 1) := by
  unfold ptM
  rw [List.drop_eq_getElem_cons hm, List.map_cons, take_snoc _ _ hm, List.map_append, List.append_assoc]
  congr 1
  rw [List.map_cons, List.map_nil, ptR_succ, hf]
  rfl
theorem ptM_zero {p : List (List Int)} {K L : List Int} {x : Int} {j : Nat} : ptM p K L x j 0 = L.map (ptR p K x j) := by simp [ptM]
theorem ptM_all {p : List (List Int)} {K L : List Int} {x : Int} {j : Nat} : ptM p K L x j L.length = L.map (ptR p K x (j + 1)) := by simp [ptM]
theorem ptR_none {p : List (List Int)} {K L : List Int} {x : Int} : L.map (ptR p K x 0) = List.replicate L.length 0 := by
  rw [← List.map_const']
  exact List.map_congr_left fun y _ => rfl
theorem l4Part_ok (w : World) (v u t : Value) (p : List (List Int)) (K L : List Int) (h : ESl Ints w v p) (hK : Ints w u K) (hL : Ints w t L) (hp : Gr p) (hk : K.length = p.length) (hl : ∀ x ∈ L, 0 ≤ x ∧ x < p.length) (hn : L.length ≤ 1000) :
    Does Tryz.prog 80 [v, u, t] w (RetO w XR (ptV p K L)) := by
  have hp5 := hp.2.1
  have hle := h.le
  have hle1 := hK.le
  have hle2 := hL.le
  have hpl := ptV_len (p := p) (K := K) (L := L)
  refine fn_of_W1 Tryz.func80 rfl Tryz.results80 Tryz.ntmps80 rfl ?_
  focus
    refine W_seq ?_; refine W_region rfl ?_; refine Wo rfl (opv_assign (v := .slice _ _ _) rfl) ?_; refine Wo_nil ?_; refine W_seq ?_; refine W_region rfl ?_; refine Wo_lit0 (XSl 3 XInt) rfl el22 Tryz.sizeOf58 ?_
    rintro b1 w1 hb1 b1lt E1 hO1; have hs1 := E1.size; refine Wo rfl (opv_assign (v := .slice _ _ _) rfl) ?_; refine Wo_nil ?_; refine W_seq ?_; refine W_seq ?_; refine W_region rfl ?_; refine Wo rfl (opv_assign (v := .int _ _) rfl) ?_
    refine Wo_nil ?_; refine W_block ?_
  refine W_loop [7, 8, 9, 10, 11, 13, 14, 15, 16, 17, 18, 19, 20, 21, 22, 23, 24, 25, 26, 27, 28, 29, 30, 31, 32, 33, 34, 35, 36, 37, 38, 39, 40, 41, 42, 43, 44, 45, 46, 47, 48, 49, 50, 51, 52, 53, 54, 55, 56, 57, 58, 59, 60, 61, 62, 63, 64, 65] (fun ((k, o) : Nat × Value) => [(8, .int .i64 (k : Nat)), (7, o)]) (fun (k, o) w' => Ext w w' ∧ k ≤ L.length ∧ Owned w.heap.size XR w' o ((ptV p K L).take k)) (fun x => L.length - x.1) (0, .slice (some ⟨b1, 0, none⟩) 0 0) (by repeat (first | exact trivial | refine And.intro rfl ?_)) ?_ ?_
  · exact ⟨by assumption, Nat.zero_le _, by simpa using hO1⟩
  clear hO1
  rintro ⟨k, o⟩ ρj w2 ⟨E2, hkl, hO1⟩
  by_cases hlt : k < L.length
  · have hLk := hl L[k] (List.getElem_mem hlt)
    have hrow := hp.row (i := L[k].toNat) (by omega)
    have htl : ((ptV p K L).take k).length = k := by simp; omega
    focus
      have szE2 := E2.size; have szE1 := E1.size; refine W_seq ?_; refine W_seq ?_; refine W_region rfl ?_; refine Wo rfl (opv_move (v := .int _ _) rfl) ?_; refine Wo rfl (opv_move (v := t) rfl) ?_
      refine Wo rfl (opv_len Tryz.underlying58 rfl hL) ?_; refine Wo rfl (opv_lss rfl rfl) ?_; refine Wo_nil ?_; refine W_cond_dec rfl (fun h1 => ?_) (fun h1 => ?_); refine W_skip ?_; refine W_seq ?_; refine W_block ?_; refine W_seq ?_
      refine W_region rfl ?_; refine Wo rfl (opv_move (v := t) rfl) ?_; refine Wo rfl (opv_len Tryz.underlying58 rfl hL) ?_; refine Wo_makeI rfl el58 rfl (by omega) ?_; rintro b2 w3 hb2 b2lt E3 hO2; have hs2 := E3.size
      refine Wo rfl (opv_assign (v := .slice _ _ _) rfl) ?_; refine Wo_nil ?_; refine W_seq ?_; refine W_seq ?_; refine W_region rfl ?_; refine Wo rfl (opv_assign (v := .int _ _) rfl) ?_; refine Wo_nil ?_; refine W_block ?_; rotate_left
      (exfalso; omega)
    have hrb := hO2.lt_own (k := b2) rfl
    refine W_loop [10, 11, 22, 23, 24, 25, 26, 27, 28, 29, 30, 31, 32, 33, 34, 35, 36, 37, 38, 39, 40, 41, 42, 43, 44, 45, 46, 47, 48, 49, 50, 51, 52, 53, 54, 55, 56, 57, 58, 59, 60, 61] (fun (j : Nat) => [(10, .int .i64 (j : Nat))]) (fun j w' => Ext w w' ∧ w2.heap.size ≤ w'.heap.size ∧ j ≤ p.length ∧ OwnedB w.heap.size w2.heap.size XR w' o ((ptV p K L).take k) ∧ Owned w2.heap.size XI w' (.slice (some ⟨b2, 0, none⟩) L.length L.length) (L.map (ptR p K L[k] j))) (fun j => p.length - j) 0 (by repeat (first | exact trivial | refine And.intro rfl ?_)) ?_ ?_
    · exact ⟨E2.trans E3, E3.size, Nat.zero_le _, hO1.toB.ext E3, by rw [ptR_none]; exact hO2⟩
    clear hO1 hO2
    rintro j ρk w4 ⟨E4, hs4, hj, hO1, hO2⟩
    by_cases hjl : j < p.length
    · focus
        have szE4 := E4.size; have szE3 := E3.size; have szE2 := E2.size; have szE1 := E1.size; refine W_seq ?_; refine W_seq ?_; refine W_region rfl ?_; refine Wo rfl (opv_move (v := .int _ _) rfl) ?_
        refine Wo rfl (opv_move (v := v) rfl) ?_; refine Wo rfl (opv_len Tryz.underlying22 rfl h) ?_; refine Wo rfl (opv_lss rfl rfl) ?_; refine Wo_nil ?_; refine W_cond_dec rfl (fun h2 => ?_) (fun h2 => ?_); refine W_skip ?_
        refine W_seq ?_; refine W_block ?_; refine W_seq ?_; refine W_region rfl ?_; refine Wo rfl (opv_assign (v := .int _ _) rfl) ?_; refine Wo_nil ?_; refine W_block ?_; rotate_left; (exfalso; omega)
      refine W_loop [11, 28, 29, 30, 31, 32, 33, 34, 35, 36, 37, 38, 39, 40, 41, 42, 43, 44, 45, 46, 47, 48, 49, 50, 51, 52, 53, 54, 55, 56, 57, 58, 59, 60, 61] (fun (m : Nat) => [(11, .int .i64 (m : Nat))]) (fun m w' => Ext w w' ∧ w2.heap.size ≤ w'.heap.size ∧ m ≤ L.length ∧ OwnedB w.heap.size w2.heap.size XR w' o ((ptV p K L).take k) ∧ Owned w2.heap.size XI w' (.slice (some ⟨b2, 0, none⟩) L.length L.length) (ptM p K L L[k] j m)) (fun m => L.length - m) 0 (by repeat (first | exact trivial | refine And.intro rfl ?_)) ?_ ?_
      · exact ⟨E4, hs4, Nat.zero_le _, hO1, by rw [ptM_zero]; exact hO2⟩
      clear hO1 hO2
      rintro m ρl w5 ⟨E5, hs5, hm, hO1, hO2⟩
      have hpm := ptM_len (p := p) (K := K) (L := L) (x := L[k]) (j := j) (m := m)
      by_cases hml : m < L.length
      · have hLm := hl L[m] (List.getElem_mem hml)
        have eF : ptF p K L[k] L[m] j = (decide (p[L[k].toNat][j] = 1) && decide (K[j] = K[L[m].toNat])) := by
          unfold ptF
          rw [getD_lt (show L[k].toNat < p.length by omega), getD_lt (show j < p[L[k].toNat].length by omega), getD_lt (show j < K.length by omega), getD_lt (show L[m].toNat < K.length by omega)]
        by_cases c1 : p[L[k].toNat][j] = 1
        · by_cases c2 : K[j] = K[L[m].toNat]
          · focus
              have szE5 := E5.size; have szE4 := E4.size; have szE3 := E3.size; have szE2 := E2.size; have szE1 := E1.size; refine W_seq ?_; refine W_seq ?_; refine W_region rfl ?_; refine Wo rfl (opv_move (v := .int _ _) rfl) ?_
              refine Wo rfl (opv_move (v := t) rfl) ?_; refine Wo rfl (opv_len Tryz.underlying58 rfl hL) ?_; refine Wo rfl (opv_lss rfl rfl) ?_; refine Wo_nil ?_; refine W_cond_dec rfl (fun h3 => ?_) (fun h3 => ?_); refine W_skip ?_
              refine W_seq ?_; refine W_block ?_; refine W_seq ?_; refine W_draw mixed (by kernel_rfl) rfl ?_; refine Wq_o rfl (fun _ _ => opv_move (v := v) rfl) ?_; refine Wq_o rfl (fun _ _ => opv_move (v := t) rfl) ?_
              refine Wq_o rfl (fun _ _ => opv_move (v := .int _ _) rfl) ?_; refine Wq_get Tryz.underlying58 Tryz.sizeOf3 Tryz.isAgg3 rfl (fun _ => rfl) rfl hL E5 rfl (by first | omega | (simp <;> omega)) ?_; rintro _ _ rfl
              refine Wq_get_z Tryz.underlying22 Tryz.sizeOf58 Tryz.isAgg58 rfl (fun _ => rfl) rfl h E5 rfl (by first | omega | (simp <;> omega)) ?_; rintro _ u1 hu1; refine Wq_o rfl (fun _ _ => opv_move (v := .int _ _) rfl) ?_
              refine Wq_get Tryz.underlying58 Tryz.sizeOf3 Tryz.isAgg3 rfl (fun _ => rfl) rfl hu1 E5 rfl (by first | omega | (simp <;> omega)) ?_; rintro _ _ rfl; refine Wq_o rfl (fun _ _ => opv_eql rfl rfl) ?_
              refine Wq_split_dec rfl (fun _ _ => opv_move (v := .bool _) rfl) (fun h4 => ?_) (fun h4 => ?_); refine Wq_o rfl (fun _ _ => opv_move (v := u) rfl) ?_; refine Wq_o rfl (fun _ _ => opv_move (v := .int _ _) rfl) ?_
              refine Wq_get Tryz.underlying58 Tryz.sizeOf3 Tryz.isAgg3 rfl (fun _ => rfl) rfl hK E5 rfl (by first | omega | (simp <;> omega)) ?_; rintro _ _ rfl; refine Wq_o rfl (fun _ _ => opv_move (v := u) rfl) ?_
              refine Wq_o rfl (fun _ _ => opv_move (v := t) rfl) ?_; refine Wq_o rfl (fun _ _ => opv_move (v := .int _ _) rfl) ?_
              refine Wq_get Tryz.underlying58 Tryz.sizeOf3 Tryz.isAgg3 rfl (fun _ => rfl) rfl hL E5 rfl (by first | omega | (simp <;> omega)) ?_; rintro _ _ rfl
              refine Wq_get_z Tryz.underlying58 Tryz.sizeOf3 Tryz.isAgg3 rfl (fun _ => rfl) rfl hK E5 rfl (by first | omega | (simp <;> omega)) ?_; rintro _ _ rfl; refine Wq_o rfl (fun _ _ => opv_eql rfl rfl) ?_
              refine Wq_o rfl (fun _ _ => opv_pick_t (v := .bool _) rfl rfl) ?_; refine Wq_nil (fun w6 E6 => ?_); have hs3 := E6.size; refine W_cond_dec rfl (fun h5 => ?_) (fun h5 => ?_); refine W_region rfl ?_
              refine Wo rfl (opv_move (v := .slice _ _ _) rfl) ?_; refine Wo rfl (opv_move (v := .int _ _) rfl) ?_; refine Wo rfl (opv_indexAddr Tryz.underlying58 Tryz.sizeOf3 rfl rfl (by omega)) ?_
              refine Wo_set rfl Tryz.sizeOf3 rfl rfl (hO2.toB.ext E6) (by first | omega | (simp <;> omega)) Owned.int (Nat.le_refl _) (by omega) ?_; rintro w7 hO2 On1 K1 hz1; have E7 := On1.ext1 (E5.trans E6) (by omega)
              have hO1 := (hO1.ext E6).wrote K1 (by omega); have hs6 := On1.size; refine Wo_nil ?_; refine W_region rfl ?_; refine Wo rfl (opv_move (v := .int _ _) rfl) ?_; refine Wo rfl (opv_add rfl rfl (by omega)) ?_
              refine Wo rfl (opv_assign (v := .int _ _) rfl) ?_; refine Wo_nil ?_; rotate_left; contradiction; contradiction; (exfalso; omega)
            refine ⟨(m + 1), by repeat (first | exact trivial | refine And.intro rfl ?_), by repeat (first | with_reducible exact Same.refl | refine Same.upd rfl ?_ | refine Same.upds rfl ?_ | refine Same.mix rfl ?_), ?_, ?_⟩
            · refine ⟨by assumption, by omega, by omega, by assumption, ?_⟩
              rw [← ptM_yes hml (by rw [eF, decide_eq_true c1, decide_eq_true c2]; rfl)]
              assumption
            · omega
          · focus
              have szE5 := E5.size; have szE4 := E4.size; have szE3 := E3.size; have szE2 := E2.size; have szE1 := E1.size; refine W_seq ?_; refine W_seq ?_; refine W_region rfl ?_; refine Wo rfl (opv_move (v := .int _ _) rfl) ?_
              refine Wo rfl (opv_move (v := t) rfl) ?_; refine Wo rfl (opv_len Tryz.underlying58 rfl hL) ?_; refine Wo rfl (opv_lss rfl rfl) ?_; refine Wo_nil ?_; refine W_cond_dec rfl (fun h3 => ?_) (fun h3 => ?_); refine W_skip ?_
              refine W_seq ?_; refine W_block ?_; refine W_seq ?_; refine W_draw mixed (by kernel_rfl) rfl ?_; refine Wq_o rfl (fun _ _ => opv_move (v := v) rfl) ?_; refine Wq_o rfl (fun _ _ => opv_move (v := t) rfl) ?_
              refine Wq_o rfl (fun _ _ => opv_move (v := .int _ _) rfl) ?_; refine Wq_get Tryz.underlying58 Tryz.sizeOf3 Tryz.isAgg3 rfl (fun _ => rfl) rfl hL E5 rfl (by first | omega | (simp <;> omega)) ?_; rintro _ _ rfl
              refine Wq_get_z Tryz.underlying22 Tryz.sizeOf58 Tryz.isAgg58 rfl (fun _ => rfl) rfl h E5 rfl (by first | omega | (simp <;> omega)) ?_; rintro _ u1 hu1; refine Wq_o rfl (fun _ _ => opv_move (v := .int _ _) rfl) ?_
              refine Wq_get Tryz.underlying58 Tryz.sizeOf3 Tryz.isAgg3 rfl (fun _ => rfl) rfl hu1 E5 rfl (by first | omega | (simp <;> omega)) ?_; rintro _ _ rfl; refine Wq_o rfl (fun _ _ => opv_eql rfl rfl) ?_
              refine Wq_split_dec rfl (fun _ _ => opv_move (v := .bool _) rfl) (fun h4 => ?_) (fun h4 => ?_); refine Wq_o rfl (fun _ _ => opv_move (v := u) rfl) ?_; refine Wq_o rfl (fun _ _ => opv_move (v := .int _ _) rfl) ?_
              refine Wq_get Tryz.underlying58 Tryz.sizeOf3 Tryz.isAgg3 rfl (fun _ => rfl) rfl hK E5 rfl (by first | omega | (simp <;> omega)) ?_; rintro _ _ rfl; refine Wq_o rfl (fun _ _ => opv_move (v := u) rfl) ?_
              refine Wq_o rfl (fun _ _ => opv_move (v := t) rfl) ?_; refine Wq_o rfl (fun _ _ => opv_move (v := .int _ _) rfl) ?_
              refine Wq_get Tryz.underlying58 Tryz.sizeOf3 Tryz.isAgg3 rfl (fun _ => rfl) rfl hL E5 rfl (by first | omega | (simp <;> omega)) ?_; rintro _ _ rfl
              refine Wq_get_z Tryz.underlying58 Tryz.sizeOf3 Tryz.isAgg3 rfl (fun _ => rfl) rfl hK E5 rfl (by first | omega | (simp <;> omega)) ?_; rintro _ _ rfl; refine Wq_o rfl (fun _ _ => opv_eql rfl rfl) ?_
              refine Wq_o rfl (fun _ _ => opv_pick_t (v := .bool _) rfl rfl) ?_; refine Wq_nil (fun w6 E6 => ?_); have hs3 := E6.size; refine W_cond_dec rfl (fun h5 => ?_) (fun h5 => ?_); contradiction; refine W_skip ?_; refine W_region rfl ?_
              refine Wo rfl (opv_move (v := .int _ _) rfl) ?_; refine Wo rfl (opv_add rfl rfl (by omega)) ?_; refine Wo rfl (opv_assign (v := .int _ _) rfl) ?_; refine Wo_nil ?_; rotate_left; contradiction; (exfalso; omega)
            refine ⟨(m + 1), by repeat (first | exact trivial | refine And.intro rfl ?_), by repeat (first | with_reducible exact Same.refl | refine Same.upd rfl ?_ | refine Same.upds rfl ?_ | refine Same.mix rfl ?_), ?_, ?_⟩
            · refine ⟨by first | assumption | exact E5.trans (by assumption), by omega, by omega, by first | assumption | exact hO1.ext (by assumption), ?_⟩
              rw [← ptM_no hml (by rw [eF, decide_eq_false c2]; simp)]
              first | assumption | exact hO2.ext (by assumption)
            · omega
        · focus
            have szE5 := E5.size; have szE4 := E4.size; have szE3 := E3.size; have szE2 := E2.size; have szE1 := E1.size; refine W_seq ?_; refine W_seq ?_; refine W_region rfl ?_; refine Wo rfl (opv_move (v := .int _ _) rfl) ?_
            refine Wo rfl (opv_move (v := t) rfl) ?_; refine Wo rfl (opv_len Tryz.underlying58 rfl hL) ?_; refine Wo rfl (opv_lss rfl rfl) ?_; refine Wo_nil ?_; refine W_cond_dec rfl (fun h3 => ?_) (fun h3 => ?_); refine W_skip ?_
            refine W_seq ?_; refine W_block ?_; refine W_seq ?_; refine W_draw mixed (by kernel_rfl) rfl ?_; refine Wq_o rfl (fun _ _ => opv_move (v := v) rfl) ?_; refine Wq_o rfl (fun _ _ => opv_move (v := t) rfl) ?_
            refine Wq_o rfl (fun _ _ => opv_move (v := .int _ _) rfl) ?_; refine Wq_get Tryz.underlying58 Tryz.sizeOf3 Tryz.isAgg3 rfl (fun _ => rfl) rfl hL E5 rfl (by first | omega | (simp <;> omega)) ?_; rintro _ _ rfl
            refine Wq_get_z Tryz.underlying22 Tryz.sizeOf58 Tryz.isAgg58 rfl (fun _ => rfl) rfl h E5 rfl (by first | omega | (simp <;> omega)) ?_; rintro _ u1 hu1; refine Wq_o rfl (fun _ _ => opv_move (v := .int _ _) rfl) ?_
            refine Wq_get Tryz.underlying58 Tryz.sizeOf3 Tryz.isAgg3 rfl (fun _ => rfl) rfl hu1 E5 rfl (by first | omega | (simp <;> omega)) ?_; rintro _ _ rfl; refine Wq_o rfl (fun _ _ => opv_eql rfl rfl) ?_
            refine Wq_split_dec rfl (fun _ _ => opv_move (v := .bool _) rfl) (fun h4 => ?_) (fun h4 => ?_); contradiction; refine Wq_skip rfl ?_; refine Wq_skip rfl ?_; refine Wq_skip rfl ?_; refine Wq_skip rfl ?_; refine Wq_skip rfl ?_
            refine Wq_skip rfl ?_; refine Wq_skip rfl ?_; refine Wq_skip rfl ?_; refine Wq_skip rfl ?_; refine Wq_skip rfl ?_; refine Wq_skip rfl ?_; refine Wq_skip rfl ?_; refine Wq_o rfl (fun _ _ => opv_pick_f (v := .bool _) rfl rfl) ?_
            refine Wq_nil (fun w6 E6 => ?_); have hs3 := E6.size; refine W_cond_false rfl ?_; refine W_skip ?_; refine W_region rfl ?_; refine Wo rfl (opv_move (v := .int _ _) rfl) ?_; refine Wo rfl (opv_add rfl rfl (by omega)) ?_
            refine Wo rfl (opv_assign (v := .int _ _) rfl) ?_; refine Wo_nil ?_; rotate_left; (exfalso; omega)
          refine ⟨(m + 1), by repeat (first | exact trivial | refine And.intro rfl ?_), by repeat (first | with_reducible exact Same.refl | refine Same.upd rfl ?_ | refine Same.upds rfl ?_ | refine Same.mix rfl ?_), ?_, ?_⟩
          · refine ⟨by first | assumption | exact E5.trans (by assumption), by omega, by omega, by first | assumption | exact hO1.ext (by assumption), ?_⟩
            rw [← ptM_no hml (by rw [eF, decide_eq_false c1]; simp)]
            first | assumption | exact hO2.ext (by assumption)
          · omega
      · obtain rfl : m = L.length := by omega
        focus
          have szE5 := E5.size; have szE4 := E4.size; have szE3 := E3.size; have szE2 := E2.size; have szE1 := E1.size; refine W_seq ?_; refine W_seq ?_; refine W_region rfl ?_; refine Wo rfl (opv_move (v := .int _ _) rfl) ?_
          refine Wo rfl (opv_move (v := t) rfl) ?_; refine Wo rfl (opv_len Tryz.underlying58 rfl hL) ?_; refine Wo rfl (opv_lss rfl rfl) ?_; refine Wo_nil ?_; refine W_cond_dec rfl (fun h3 => ?_) (fun h3 => ?_); (exfalso; omega)
          refine W_exit ?_; refine exitX_same ?_; refine W_region rfl ?_; refine Wo rfl (opv_move (v := .int _ _) rfl) ?_; refine Wo rfl (opv_add rfl rfl (by omega)) ?_; refine Wo rfl (opv_assign (v := .int _ _) rfl) ?_; refine Wo_nil ?_
        refine ⟨(j + 1), by repeat (first | exact trivial | refine And.intro rfl ?_), by repeat (first | with_reducible exact Same.refl | refine Same.upd rfl ?_ | refine Same.upds rfl ?_ | refine Same.mix rfl ?_), ?_, ?_⟩
        · refine ⟨by assumption, by omega, by omega, by assumption, ?_⟩
          rw [← ptM_all]; assumption
        · omega
    · obtain rfl : j = p.length := by omega
      have hrl : (L.map (ptR p K L[k] p.length)).length = L.length := by simp
      focus
        have szE4 := E4.size; have szE3 := E3.size; have szE2 := E2.size; have szE1 := E1.size; refine W_seq ?_; refine W_seq ?_; refine W_region rfl ?_; refine Wo rfl (opv_move (v := .int _ _) rfl) ?_
        refine Wo rfl (opv_move (v := v) rfl) ?_; refine Wo rfl (opv_len Tryz.underlying22 rfl h) ?_; refine Wo rfl (opv_lss rfl rfl) ?_; refine Wo_nil ?_; refine W_cond_dec rfl (fun h2 => ?_) (fun h2 => ?_); (exfalso; omega)
        refine W_exit ?_; refine exitX_same ?_; refine W_region rfl ?_; refine Wo rfl (opv_move (v := o) rfl) ?_; refine Wo rfl (opv_move (v := .slice _ _ _) rfl) ?_
        refine Wo_buildSlice (ps := [(0, .slice _ _ _)]) (cs := [_]) rfl Tryz.underlying22 Tryz.sizeOf58 Tryz.zeroValue58 rfl rfl rfl rfl ?_; rintro b3 w5 hb3 E5 hB1; have hlb3 := hB1.lt; have hs3 := E5.size
        refine Wo_app1 rfl el22 rfl rfl hB1 (hO1.ext E5) (hO2.toB.ext E5).o (by omega) (by first | omega | (simp <;> omega)) (by omega) (by omega) (E4.trans E5) (by omega) ?_; have hT1 := (hO1.ext E5); rintro v1 w6 hO1 E6 M1
        have hO2 := (hO2.toB.ext E5).moves M1 hT1 (by omega); have hB1 := hB1.moves M1 hT1 (by omega); have hs5 := E6.size; refine Wo rfl (opv_assign (v := v1) rfl) ?_; refine Wo_nil ?_; refine W_region rfl ?_
        refine Wo rfl (opv_move (v := .int _ _) rfl) ?_; refine Wo rfl (opv_add rfl rfl (by omega)) ?_; refine Wo rfl (opv_assign (v := .int _ _) rfl) ?_; refine Wo_nil ?_
      refine ⟨((k + 1, v1)), by repeat (first | exact trivial | refine And.intro rfl ?_), by repeat (first | with_reducible exact Same.refl | refine Same.upd rfl ?_ | refine Same.upds rfl ?_ | refine Same.mix rfl ?_), ?_, ?_⟩
      · refine ⟨by assumption, by omega, ?_⟩
        rw [take_snoc _ _ (by omega)]
        have e : (ptV p K L)[k]'(by omega) = L.map (ptR p K L[k] p.length) := by simp only [ptV, List.getElem_map]; rfl
        rw [e]
        assumption
      · simp only; omega
  · obtain rfl : k = L.length := by omega
    focus
      have szE2 := E2.size; have szE1 := E1.size; refine W_seq ?_; refine W_seq ?_; refine W_region rfl ?_; refine Wo rfl (opv_move (v := .int _ _) rfl) ?_; refine Wo rfl (opv_move (v := t) rfl) ?_
      refine Wo rfl (opv_len Tryz.underlying58 rfl hL) ?_; refine Wo rfl (opv_lss rfl rfl) ?_; refine Wo_nil ?_; refine W_cond_dec rfl (fun h1 => ?_) (fun h1 => ?_); (exfalso; omega); refine W_exit ?_; refine exitX_same ?_
      refine W_seq ?_; refine W_region rfl ?_; refine Wo rfl (opv_move (v := o) rfl) ?_; refine Wo rfl (opv_assign (v := o) rfl) ?_; refine Wo_nil ?_; refine W_ret ?_
      refine ⟨E2, (congrArg (Owned _ _ _ _) ?_).mp (hO1.toB.o.mono (by omega))⟩
    rw [List.take_of_length_le (by omega)]

theorem JoinedOf_ok (w : World) (v : Value) (p : List (List Int)) (h : ESl Ints w v p) (z : Int) : Does Tryz.prog 54 [v, .int .i64 z] w (RetDX w XR (fun c => (Nod p z → Cand p z.toNat c) ∧ (¬ Nod p z → c = []))) := by
  by_cases hz : Nod p z
  · obtain ⟨hp, hz0, hz1⟩ := id hz
    obtain ⟨i, rfl⟩ := Int.eq_ofNat_of_zero_le hz0
    have hi : i < p.length := by omega
    have hp5 := hp.2.1
    have k1 : ∀ (w : World) (v : Value), ESl Ints w v p → Does Tryz.prog 78 [v, .int .i64 (i : Int)] w (RetO w XI (ints (rf p i))) := fun w v h => by
      have := spec_ReachedFrom_ok w v p i h
      rw [show rfV p (i : Int) = rf p i from if_pos hz] at this; exact this
    have k2 : ∀ (w : World) (v : Value), ESl Ints w v p → Does Tryz.prog 79 [v] w (RetO w XI (ints (kndL p))) := fun w v h => by
      have := spec_KindsOf_ok w v p h
      rw [if_pos hp] at this; exact this
    have hrl := rf_len (p := p) (i := i)
    have hril := ints_len (rf p i)
    have hr0 : 0 < (rf p i).length := List.length_pos_iff.2 fun e => by
      have := (mem_rf hp.gr hi).2 (Rch.refl i)
      rw [e] at this; cases this
    have hkl := ikndL_len (p := p)
    have k4 : ∀ (w : World) (v u t : Value) (L : List Nat), ESl Ints w v p → Ints w u (ints (kndL p)) → Ints w t (ints L) → (∀ x ∈ L, x < p.length) → L.length ≤ p.length → Does Tryz.prog 80 [v, u, t] w (RetO w XR (qp p (L.map (knd p)))) := fun w v u t L h1 h2 h3 h4 h5 => by
      rw [← ptV_qp hp.gr h4]
      refine l4Part_ok w v u t p _ _ h1 h2 h3 hp.gr hkl (fun x hx => ?_) (by rw [ints_len]; omega)
      obtain ⟨y, hy, rfl⟩ := List.mem_map.1 hx
      have := h4 y hy
      omega
    refine fn_of_W1 Tryz.func54 rfl Tryz.results54 Tryz.ntmps54 rfl ?_
    focus
      refine W_seq ?_; refine W_region rfl ?_; refine Wo rfl (opv_assign (v := .slice _ _ _) rfl) ?_; refine Wo_nil ?_; refine W_seq ?_; refine W_region rfl ?_; refine Wo rfl (opv_move (v := v) rfl) ?_
      refine Wo rfl (opv_move (v := .int _ _) rfl) ?_; refine Wo_call rfl (opc2 (a := v) (b := .int _ _) Tryz.call78 rfl rfl) (k1 _ _ (h)) ?_; rintro u1 w1 ⟨E1, hO1⟩; have hs1 := E1.size; refine Wo rfl (opv_assign (v := u1) rfl) ?_
      refine Wo_nil ?_; refine W_seq ?_; refine W_region rfl ?_; refine Wo rfl (opv_move (v := v) rfl) ?_; refine Wo_call rfl (opc1 (a := v) Tryz.call79 rfl) (k2 _ _ ((Mono.mono E1 h))) ?_; rintro u2 w2 ⟨E2, hO2⟩; have hs2 := E2.size
      refine Wo rfl (opv_assign (v := u2) rfl) ?_; refine Wo_nil ?_; refine W_seq ?_; refine W_seq ?_; refine W_region rfl ?_; refine Wo rfl (opv_move (v := u1) rfl) ?_; refine Wo rfl (opv_len Tryz.underlying58 rfl (Owned.read hO1)) ?_
      refine Wo rfl (opv_eql rfl rfl) ?_; refine Wo_nil ?_; refine W_cond_dec rfl (fun h1 => ?_) (fun h1 => ?_); (exfalso; omega); refine W_skip ?_; refine W_seq ?_; refine W_region rfl ?_; refine Wo rfl (opv_move (v := .int _ _) rfl) ?_
      refine Wo_buildSliceH (ps := [(0, .int _ _)]) (cs := [_]) rfl Tryz.underlying58 Tryz.sizeOf3 Tryz.zeroValue3 rfl rfl rfl rfl ?_; rintro b1 w3 hb1 E3 hB1 hHb1; have hlb1 := hB1.lt; have hs3 := E3.size
      refine Wo rfl (opv_assign (v := .slice _ _ _) rfl) ?_; refine Wo_nil ?_; refine W_seq ?_; refine W_seq ?_; refine W_region rfl ?_; refine Wo rfl (opv_assign (v := .int _ _) rfl) ?_; refine Wo_nil ?_; refine W_block ?_
    have hO3 : Owned w2.heap.size XI w3 (.slice (some ⟨b1, 0, none⟩) 1 1) (ints [i]) := Owned.block hHb1 hb1 rfl (by decide) ⟨⟨rfl, rfl⟩, trivial⟩
    have r1 := hO1.read
    have r2 := hO2.read
    clear hHb1 hB1 hO1 hO2
    refine W_loop [7, 8, 9, 10, 22, 23, 24, 25, 26, 27, 28, 29, 30, 31, 32, 33, 34, 35, 36, 37, 38, 39, 40, 41, 42, 43, 44, 45, 46, 47, 48, 49, 50, 51, 52, 53, 54, 55, 56, 57, 58, 59] (fun ((k, u, L) : Nat × Value × List Nat) => [(8, .int .i64 (k : Nat)), (7, u)]) (fun (k, u, L) w' => Ext w2 w' ∧ Owned w2.heap.size XI w' u (ints L) ∧ k ≤ (rf p i).length ∧ Fnd p i k L) (fun x => (rf p i).length - x.1) (0, .slice (some ⟨b1, 0, none⟩) 1 1, [i]) (by repeat (first | exact trivial | refine And.intro rfl ?_)) ?_ ?_
    · exact ⟨by assumption, hO3, Nat.zero_le _, Fnd.zero⟩
    clear hO3
    rintro ⟨k, u, L⟩ ρj w4 ⟨E4, hO3, hk, hF⟩
    have hLl := hF.len hp.gr hi
    have hLil := ints_len L
    by_cases hlt : k < (rf p i).length
    · have hrk := (mem_rf hp.gr hi).1 (List.getElem_mem hlt) |>.lt hp.gr hi
      have hgk : (ints (rf p i))[k]'(by omega) = ((rf p i)[k] : Int) := ints_get hlt
      focus
        have szE4 := E4.size; have szE3 := E3.size; have szE2 := E2.size; have szE1 := E1.size; refine W_seq ?_; refine W_seq ?_; refine W_region rfl ?_; refine Wo rfl (opv_move (v := .int _ _) rfl) ?_
        refine Wo rfl (opv_move (v := u1) rfl) ?_; refine Wo rfl (opv_len Tryz.underlying58 rfl r1) ?_; refine Wo rfl (opv_lss rfl rfl) ?_; refine Wo_nil ?_; refine W_cond_dec rfl (fun h2 => ?_) (fun h2 => ?_); refine W_skip ?_
        refine W_seq ?_; refine W_block ?_; refine W_seq ?_; refine W_region rfl ?_; refine Wo rfl (opv_assign (v := .bool _) rfl) ?_; refine Wo_nil ?_; refine W_seq ?_; refine W_seq ?_; refine W_region rfl ?_
        refine Wo rfl (opv_assign (v := .int _ _) rfl) ?_; refine Wo_nil ?_; refine W_block ?_; rotate_left; (exfalso; omega)
      refine W_loop [9, 10, 28, 29, 30, 31, 32, 33, 34, 35, 36, 37, 38, 39, 40, 41, 42, 43, 44, 45, 46, 47, 48, 49, 50, 51] (fun ((j, f) : Nat × Bool) => [(10, .int .i64 (j : Nat)), (9, .bool f)]) (fun (j, f) w' => Ext w4 w' ∧ j ≤ L.length ∧ (f = true ↔ knd p (rf p i)[k] ∉ (L.take j).map (knd p))) (fun x => L.length - x.1) (0, true) (by repeat (first | exact trivial | refine And.intro rfl ?_)) ?_ ?_
      · exact ⟨Ext.refl _, Nat.zero_le _, by simp⟩
      rintro ⟨j, f⟩ ρk w5 ⟨E5, hj, hf⟩
      by_cases hjl : j < L.length
      · have hLj := hF.lt hp.gr hi (List.getElem_mem hjl)
        have hgj : (ints L)[j]'(by omega) = (L[j] : Int) := ints_get hjl
        have hkj : (ints (kndL p))[((ints L)[j]'(by omega)).toNat]'(by omega) = (knd p L[j] : Int) := by
          simp only [hgj, Int.toNat_natCast]; exact ikndL_at _
        have hkk : (ints (kndL p))[((ints (rf p i))[k]'(by omega)).toNat]'(by omega) = (knd p (rf p i)[k] : Int) := by
          simp only [hgk, Int.toNat_natCast]; exact ikndL_at _
        have hts := take_snoc _ _ hjl
        have bj : ((ints L)[j]'(by omega)).toNat < (ints (kndL p)).length := by rw [hkl, hgj]; omega
        have bk : ((ints (rf p i))[k]'(by omega)).toNat < (ints (kndL p)).length := by rw [hkl, hgk]; omega
        cases f
        · focus
            have szE5 := E5.size; have szE4 := E4.size; have szE3 := E3.size; have szE2 := E2.size; have szE1 := E1.size; refine W_seq ?_; refine W_seq ?_; refine W_region rfl ?_; refine Wo rfl (opv_move (v := .int _ _) rfl) ?_
            refine Wo rfl (opv_move (v := u) rfl) ?_; refine Wo rfl (opv_len Tryz.underlying58 rfl (Owned.read hO3)) ?_; refine Wo rfl (opv_lss rfl rfl) ?_; refine Wo_nil ?_; refine W_cond_dec rfl (fun h3 => ?_) (fun h3 => ?_); refine W_skip ?_
            refine W_seq ?_; refine W_block ?_; refine W_draw mixed (by kernel_rfl) rfl ?_; refine Wq_o rfl (fun _ _ => opv_move (v := .bool _) rfl) ?_; refine Wq_o rfl (fun _ _ => opv_move (v := .bool _) rfl) ?_; refine Wq_skip rfl ?_
            refine Wq_skip rfl ?_; refine Wq_skip rfl ?_; refine Wq_skip rfl ?_; refine Wq_skip rfl ?_; refine Wq_skip rfl ?_; refine Wq_skip rfl ?_; refine Wq_skip rfl ?_; refine Wq_skip rfl ?_; refine Wq_skip rfl ?_; refine Wq_skip rfl ?_
            refine Wq_skip rfl ?_; refine Wq_skip rfl ?_; refine Wq_skip rfl ?_; refine Wq_skip rfl ?_; refine Wq_o rfl (fun _ _ => opv_pick_f (v := .bool _) rfl rfl) ?_; refine Wq_o rfl (fun _ _ => opv_assign (v := .bool _) rfl) ?_
            refine Wq_nil (fun w6 E6 => ?_); have hs4 := E6.size; refine W_region rfl ?_; refine Wo rfl (opv_move (v := .int _ _) rfl) ?_; refine Wo rfl (opv_add rfl rfl (by omega)) ?_; refine Wo rfl (opv_assign (v := .int _ _) rfl) ?_
            refine Wo_nil ?_; rotate_left; (exfalso; omega)
          refine ⟨((j + 1, false)), by repeat (first | exact trivial | refine And.intro rfl ?_), by repeat (first | with_reducible exact Same.refl | refine Same.upd rfl ?_ | refine Same.upds rfl ?_ | refine Same.mix rfl ?_), ?_, ?_⟩
          · refine ⟨by exact (E5.trans E6), by omega, ⟨fun h => (by cases h), fun h => ?_⟩⟩
            rw [hts, List.map_append, List.mem_append, not_or] at h
            exact absurd (hf.2 h.1) (by simp)
          · simp only; omega
        · focus
            have szE5 := E5.size; have szE4 := E4.size; have szE3 := E3.size; have szE2 := E2.size; have szE1 := E1.size; refine W_seq ?_; refine W_seq ?_; refine W_region rfl ?_; refine Wo rfl (opv_move (v := .int _ _) rfl) ?_
            refine Wo rfl (opv_move (v := u) rfl) ?_; refine Wo rfl (opv_len Tryz.underlying58 rfl (Owned.read hO3)) ?_; refine Wo rfl (opv_lss rfl rfl) ?_; refine Wo_nil ?_; refine W_cond_dec rfl (fun h3 => ?_) (fun h3 => ?_); refine W_skip ?_
            refine W_seq ?_; refine W_block ?_; refine W_draw mixed (by kernel_rfl) rfl ?_; refine Wq_o rfl (fun _ _ => opv_move (v := .bool _) rfl) ?_; refine Wq_o rfl (fun _ _ => opv_move (v := .bool _) rfl) ?_
            refine Wq_o rfl (fun _ _ => opv_move (v := u2) rfl) ?_; refine Wq_o rfl (fun _ _ => opv_move (v := u) rfl) ?_; refine Wq_o rfl (fun _ _ => opv_move (v := .int _ _) rfl) ?_
            refine Wq_get Tryz.underlying58 Tryz.sizeOf3 Tryz.isAgg3 rfl (fun _ => rfl) rfl (Owned.read hO3) E5 rfl (by first | omega | (simp <;> omega)) ?_; rintro _ _ rfl
            refine Wq_get_z Tryz.underlying58 Tryz.sizeOf3 Tryz.isAgg3 rfl (fun _ => rfl) rfl r2 (E4.trans E5) rfl (by first | omega | (simp <;> omega)) ?_; rintro _ _ rfl; refine Wq_o rfl (fun _ _ => opv_move (v := u2) rfl) ?_
            refine Wq_o rfl (fun _ _ => opv_move (v := u1) rfl) ?_; refine Wq_o rfl (fun _ _ => opv_move (v := .int _ _) rfl) ?_
            refine Wq_get Tryz.underlying58 Tryz.sizeOf3 Tryz.isAgg3 rfl (fun _ => rfl) rfl r1 ((E2.trans E4).trans E5) rfl (by first | omega | (simp <;> omega)) ?_; rintro _ _ rfl
            refine Wq_get_z Tryz.underlying58 Tryz.sizeOf3 Tryz.isAgg3 rfl (fun _ => rfl) rfl r2 (E4.trans E5) rfl (by first | omega | (simp <;> omega)) ?_; rintro _ _ rfl; refine Wq_o rfl (fun _ _ => opv_neq rfl rfl) ?_
            refine Wq_o rfl (fun _ _ => opv_pick_t (v := .bool _) rfl rfl) ?_; refine Wq_o rfl (fun _ _ => opv_assign (v := .bool _) rfl) ?_; refine Wq_nil (fun w6 E6 => ?_); have hs4 := E6.size; refine W_region rfl ?_
            refine Wo rfl (opv_move (v := .int _ _) rfl) ?_; refine Wo rfl (opv_add rfl rfl (by omega)) ?_; refine Wo rfl (opv_assign (v := .int _ _) rfl) ?_; refine Wo_nil ?_; rotate_left; (exfalso; omega)
          refine ⟨((j + 1, !decide ((ints (kndL p))[((ints L)[j]'(by omega)).toNat]'bj = (ints (kndL p))[((ints (rf p i))[k]'(by omega)).toNat]'bk))), by repeat (first | exact trivial | refine And.intro rfl ?_), by repeat (first | with_reducible exact Same.refl | refine Same.upd rfl ?_ | refine Same.upds rfl ?_ | refine Same.mix rfl ?_), ?_, ?_⟩
          · refine ⟨by exact (E5.trans E6), by omega, ?_⟩
            rw [hkj, hkk, hts, List.map_append, List.mem_append, not_or]
            have hf' := hf.1 rfl
            simp only [List.map_cons, List.map_nil, List.mem_singleton, Bool.not_eq_true', decide_eq_false_iff_not]
            constructor
            · intro h; exact ⟨hf', fun e => h (by rw [e])⟩
            · intro h e; exact h.2 (by omega)
          · simp only; omega
      · obtain rfl : j = L.length := by omega
        rw [List.take_length] at hf
        cases f
        · focus
            have szE5 := E5.size; have szE4 := E4.size; have szE3 := E3.size; have szE2 := E2.size; have szE1 := E1.size; refine W_seq ?_; refine W_seq ?_; refine W_region rfl ?_; refine Wo rfl (opv_move (v := .int _ _) rfl) ?_
            refine Wo rfl (opv_move (v := u) rfl) ?_; refine Wo rfl (opv_len Tryz.underlying58 rfl (Owned.read hO3)) ?_; refine Wo rfl (opv_lss rfl rfl) ?_; refine Wo_nil ?_; refine W_cond_dec rfl (fun h3 => ?_) (fun h3 => ?_); (exfalso; omega)
            refine W_exit ?_; refine exitX_same ?_; refine W_seq ?_; refine W_region rfl ?_; refine Wo rfl (opv_move (v := .bool _) rfl) ?_; refine Wo_nil ?_; refine W_cond_false rfl ?_; refine W_skip ?_; refine W_region rfl ?_
            refine Wo rfl (opv_move (v := .int _ _) rfl) ?_; refine Wo rfl (opv_add rfl rfl (by omega)) ?_; refine Wo rfl (opv_assign (v := .int _ _) rfl) ?_; refine Wo_nil ?_
          refine ⟨((k + 1, u, L)), by repeat (first | exact trivial | refine And.intro rfl ?_), by repeat (first | with_reducible exact Same.refl | refine Same.upd rfl ?_ | refine Same.upds rfl ?_ | refine Same.mix rfl ?_), ?_, ?_⟩
          · refine ⟨by exact (E4.trans E5), by exact (Mono.mono E5 hO3), by omega, hF.skip hlt ?_⟩
            exact Classical.byContradiction fun h => absurd (hf.2 h) (by simp)
          · simp only; omega
        · focus
            have szE5 := E5.size; have szE4 := E4.size; have szE3 := E3.size; have szE2 := E2.size; have szE1 := E1.size; refine W_seq ?_; refine W_seq ?_; refine W_region rfl ?_; refine Wo rfl (opv_move (v := .int _ _) rfl) ?_
            refine Wo rfl (opv_move (v := u) rfl) ?_; refine Wo rfl (opv_len Tryz.underlying58 rfl (Owned.read hO3)) ?_; refine Wo rfl (opv_lss rfl rfl) ?_; refine Wo_nil ?_; refine W_cond_dec rfl (fun h3 => ?_) (fun h3 => ?_); (exfalso; omega)
            refine W_exit ?_; refine exitX_same ?_; refine W_seq ?_; refine W_region rfl ?_; refine Wo rfl (opv_move (v := .bool _) rfl) ?_; refine Wo_nil ?_; refine W_cond_true rfl ?_; refine W_region rfl ?_
            refine Wo rfl (opv_move (v := u) rfl) ?_; refine Wo rfl (opv_move (v := u1) rfl) ?_; refine Wo rfl (opv_move (v := .int _ _) rfl) ?_
            refine Wo_get Tryz.underlying58 Tryz.sizeOf3 Tryz.isAgg3 rfl (fun _ => rfl) rfl r1 ((E2.trans E4).trans E5) rfl (by first | omega | (simp <;> omega)) ?_; rintro _ _ rfl
            refine Wo_buildSliceH (ps := [(0, .int _ _)]) (cs := [_]) rfl Tryz.underlying58 Tryz.sizeOf3 Tryz.zeroValue3 rfl rfl rfl rfl ?_; rintro b2 w6 hb2 E6 hB1 hHb2; have hlb2 := hB1.lt; have hs4 := E6.size
            refine Wo_app1 rfl el58 rfl rfl hB1 (hO3.toB.ext (E5.trans E6)) Owned.int (Nat.le_refl _) (by first | omega | (simp <;> omega)) (by omega) (by omega) ((((E1.trans E2).trans E4).trans E5).trans E6) (by omega) ?_
            have hT1 := (hO3.toB.ext (E5.trans E6)); rintro v1 w7 hO3 E7 M1; have E8 := M1.ext hT1 (((E2.trans E4).trans E5).trans E6) (by omega); have szE8 := E8.size; have E9 := M1.ext hT1 ((E4.trans E5).trans E6) (by omega)
            have szE9 := E9.size; have hB1 := hB1.moves M1 hT1 (by omega); have hs5 := E7.size; refine Wo rfl (opv_assign (v := v1) rfl) ?_; refine Wo_nil ?_; refine W_region rfl ?_; refine Wo rfl (opv_move (v := .int _ _) rfl) ?_
            refine Wo rfl (opv_add rfl rfl (by omega)) ?_; refine Wo rfl (opv_assign (v := .int _ _) rfl) ?_; refine Wo_nil ?_
          refine ⟨((k + 1, v1, L ++ [(rf p i)[k]])), by repeat (first | exact trivial | refine And.intro rfl ?_), by repeat (first | with_reducible exact Same.refl | refine Same.upd rfl ?_ | refine Same.upds rfl ?_ | refine Same.mix rfl ?_), ?_, ?_⟩
          · refine ⟨by assumption, ?_, by omega, hF.step hp.gr hi hlt (hf.1 rfl)⟩
            rw [ints_append, show ints [(rf p i)[k]] = [(ints (rf p i))[k]'(by omega)] by rw [hgk]; rfl]
            assumption
          · simp only; omega
    · have hK := hF.kds hp.gr hi (by omega)
      have hLt : ∀ x ∈ L, x < p.length := fun x hx => hF.lt hp.gr hi hx
      focus
        have szE4 := E4.size; have szE3 := E3.size; have szE2 := E2.size; have szE1 := E1.size; refine W_seq ?_; refine W_seq ?_; refine W_region rfl ?_; refine Wo rfl (opv_move (v := .int _ _) rfl) ?_
        refine Wo rfl (opv_move (v := u1) rfl) ?_; refine Wo rfl (opv_len Tryz.underlying58 rfl r1) ?_; refine Wo rfl (opv_lss rfl rfl) ?_; refine Wo_nil ?_; refine W_cond_dec rfl (fun h2 => ?_) (fun h2 => ?_); (exfalso; omega)
        refine W_exit ?_; refine exitX_same ?_; refine W_seq ?_; refine W_region rfl ?_; refine Wo rfl (opv_move (v := v) rfl) ?_; refine Wo rfl (opv_move (v := u2) rfl) ?_; refine Wo rfl (opv_move (v := u) rfl) ?_
        refine Wo_call rfl (opc3 (a := v) (b := u2) (c := u) Tryz.call80 rfl rfl rfl) (k4 _ _ _ _ _ ((Mono.mono ((E1.trans E2).trans E4) h)) ((Mono.mono E4 r2)) ((Owned.read hO3)) (by assumption) (by assumption)) ?_; rintro u3 w5 ⟨E5, hO1⟩
        have hs4 := E5.size; refine Wo rfl (opv_assign (v := u3) rfl) ?_; refine Wo_nil ?_; refine W_ret ?_; refine at_ret (v := u3) rfl ?_
      refine ⟨_, by exact (((E1.trans E2).trans E4).trans E5), hO1.mono (by omega), fun _ => ⟨_, hK, rfl⟩, fun h => absurd hz h⟩
  · have k1 : ∀ (w : World) (v : Value), ESl Ints w v p → Does Tryz.prog 78 [v, .int .i64 z] w (RetO w XI []) := fun w v h => by
      have := spec_ReachedFrom_ok w v p z h
      rw [show rfV p z = [] from if_neg hz] at this; exact this
    have k2 : ∀ (w : World) (v : Value), ESl Ints w v p → Does Tryz.prog 79 [v] w (RetO w XI (if Pic p then ints (kndL p) else [])) := fun w v h => spec_KindsOf_ok w v p h
    have hnil : (([] : List Int).length : Int) = 0 := rfl
    refine fn_of_W1 Tryz.func54 rfl Tryz.results54 Tryz.ntmps54 rfl ?_
    focus
      refine W_seq ?_; refine W_region rfl ?_; refine Wo rfl (opv_assign (v := .slice _ _ _) rfl) ?_; refine Wo_nil ?_; refine W_seq ?_; refine W_region rfl ?_; refine Wo rfl (opv_move (v := v) rfl) ?_
      refine Wo rfl (opv_move (v := .int _ _) rfl) ?_; refine Wo_call rfl (opc2 (a := v) (b := .int _ _) Tryz.call78 rfl rfl) (k1 _ _ (h)) ?_; rintro u1 w1 ⟨E1, hO1⟩; have hs1 := E1.size; refine Wo rfl (opv_assign (v := u1) rfl) ?_
      refine Wo_nil ?_; refine W_seq ?_; refine W_region rfl ?_; refine Wo rfl (opv_move (v := v) rfl) ?_; refine Wo_call rfl (opc1 (a := v) Tryz.call79 rfl) (k2 _ _ ((Mono.mono E1 h))) ?_; rintro u2 w2 ⟨E2, hO2⟩; have hs2 := E2.size
      refine Wo rfl (opv_assign (v := u2) rfl) ?_; refine Wo_nil ?_; refine W_seq ?_; refine W_seq ?_; refine W_region rfl ?_; refine Wo rfl (opv_move (v := u1) rfl) ?_; refine Wo rfl (opv_len Tryz.underlying58 rfl (Owned.read hO1)) ?_
      refine Wo rfl (opv_eql rfl rfl) ?_; refine Wo_nil ?_; refine W_cond_dec rfl (fun h1 => ?_) (fun h1 => ?_); refine W_seq ?_; refine W_region rfl ?_; refine Wo_lit0 (XSl 3 XInt) rfl el22 Tryz.sizeOf58 ?_; rintro b1 w3 hb1 b1lt E3 hO3
      have hs3 := E3.size; refine Wo rfl (opv_assign (v := .slice _ _ _) rfl) ?_; refine Wo_nil ?_; refine W_ret ?_; refine at_ret (v := .slice _ _ _) rfl ?_; rotate_left; contradiction
    exact ⟨_, by exact ((E1.trans E2).trans E3), hO3.mono (by omega), fun h => absurd h hz, fun _ => rfl⟩

end Go.Proofs.YtgphoihilheoeaaGreatDoor
set_option linter.unusedVariables false
set_option linter.unusedSimpArgs false
namespace Go.Hs
section
variable {P : Program} {ρ : Env} {w : World} {ty s t e : TypeId} {x : Operand} {k : IntKind} {a : Int} {T : TypeDesc} {b c : Nat}
theorem opv_conv_u8 (hs : P.underlying s = some T) (ht : P.underlying t = some (.int .u8)) (hx : evalE ρ x = .int k a) (h : 0 ≤ a ∧ a ≤ 255) : OpV P (.convert s t x) ty ρ w (.int .u8 a) := by
  have e : IntKind.u8.wrap a = a := by
    simp only [IntKind.wrap, IntKind.bits, IntKind.signed]
    simp
    omega
  have : (convert s t (.int k a)).run P w = .ok (.int .u8 a) w := by simp [convert, run_und hs, run_und ht, Conv.intToInt, e]
  simp [OpV, execOp, hx, this]
theorem opv_conv_b1 (hs : P.underlying s = some (.slice e)) (he : P.underlying e = some (.int .u8)) (ht : P.underlying t = some .string) (hx : evalE ρ x = .slice (some ⟨b, 0, none⟩) 1 c) (hB : Blk w b [.int .u8 a]) :
    OpV P (.convert s t x) ty ρ w (str [UInt8.ofNat a.toNat]) := by
  have h0 : w.cell? ⟨b, 0, none⟩ = some (.int .u8 a) := hB.cell rfl
  have hl : (loadCells ⟨b, 0, none⟩ 1).run P w = .ok ([a].map (Value.int .u8)).toArray w := by simp [loadCells, loadCellsFrom, Addr.add, h0]
  have : (convert s t (.slice (some ⟨b, 0, none⟩) 1 c)).run P w = .ok (str [UInt8.ofNat a.toNat]) w := by
    simp only [convert, Sem.run_bind, run_und hs, run_und ht, run_und he, Result.andThen_ok]
    rw [run_bytesToString w _ _ _ [a] hl]
    rfl
  simp [OpV, execOp, hx, this]
end
end Go.Hs
set_option linter.unusedVariables false
set_option linter.unusedSimpArgs false
namespace Go.Hs
section
variable {c : UInt8} {l a r : List UInt8}
theorem byte_ind (c : UInt8) (s : List UInt8) : c ∉ s ∨ ∃ x r, s = x ++ c :: r ∧ c ∉ x := by
  induction s with
  | nil => exact .inl (by simp)
  | cons d s ih =>
    by_cases hd : d = c
    · exact .inr ⟨[], s, by simp [hd], by simp⟩
    · rcases ih with h | ⟨x, r, rfl, h⟩
      · exact .inl (by simp only [List.mem_cons, not_or]; exact ⟨fun e => hd e.symm, h⟩)
      · exact .inr ⟨d :: x, r, rfl, by simp only [List.mem_cons, not_or]; exact ⟨fun e => hd e.symm, h⟩⟩
theorem join_eq (c : UInt8) (ps : List (List UInt8)) : Go.Lib.join ps [c] = joinB c ps := by
  have h : ∀ (x : List UInt8) (ps : List (List UInt8)), Go.Lib.join (x :: ps) [c] = x ++ ps.flatMap fun y => c :: y := by
    intro x ps
    induction ps generalizing x with
    | nil => rw [Go.Lib.join_one]; simp
    | cons y ps ih =>
      have := ih y
      unfold Go.Lib.join List.intercalate at this ⊢
      simp only [List.intersperse, List.flatten_cons, List.flatMap_cons] at this ⊢
      rw [this]
      simp
  cases ps with
  | nil => rfl
  | cons x ps => exact h x ps
theorem decDigits_small {n : Nat} (h : n < 10) : Go.Lib.decDigits n = [dig n] := by
  rw [Go.Lib.decDigits, dif_pos h]; rfl
end
/-- a package-level variable that holds some int -/
def EMx (g : Nat) : World → Value → Unit → Prop := fun w _ _ => ∃ m, w.cell? ⟨g, 0, none⟩ = some (.int .i64 m)
instance {g : Nat} : Mono (EMx g) := ⟨fun e ⟨m, h⟩ => ⟨m, e.cell h⟩⟩
theorem cutB_mem_len {c : UInt8} : ∀ (n : Nat) (l : List UInt8), l.length ≤ n → ∀ x ∈ cutB c l, x.length ≤ l.length := by
  intro n
  induction n with
  | zero =>
    intro l hl x hx
    obtain rfl := List.eq_nil_of_length_eq_zero (Nat.le_zero.1 hl)
    simp [cutB] at hx
    simp [hx]
  | succ n ih =>
    intro l hl x h
    rcases byte_ind c l with hn | ⟨a, r, rfl, hn⟩
    · rw [cutB_one hn] at h; simp at h; simp [h]
    · rw [cutB_app hn] at h
      rcases List.mem_cons.1 h with rfl | h
      · simp
      · have := ih r (by simp at hl; omega) x h
        simp; omega
end Go.Hs
