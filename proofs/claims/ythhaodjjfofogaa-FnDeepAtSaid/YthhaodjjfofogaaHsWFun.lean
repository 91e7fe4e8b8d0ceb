/- Walks: IndexFunc, ContainsFunc; rows without arrows. -/
import Derived.Test.YthhaodjjfofogaaHsWPic
namespace Go.Proofs.Ythhaodjjfofogaa
open Go.Hs
set_option maxRecDepth 10000
set_option maxHeartbeats 4000000
set_option linter.unusedVariables false
set_option linter.unusedSimpArgs false

theorem IndexFunc_ok (w : World) (v : Value) (xs : List Int) (h : Ints w v xs) (fid : FuncId) (cap : List Value) (g : Int → Bool) (hc : ∀ args w, Sem.run Try.prog (callFunc fid args) w = .ok (.enter fid args) w)
    (hf : ∀ (x : Int) (w' : World), x ∈ xs → Ext w w' → Does Try.prog fid (.int .i64 x :: cap) w' (Ret w' (.bool (g x)))) :
    Does Try.prog 71 [v, .func (.func fid) [].toArray cap.toArray] w (RetX w (Value.int .i64) (fun n _ => (n = -1 ∧ xs.any g = false) ∨ (0 ≤ n ∧ xs.any g = true))) := by
  have hle := h.le
  refine fn_of_W1 Try.func71 rfl Try.results71 Try.ntmps71 rfl ?_
  focus
    refine W_seq ?_; refine W_region rfl ?_; refine Wo rfl (opv_assign (v := .int _ _) rfl) ?_; refine Wo_nil ?_; refine W_seq ?_; refine W_seq ?_; refine W_region rfl ?_; refine Wo rfl (opv_move (v := v) rfl) ?_
    refine Wo rfl (opv_len Try.underlying24 rfl h) ?_; refine Wo rfl (opv_move (v := .int _ _) rfl) ?_; refine Wo_nil ?_; refine W_block ?_
  refine W_loop [4, 5, 8, 9, 10, 11, 12, 13, 14, 15, 16, 17, 18] (fun (k : Nat) => [(8, .int .i64 (k : Nat))]) (fun k w' => Ext w w' ∧ k ≤ xs.length ∧ (xs.take k).any g = false) (fun x => xs.length - x) 0 (by repeat (first | exact trivial | refine And.intro rfl ?_)) ?_ ?_
  · exact ⟨Ext.refl _, Nat.zero_le _, by simp⟩
  rintro k ρj w1 ⟨E1, hk, hg⟩
  by_cases hlt : k < xs.length
  · have hmem := List.getElem_mem hlt
    focus
      have szE1 := E1.size; refine W_seq ?_; refine W_region rfl ?_; refine Wo rfl (opv_lss rfl rfl) ?_; refine Wo_nil ?_; refine W_seq ?_; refine W_cond_dec rfl (fun h1 => ?_) (fun h1 => ?_); refine W_skip ?_; refine W_seq ?_
      refine W_block ?_; refine W_seq ?_; refine W_region rfl ?_; refine Wo rfl (opv_move (v := .int _ _) rfl) ?_; refine Wo rfl (opv_assign (v := .int _ _) rfl) ?_; refine Wo_nil ?_; refine W_seq ?_; refine W_region rfl ?_
      refine Wo rfl (opv_move (v := .func _ _ _) rfl) ?_; refine Wo rfl (opv_move (v := v) rfl) ?_; refine Wo rfl (opv_move (v := .int _ _) rfl) ?_
      refine Wo_get Try.underlying24 Try.sizeOf3 Try.isAgg3 rfl (fun _ => rfl) rfl h E1 rfl (by first | omega | (simp <;> omega)) ?_; rintro _ _ rfl
      refine Wo_call rfl (opc_val1 (a := .int _ _) (by assumption) rfl rfl) (hf _ _ (by assumption) (E1)) ?_; rintro _ w2 ⟨rfl, E2⟩; have hs1 := E2.size; refine Wo_nil ?_; refine W_cond rfl (fun h2 => ?_) (fun h2 => ?_); refine W_seq ?_
      refine W_region rfl ?_; refine Wo rfl (opv_move (v := .int _ _) rfl) ?_; refine Wo rfl (opv_assign (v := .int _ _) rfl) ?_; refine Wo_nil ?_; refine W_ret ?_; refine at_ret (v := .int _ _) rfl ?_; refine ⟨(E1.trans E2), _, rfl, ?_⟩
      (try dsimp only); rotate_left; refine W_skip ?_; refine W_region rfl ?_; refine Wo rfl (opv_add rfl rfl (by omega)) ?_; refine Wo rfl (opv_move (v := .int _ _) rfl) ?_; refine Wo_nil ?_; rotate_left; (exfalso; omega)
    · right
      refine ⟨by omega, List.any_eq_true.2 ⟨_, hmem, by assumption⟩⟩
    · refine ⟨(k + 1), by repeat (first | exact trivial | refine And.intro rfl ?_), by repeat (first | with_reducible exact Same.refl | refine Same.upd rfl ?_ | refine Same.upds rfl ?_ | refine Same.mix rfl ?_), ?_, ?_⟩
      · refine ⟨E1.trans E2, by omega, ?_⟩
        rw [take_snoc _ _ hlt, List.any_append, hg]
        simpa using by assumption
      · omega
  · obtain rfl : k = xs.length := by omega
    focus
      have szE1 := E1.size; refine W_seq ?_; refine W_region rfl ?_; refine Wo rfl (opv_lss rfl rfl) ?_; refine Wo_nil ?_; refine W_seq ?_; refine W_cond_dec rfl (fun h1 => ?_) (fun h1 => ?_); (exfalso; omega); refine W_exit ?_
      refine exitX_same ?_; refine W_seq ?_; refine W_region rfl ?_; refine Wo rfl (opv_assign (v := .int _ _) rfl) ?_; refine Wo_nil ?_; refine W_ret ?_; refine at_ret (v := .int _ _) rfl ?_; refine ⟨E1, _, rfl, ?_⟩; (try dsimp only)
    exact .inl ⟨rfl, by simpa using hg⟩

theorem ContainsFunc_ok (w : World) (v : Value) (xs : List Int) (h : Ints w v xs) (fid : FuncId) (cap : List Value) (g : Int → Bool) (hc : ∀ args w, Sem.run Try.prog (callFunc fid args) w = .ok (.enter fid args) w)
    (hf : ∀ (x : Int) (w' : World), x ∈ xs → Ext w w' → Does Try.prog fid (.int .i64 x :: cap) w' (Ret w' (.bool (g x)))) :
    Does Try.prog 49 [v, .func (.func fid) [].toArray cap.toArray] w (Ret w (.bool (xs.any g))) := by
  have hi := IndexFunc_ok w v xs h fid cap g hc hf
  refine fn_of_W1 Try.func49 rfl Try.results49 Try.ntmps49 rfl ?_
  focus
    refine W_seq ?_; refine W_region rfl ?_; refine Wo rfl (opv_assign (v := .bool _) rfl) ?_; refine Wo_nil ?_; refine W_seq ?_; refine W_region rfl ?_; refine Wo rfl (opv_move (v := v) rfl) ?_
    refine Wo rfl (opv_move (v := .func _ _ _) rfl) ?_; refine Wo_call rfl (opc2 (a := v) (b := .func _ _ _) Try.call71 rfl rfl) (hi) ?_; rintro _ w1 ⟨E1, y1, rfl, hy1⟩; have hs1 := E1.size; refine Wo rfl (opv_geq rfl rfl) ?_
    refine Wo rfl (opv_assign (v := .bool _) rfl) ?_; refine Wo_nil ?_; refine W_ret ?_; refine at_ret (v := .bool _) rfl ?_; refine ⟨congrArg Value.bool ?_, E1⟩
  rcases hy1 with ⟨rfl, h9⟩ | ⟨h8, h9⟩
  · rw [h9]; rfl
  · rw [h9]; exact decide_eq_true h8

end Go.Proofs.Ythhaodjjfofogaa
