/- Walk of the law on HoldsAt. -/
import Derived.Test.YtjdfnngmbaojjaaHsWFmS
import Derived.Test.YtjdfnngmbaojjaaHsWRdN
namespace Go.Proofs.Ytjdfnngmbaojjaa
open Go.Hs
set_option maxRecDepth 10000
set_option maxHeartbeats 4000000
set_option linter.unusedVariables false
set_option linter.unusedSimpArgs false

theorem DrawHoldsAt_ok (w : World) (v : Value) (xs : List UInt8) (h : Bytes w v xs) (hc : CapOk v) :
    Does Try.prog 29 [v] w (RetT3 w XR (fun s p z => s.length ≤ 200 ∧ p.length ≤ 5 ∧ (∀ r ∈ p, r.length ≤ 6) ∧ -1000 ≤ z ∧ z ≤ 1000)) := by
  refine fn_of_W3 Try.func29 rfl Try.results29 Try.ntmps29 rfl ?_
  have hle := h.le
  focus
    refine W_seq ?_; refine W_region rfl ?_; refine Wo rfl (opv_assign (v := .string _) rfl) ?_; refine Wo rfl (opv_assign (v := .slice _ _ _) rfl) ?_; refine Wo rfl (opv_assign (v := .int _ _) rfl) ?_; refine Wo_nil ?_; refine W_seq ?_
    refine W_region rfl ?_; refine Wo rfl (opv_move (v := v) rfl) ?_; refine Wo_call rfl (opc1 (a := v) Try.call53 rfl) (open_ok _ _ _ (h) (by assumption)) ?_; rintro _ w1 ⟨E1, y1, rfl, hy1⟩; have hs1 := E1.size
    refine Wo rfl (opv_assign (v := .pointer _) rfl) ?_; refine Wo_nil ?_; refine W_seq ?_; refine W_region rfl ?_; refine Wo rfl (opv_move (v := .pointer _) rfl) ?_
    refine Wo_call rfl (opc2 (a := .pointer _) (b := .int _ _) Try.call52 rfl rfl) (formed_ok _ _ (by assumption) (by omega) (by omega)) ?_; rintro _ w2 ⟨y2, rfl, E2, hr1, hy2⟩; (try dsimp only at hy2); have hlhr1 := hr1.lt
    have Ehr1 := hr1.old; have hs2 := E2.size; refine Wo rfl (opv_assign (v := .string _) rfl) ?_; refine Wo_nil ?_; refine W_seq ?_; refine W_region rfl ?_; refine Wo rfl (opv_move (v := .pointer _) rfl) ?_
    refine Wo_call rfl (opc2 (a := .pointer _) (b := .int _ _) Try.call61 rfl rfl) (Node_ok _ _ (by assumption) (by omega) (by omega)) ?_; rintro _ w3 ⟨u1, z1, x1, rfl, E3, hr2, hO1, hy3⟩; (try dsimp only at hy3); have hlhr2 := hr2.lt
    have Ehr2 := hr2.old; have hs3 := E3.size; refine Wo rfl (opv_move (v := .tuple _) rfl) ?_; refine Wo rfl (opv_extract (v := u1) rfl rfl) ?_; refine Wo rfl (opv_extract (v := .int _ _) rfl rfl) ?_
    refine Wo rfl (opv_assign (v := u1) rfl) ?_; refine Wo rfl (opv_assign (v := .int _ _) rfl) ?_; refine Wo_nil ?_; refine W_seq ?_; refine W_region rfl ?_; refine Wo rfl (opv_move (v := .string _) rfl) ?_
    refine Wo rfl (opv_move (v := u1) rfl) ?_; refine Wo rfl (opv_move (v := .int _ _) rfl) ?_; refine Wo rfl (opv_assign (v := .string _) rfl) ?_; refine Wo rfl (opv_assign (v := u1) rfl) ?_
    refine Wo rfl (opv_assign (v := .int _ _) rfl) ?_; refine Wo_nil ?_; refine W_ret ?_; refine at_ret (v := .tuple #[.string _, u1, .int _ _]) rfl ?_
  exact ⟨_, _, _, _, rfl, Ehr2, hO1.mono (by omega), hy2, hy3⟩

theorem FnHoldsAt_walk (w : World) (v : Value) (xs : List UInt8) (h : Bytes w v xs) (hc : CapOk v) : Does Try.prog 9 [v] w (Ret w (.bool true)) := by
  have hle := h.le
  have hH : ∀ (w : World) (s : List UInt8) (pv : Value) (p : List (List Int)) (z : Int), ESl Ints w pv p → s.length ≤ 200 → Does Try.prog 27 [str s, pv, .int .i64 z] w (Ret w (.bool (holdsV s p z))) := fun w s pv p z h hl => impl_HoldsAt_ok s w pv p z (by unfold lim; omega) h
  have hK : ∀ (w : World) (s : List UInt8) (pv : Value) (p : List (List Int)) (z : Int), ESl Ints w pv p → s.length ≤ 200 → Does Try.prog 25 [str s, pv, .int .i64 z] w (Ret w (.bool (holdsV s p z))) := fun w s pv p z h hl => spec_HoldsAt_ok s w pv p z (by unfold lim; omega) h
  have hF : ∀ s w, s.length ≤ 200 → Does Try.prog 15 [str s] w (Ret w (.bool (okF s))) := fun s w h => spec_FormulaOk_ok s w (by unfold lim; omega)
  refine fn_of_W1 Try.func9 rfl Try.results9 Try.ntmps9 rfl ?_
  focus
    refine W_seq ?_; refine W_region rfl ?_; refine Wo rfl (opv_assign (v := .bool _) rfl) ?_; refine Wo_nil ?_; refine W_seq ?_; refine W_seq ?_; refine W_region rfl ?_; refine Wo rfl (opv_move (v := v) rfl) ?_
    refine Wo rfl (opv_len Try.underlying24 rfl h) ?_; refine Wo rfl (opv_gtr rfl rfl) ?_; refine Wo_nil ?_; refine W_cond_dec rfl (fun h1 => ?_) (fun h1 => ?_); refine W_seq ?_; refine W_region rfl ?_
    refine Wo rfl (opv_assign (v := .bool _) rfl) ?_; refine Wo_nil ?_; refine W_ret ?_; exact ⟨rfl, (Ext.refl _)⟩; refine W_skip ?_; refine W_seq ?_; refine W_region rfl ?_; refine Wo rfl (opv_move (v := v) rfl) ?_
    refine Wo_call rfl (opc1 (a := v) Try.call29 rfl) (DrawHoldsAt_ok _ _ _ (h) (by assumption)) ?_; rintro _ w1 ⟨s1, u1, z1, x1, rfl, E1, hO1, hy1⟩; have hs1 := E1.size; refine Wo rfl (opv_move (v := .tuple _) rfl) ?_
    refine Wo rfl (opv_extract (v := .string _) rfl rfl) ?_; refine Wo rfl (opv_extract (v := u1) rfl rfl) ?_; refine Wo rfl (opv_extract (v := .int _ _) rfl rfl) ?_; refine Wo rfl (opv_assign (v := .string _) rfl) ?_
    refine Wo rfl (opv_assign (v := u1) rfl) ?_; refine Wo rfl (opv_assign (v := .int _ _) rfl) ?_; refine Wo_nil ?_; refine W_seq ?_; refine W_region rfl ?_; refine Wo rfl (opv_move (v := .string _) rfl) ?_
    refine Wo rfl (opv_move (v := u1) rfl) ?_; refine Wo rfl (opv_move (v := .int _ _) rfl) ?_
  have hv : ∀ b, holdsV s1 x1 z1 = b → (∀ (w : World) (pv : Value), ESl Ints w pv x1 → Does Try.prog 27 [str s1, pv, .int .i64 z1] w (Ret w (.bool b))) ∧ (∀ (w : World) (pv : Value), ESl Ints w pv x1 → Does Try.prog 25 [str s1, pv, .int .i64 z1] w (Ret w (.bool b))) := fun b e => by
    subst e
    exact ⟨fun w pv h => hH w s1 pv x1 z1 h hy1.1, fun w pv h => hK w s1 pv x1 z1 h hy1.1⟩
  have ho : ∀ b, okF s1 = b → ∀ w, Does Try.prog 15 [str s1] w (Ret w (.bool b)) := fun b e w => by
    subst e; exact hF s1 w hy1.1
  have hd : ∀ b, decide (Nod x1 z1) = b → ∀ (w : World) (pv : Value), ESl Ints w pv x1 → Does Try.prog 30 [pv, .int .i64 z1] w (Ret w (.bool b)) := fun b e w pv h => by
    subst e; exact NodeOk_ok w pv x1 h z1
  cases hf : theF s1 with
  | none =>
    obtain ⟨k1, k2⟩ := hv false (by unfold holdsV; rw [hf])
    have k3 := ho false (by rw [okF, hf]; rfl)
    clear hH hK hF hv ho hd
    focus
      have szE1 := E1.size; refine Wo_call rfl (opc3 (a := .string _) (b := u1) (c := .int _ _) Try.call27 rfl rfl rfl) (k1 _ _ ((Owned.read hO1))) ?_; rintro _ w2 ⟨rfl, E2⟩; have hs2 := E2.size
      refine Wo rfl (opv_assign (v := .bool _) rfl) ?_; refine Wo_nil ?_; refine W_seq ?_; refine W_seq ?_; refine W_region rfl ?_; refine Wo rfl (opv_move (v := .bool _) rfl) ?_; refine Wo rfl (opv_move (v := .string _) rfl) ?_
      refine Wo rfl (opv_move (v := u1) rfl) ?_; refine Wo rfl (opv_move (v := .int _ _) rfl) ?_; refine Wo_call rfl (opc3 (a := .string _) (b := u1) (c := .int _ _) Try.call25 rfl rfl rfl) (k2 _ _ ((Mono.mono E2 (Owned.read hO1)))) ?_
      rintro _ w3 ⟨rfl, E3⟩; have hs3 := E3.size; refine Wo rfl (opv_neq_bool Try.underlying4 rfl rfl) ?_; refine Wo_nil ?_; refine W_cond_ndec rfl (fun h2 => ?_) (fun h2 => ?_); contradiction; refine W_skip ?_; refine W_seq ?_
      refine W_seq ?_; refine W_region rfl ?_; refine Wo rfl (opv_move (v := .string _) rfl) ?_; refine Wo_call rfl (opc1 (a := .string _) Try.call15 rfl) (k3 _) ?_; rintro _ w4 ⟨rfl, E4⟩; have hs4 := E4.size
      refine Wo rfl (opv_not rfl) ?_; refine Wo_split rfl (opv_move (v := .bool _) rfl) (fun h3 => ?_) (fun h3 => ?_); refine Wo_skip rfl ?_; refine Wo_skip rfl ?_; refine Wo_skip rfl ?_; refine Wo_skip rfl ?_
      refine Wo rfl (opv_pick_t (v := .bool _) rfl rfl) ?_; refine Wo_nil ?_; refine W_cond_true rfl ?_; refine W_seq ?_; refine W_region rfl ?_; refine Wo rfl (opv_move (v := .bool _) rfl) ?_; refine Wo rfl (opv_not rfl) ?_
      refine Wo_split rfl (opv_move (v := .bool _) rfl) (fun h4 => ?_) (fun h4 => ?_); refine Wo_call rfl (opc0 Try.call20) (alive_ok _) ?_; rintro _ w5 ⟨rfl, E5⟩; have hs5 := E5.size; refine Wo rfl (opv_pick_t (v := .bool _) rfl rfl) ?_
      refine Wo rfl (opv_assign (v := .bool _) rfl) ?_; refine Wo_nil ?_; refine W_ret ?_; exact ⟨rfl, ((((E1.trans E2).trans E3).trans E4).trans E5)⟩; contradiction; contradiction
  | some f =>
    have k3 := ho true (by rw [okF, hf]; rfl)
    by_cases hn : Nod x1 z1
    · obtain ⟨k1, k2⟩ := hv (f.holds x1 z1.toNat) (by unfold holdsV; rw [hf, decide_eq_true hn]; rfl)
      have k4 := hd true (decide_eq_true hn)
      have k5 : ∀ (w : World) (pv : Value) (j : Int), ESl Ints w pv x1 → 0 ≤ j ∧ j < x1.length → Does Try.prog 27 [str s1, pv, .int .i64 j] w (Ret w (.bool (f.holds x1 j.toNat))) := fun w pv j h hj => by
        have e : holdsV s1 x1 j = f.holds x1 j.toNat := by unfold holdsV; rw [hf, decide_eq_true ⟨hn.1, hj⟩]; rfl
        rw [← e]; exact hH w s1 pv x1 j h hy1.1
      have k6 : ∀ (w : World) (pv : Value), ESl Ints w pv x1 → s1.length < 59 → Does Try.prog 27 [str ([83] ++ s1), pv, .int .i64 z1] w (Ret w (.bool ((arr x1 z1.toNat).any (f.holds x1)))) := fun w pv h hl => by
        have e : holdsV ([83] ++ s1) x1 z1 = (arr x1 z1.toNat).any (f.holds x1) := by unfold holdsV; rw [theF_S (by omega), hf, decide_eq_true hn]; rfl
        rw [← e]; exact hH w _ pv x1 z1 h (by simp; omega)
      have k7 : ∀ (w : World) (pv : Value), ESl Ints w pv x1 → s1.length < 59 → Does Try.prog 27 [str ([65, 33] ++ s1), pv, .int .i64 z1] w (Ret w (.bool (!((arr x1 z1.toNat).any (f.holds x1))))) := fun w pv h hl => by
        have e : holdsV ([65, 33] ++ s1) x1 z1 = !((arr x1 z1.toNat).any (f.holds x1)) := by
          have e2 : theF ([65] ++ ([33] ++ s1)) = some (.A (.neg f)) := by rw [theF_A (by simp; omega), theF_neg (by omega), hf]; rfl
          unfold holdsV
          rw [show [65, 33] ++ s1 = [65] ++ ([33] ++ s1) from rfl, e2]
          simp [decide_eq_true hn, Fm.holds]
        rw [← e]; exact hH w _ pv x1 z1 h (by simp; omega)
      have k8 : ∀ (w : World) (pv : Value), ESl Ints w pv x1 → s1.length < 59 → Does Try.prog 27 [str ([33] ++ s1), pv, .int .i64 z1] w (Ret w (.bool (!(f.holds x1 z1.toNat)))) := fun w pv h hl => by
        have e : holdsV ([33] ++ s1) x1 z1 = !(f.holds x1 z1.toNat) := by unfold holdsV; rw [theF_neg (by omega), hf, decide_eq_true hn]; rfl
        rw [← e]; exact hH w _ pv x1 z1 h (by simp; omega)
      clear hv ho hd hH hK hF
      have hzl : z1.toNat < x1.length := by have := hn.2; omega
      have hrow := hn.1.row hzl
      have hz0 := hn.2
      have hany := arr_any hn.1 hzl (f.holds x1)
      focus
        have szE1 := E1.size; refine Wo_call rfl (opc3 (a := .string _) (b := u1) (c := .int _ _) Try.call27 rfl rfl rfl) (k1 _ _ ((Owned.read hO1))) ?_; rintro _ w2 ⟨rfl, E2⟩; have hs2 := E2.size
        refine Wo rfl (opv_assign (v := .bool _) rfl) ?_; refine Wo_nil ?_; refine W_seq ?_; refine W_seq ?_; refine W_region rfl ?_; refine Wo rfl (opv_move (v := .bool _) rfl) ?_; refine Wo rfl (opv_move (v := .string _) rfl) ?_
        refine Wo rfl (opv_move (v := u1) rfl) ?_; refine Wo rfl (opv_move (v := .int _ _) rfl) ?_; refine Wo_call rfl (opc3 (a := .string _) (b := u1) (c := .int _ _) Try.call25 rfl rfl rfl) (k2 _ _ ((Mono.mono E2 (Owned.read hO1)))) ?_
        rintro _ w3 ⟨rfl, E3⟩; have hs3 := E3.size; refine Wo rfl (opv_neq_bool Try.underlying4 rfl rfl) ?_; refine Wo_nil ?_; refine W_cond_ndec rfl (fun h2 => ?_) (fun h2 => ?_); contradiction; refine W_skip ?_; refine W_seq ?_
        refine W_seq ?_; refine W_region rfl ?_; refine Wo rfl (opv_move (v := .string _) rfl) ?_; refine Wo_call rfl (opc1 (a := .string _) Try.call15 rfl) (k3 _) ?_; rintro _ w4 ⟨rfl, E4⟩; have hs4 := E4.size
        refine Wo rfl (opv_not rfl) ?_; refine Wo_split rfl (opv_move (v := .bool _) rfl) (fun h3 => ?_) (fun h3 => ?_); contradiction; refine Wo rfl (opv_move (v := u1) rfl) ?_; refine Wo rfl (opv_move (v := .int _ _) rfl) ?_
        refine Wo_call rfl (opc2 (a := u1) (b := .int _ _) Try.call30 rfl rfl) (k4 _ _ ((Mono.mono ((E2.trans E3).trans E4) (Owned.read hO1)))) ?_; rintro _ w5 ⟨rfl, E5⟩; have hs5 := E5.size; refine Wo rfl (opv_not rfl) ?_
        refine Wo rfl (opv_pick_f (v := .bool _) rfl rfl) ?_; refine Wo_nil ?_; refine W_cond rfl (fun h4 => ?_) (fun h4 => ?_); contradiction; refine W_skip ?_; refine W_seq ?_; refine W_seq ?_; refine W_region rfl ?_
        refine Wo rfl (opv_move (v := .string _) rfl) ?_; refine Wo rfl (opv_len_str Try.underlying9 rfl) ?_; refine Wo rfl (opv_add rfl rfl (by omega)) ?_; refine Wo rfl (opv_gtr rfl rfl) ?_; refine Wo_nil ?_
        refine W_cond_dec rfl (fun h5 => ?_) (fun h5 => ?_); refine W_seq ?_; refine W_region rfl ?_; refine Wo rfl (opv_assign (v := .bool _) rfl) ?_; refine Wo_nil ?_; refine W_ret ?_
        exact ⟨rfl, ((((E1.trans E2).trans E3).trans E4).trans E5)⟩; refine W_skip ?_; refine W_seq ?_; refine W_region rfl ?_; refine Wo rfl (opv_assign (v := .bool _) rfl) ?_; refine Wo_nil ?_; refine W_seq ?_; refine W_seq ?_
        refine W_region rfl ?_; refine Wo rfl (opv_assign (v := .int _ _) rfl) ?_; refine Wo_nil ?_; refine W_block ?_
      refine W_loop [7, 8, 46, 47, 48, 49, 50, 51, 52, 53, 54, 55, 56, 57, 58, 59, 60, 61, 62, 63, 64, 65, 66, 67, 68] (fun (k, b) => [(7, .bool b), (8, .int .i64 (k : Nat))]) (fun (k, b) w' => Ext w5 w' ∧ k ≤ x1.length ∧ b = (List.range k).any fun j => decide (x1[z1.toNat].getD j 0 = 1) && f.holds x1 j) (fun x => x1.length - x.1) (0, false) (by repeat (first | exact trivial | refine And.intro rfl ?_)) ?_ ?_
      · exact ⟨Ext.refl _, Nat.zero_le _, by simp⟩
      rintro ⟨k, b⟩ ρj w6 ⟨E6, hk, hb⟩
      by_cases hlt : k < x1.length
      · have hgd := getD_lt (l := x1[z1.toNat]) (i := k) (d := 0) (by omega)
        have hsu := any_range_succ (fun j => decide (x1[z1.toNat].getD j 0 = 1) && f.holds x1 j) k
        rw [← hb, hgd] at hsu
        cases b with
        | true =>
          focus
            have szE6 := E6.size; have szE5 := E5.size; have szE4 := E4.size; have szE3 := E3.size; have szE2 := E2.size; have szE1 := E1.size; refine W_seq ?_; refine W_seq ?_; refine W_region rfl ?_
            refine Wo rfl (opv_move (v := .int _ _) rfl) ?_; refine Wo rfl (opv_move (v := u1) rfl) ?_; refine Wo rfl (opv_len Try.underlying30 rfl (Owned.read hO1)) ?_; refine Wo rfl (opv_lss rfl rfl) ?_; refine Wo_nil ?_
            refine W_cond_dec rfl (fun h6 => ?_) (fun h6 => ?_); refine W_skip ?_; refine W_seq ?_; refine W_block ?_; refine W_region rfl ?_; refine Wo rfl (opv_move (v := .bool _) rfl) ?_; refine Wo rfl (opv_move (v := .bool _) rfl) ?_
            refine Wo_skip rfl ?_; refine Wo_skip rfl ?_; refine Wo_skip rfl ?_; refine Wo_skip rfl ?_; refine Wo_skip rfl ?_; refine Wo_skip rfl ?_; refine Wo_skip rfl ?_; refine Wo_skip rfl ?_; refine Wo_skip rfl ?_; refine Wo_skip rfl ?_
            refine Wo_skip rfl ?_; refine Wo_skip rfl ?_; refine Wo_skip rfl ?_; refine Wo_skip rfl ?_; refine Wo rfl (opv_pick_t (v := .bool _) rfl rfl) ?_; refine Wo rfl (opv_assign (v := .bool _) rfl) ?_; refine Wo_nil ?_
            refine W_region rfl ?_; refine Wo rfl (opv_move (v := .int _ _) rfl) ?_; refine Wo rfl (opv_add rfl rfl (by omega)) ?_; refine Wo rfl (opv_assign (v := .int _ _) rfl) ?_; refine Wo_nil ?_; rotate_left; (exfalso; omega)
          refine ⟨((k + 1, true)), by repeat (first | exact trivial | refine And.intro rfl ?_), by repeat (first | with_reducible exact Same.refl | refine Same.upd rfl ?_ | refine Same.upds rfl ?_ | refine Same.mix rfl ?_), ?_, ?_⟩
          · exact ⟨E6, by omega, by rw [hsu]; rfl⟩
          · simp only; omega
        | false =>
          focus
            have szE6 := E6.size; have szE5 := E5.size; have szE4 := E4.size; have szE3 := E3.size; have szE2 := E2.size; have szE1 := E1.size; refine W_seq ?_; refine W_seq ?_; refine W_region rfl ?_
            refine Wo rfl (opv_move (v := .int _ _) rfl) ?_; refine Wo rfl (opv_move (v := u1) rfl) ?_; refine Wo rfl (opv_len Try.underlying30 rfl (Owned.read hO1)) ?_; refine Wo rfl (opv_lss rfl rfl) ?_; refine Wo_nil ?_
            refine W_cond_dec rfl (fun h6 => ?_) (fun h6 => ?_); refine W_skip ?_; refine W_seq ?_; refine W_block ?_; refine W_region rfl ?_; refine Wo rfl (opv_move (v := .bool _) rfl) ?_; refine Wo rfl (opv_move (v := .bool _) rfl) ?_
            refine Wo rfl (opv_move (v := u1) rfl) ?_; refine Wo rfl (opv_move (v := .int _ _) rfl) ?_
            refine Wo_get_z Try.underlying30 Try.sizeOf38 Try.isAgg38 rfl (fun _ => rfl) rfl (Owned.read hO1) ((((E2.trans E3).trans E4).trans E5).trans E6) rfl (by first | omega | (simp <;> omega)) ?_; rintro _ u2 hu1
            refine Wo rfl (opv_move (v := .int _ _) rfl) ?_; refine Wo_get Try.underlying38 Try.sizeOf3 Try.isAgg3 rfl (fun _ => rfl) rfl hu1 ((((E2.trans E3).trans E4).trans E5).trans E6) rfl (by first | omega | (simp <;> omega)) ?_
            rintro _ _ rfl; refine Wo rfl (opv_eql rfl rfl) ?_; refine Wo_split_dec rfl (opv_move (v := .bool _) rfl) (fun h7 => ?_) (fun h7 => ?_); refine Wo rfl (opv_move (v := .string _) rfl) ?_; refine Wo rfl (opv_move (v := u1) rfl) ?_
            refine Wo rfl (opv_move (v := .int _ _) rfl) ?_
            refine Wo_call rfl (opc3 (a := .string _) (b := u1) (c := .int _ _) Try.call27 rfl rfl rfl) (k5 _ _ _ ((Mono.mono ((((E2.trans E3).trans E4).trans E5).trans E6) (Owned.read hO1))) (by omega)) ?_; rintro _ w7 ⟨rfl, E7⟩
            have hs6 := E7.size; refine Wo rfl (opv_pick_t (v := .bool _) rfl rfl) ?_; refine Wo rfl (opv_pick_f (v := .bool _) rfl rfl) ?_; refine Wo rfl (opv_assign (v := .bool _) rfl) ?_; refine Wo_nil ?_; refine W_region rfl ?_
            refine Wo rfl (opv_move (v := .int _ _) rfl) ?_; refine Wo rfl (opv_add rfl rfl (by omega)) ?_; refine Wo rfl (opv_assign (v := .int _ _) rfl) ?_; refine Wo_nil ?_; rotate_left; refine Wo_skip rfl ?_; refine Wo_skip rfl ?_
            refine Wo_skip rfl ?_; refine Wo_skip rfl ?_; refine Wo rfl (opv_pick_f (v := .bool _) rfl rfl) ?_; refine Wo rfl (opv_pick_f (v := .bool _) rfl rfl) ?_; refine Wo rfl (opv_assign (v := .bool _) rfl) ?_; refine Wo_nil ?_
            refine W_region rfl ?_; refine Wo rfl (opv_move (v := .int _ _) rfl) ?_; refine Wo rfl (opv_add rfl rfl (by omega)) ?_; refine Wo rfl (opv_assign (v := .int _ _) rfl) ?_; refine Wo_nil ?_; rotate_left; (exfalso; omega)
          · refine ⟨((k + 1, f.holds x1 k)), by repeat (first | exact trivial | refine And.intro rfl ?_), by repeat (first | with_reducible exact Same.refl | refine Same.upd rfl ?_ | refine Same.upds rfl ?_ | refine Same.mix rfl ?_), ?_, ?_⟩
            · refine ⟨E6.trans E7, by omega, ?_⟩
              rw [hsu, decide_eq_true (by assumption)]; simp
            · simp only; omega
          · refine ⟨((k + 1, false)), by repeat (first | exact trivial | refine And.intro rfl ?_), by repeat (first | with_reducible exact Same.refl | refine Same.upd rfl ?_ | refine Same.upds rfl ?_ | refine Same.mix rfl ?_), ?_, ?_⟩
            · refine ⟨E6, by omega, ?_⟩
              rw [hsu, decide_eq_false (by assumption)]; rfl
            · simp only; omega
      · obtain rfl : k = x1.length := by omega
        rw [← hany] at hb
        subst hb
        focus
          have szE6 := E6.size; have szE5 := E5.size; have szE4 := E4.size; have szE3 := E3.size; have szE2 := E2.size; have szE1 := E1.size; refine W_seq ?_; refine W_seq ?_; refine W_region rfl ?_
          refine Wo rfl (opv_move (v := .int _ _) rfl) ?_; refine Wo rfl (opv_move (v := u1) rfl) ?_; refine Wo rfl (opv_len Try.underlying30 rfl (Owned.read hO1)) ?_; refine Wo rfl (opv_lss rfl rfl) ?_; refine Wo_nil ?_
          refine W_cond_dec rfl (fun h6 => ?_) (fun h6 => ?_); (exfalso; omega); refine W_exit ?_; refine exitX_same ?_; refine W_seq ?_; refine W_region rfl ?_; refine Wo rfl (opv_move (v := .string _) rfl) ?_
          refine Wo rfl (opv_add_str rfl rfl (by simp <;> omega)) ?_; refine Wo rfl (opv_move (v := u1) rfl) ?_; refine Wo rfl (opv_move (v := .int _ _) rfl) ?_
          refine Wo_call rfl (opc3 (a := .string _) (b := u1) (c := .int _ _) Try.call27 rfl rfl rfl) (k6 _ _ ((Mono.mono ((((E2.trans E3).trans E4).trans E5).trans E6) (Owned.read hO1))) (by omega)) ?_; rintro _ w7 ⟨rfl, E7⟩
          have hs6 := E7.size; refine Wo rfl (opv_move (v := .bool _) rfl) ?_; refine Wo rfl (opv_eql_bool Try.underlying4 rfl rfl) ?_; refine Wo_split_dec rfl (opv_move (v := .bool _) rfl) (fun h7 => ?_) (fun h7 => ?_)
          refine Wo rfl (opv_move (v := .string _) rfl) ?_; refine Wo rfl (opv_add_str rfl rfl (by simp <;> omega)) ?_; refine Wo rfl (opv_move (v := u1) rfl) ?_; refine Wo rfl (opv_move (v := .int _ _) rfl) ?_
          refine Wo_call rfl (opc3 (a := .string _) (b := u1) (c := .int _ _) Try.call27 rfl rfl rfl) (k7 _ _ ((Mono.mono (((((E2.trans E3).trans E4).trans E5).trans E6).trans E7) (Owned.read hO1))) (by omega)) ?_; rintro _ w8 ⟨rfl, E8⟩
          have hs7 := E8.size; refine Wo rfl (opv_move (v := .bool _) rfl) ?_; refine Wo rfl (opv_not rfl) ?_; refine Wo rfl (opv_eql_bool Try.underlying4 rfl rfl) ?_; refine Wo rfl (opv_pick_t (v := .bool _) rfl rfl) ?_
          refine Wo_split_dec rfl (opv_move (v := .bool _) rfl) (fun h8 => ?_) (fun h8 => ?_); refine Wo rfl (opv_move (v := .string _) rfl) ?_; refine Wo rfl (opv_add_str rfl rfl (by simp <;> omega)) ?_
          refine Wo rfl (opv_move (v := u1) rfl) ?_; refine Wo rfl (opv_move (v := .int _ _) rfl) ?_
          refine Wo_call rfl (opc3 (a := .string _) (b := u1) (c := .int _ _) Try.call27 rfl rfl rfl) (k8 _ _ ((Mono.mono ((((((E2.trans E3).trans E4).trans E5).trans E6).trans E7).trans E8) (Owned.read hO1))) (by omega)) ?_
          rintro _ w9 ⟨rfl, E9⟩; have hs8 := E9.size; refine Wo rfl (opv_move (v := .bool _) rfl) ?_; refine Wo rfl (opv_neq_bool Try.underlying4 rfl rfl) ?_; refine Wo rfl (opv_pick_t (v := .bool _) rfl rfl) ?_
          refine Wo rfl (opv_assign (v := .bool _) rfl) ?_; refine Wo_nil ?_; refine W_ret ?_; refine at_ret (v := .bool _) rfl ?_
          refine ⟨congrArg Value.bool ?_, ((((((((E1.trans E2).trans E3).trans E4).trans E5).trans E6).trans E7).trans E8).trans E9)⟩; rotate_left; contradiction; contradiction
        cases f.holds x1 z1.toNat <;> rfl
    · obtain ⟨k1, k2⟩ := hv false (by unfold holdsV; rw [hf, decide_eq_false hn]; rfl)
      have k4 := hd false (decide_eq_false hn)
      clear hH hK hF hv ho hd
      focus
        have szE1 := E1.size; refine Wo_call rfl (opc3 (a := .string _) (b := u1) (c := .int _ _) Try.call27 rfl rfl rfl) (k1 _ _ ((Owned.read hO1))) ?_; rintro _ w2 ⟨rfl, E2⟩; have hs2 := E2.size
        refine Wo rfl (opv_assign (v := .bool _) rfl) ?_; refine Wo_nil ?_; refine W_seq ?_; refine W_seq ?_; refine W_region rfl ?_; refine Wo rfl (opv_move (v := .bool _) rfl) ?_; refine Wo rfl (opv_move (v := .string _) rfl) ?_
        refine Wo rfl (opv_move (v := u1) rfl) ?_; refine Wo rfl (opv_move (v := .int _ _) rfl) ?_; refine Wo_call rfl (opc3 (a := .string _) (b := u1) (c := .int _ _) Try.call25 rfl rfl rfl) (k2 _ _ ((Mono.mono E2 (Owned.read hO1)))) ?_
        rintro _ w3 ⟨rfl, E3⟩; have hs3 := E3.size; refine Wo rfl (opv_neq_bool Try.underlying4 rfl rfl) ?_; refine Wo_nil ?_; refine W_cond_ndec rfl (fun h2 => ?_) (fun h2 => ?_); contradiction; refine W_skip ?_; refine W_seq ?_
        refine W_seq ?_; refine W_region rfl ?_; refine Wo rfl (opv_move (v := .string _) rfl) ?_; refine Wo_call rfl (opc1 (a := .string _) Try.call15 rfl) (k3 _) ?_; rintro _ w4 ⟨rfl, E4⟩; have hs4 := E4.size
        refine Wo rfl (opv_not rfl) ?_; refine Wo_split rfl (opv_move (v := .bool _) rfl) (fun h3 => ?_) (fun h3 => ?_); contradiction; refine Wo rfl (opv_move (v := u1) rfl) ?_; refine Wo rfl (opv_move (v := .int _ _) rfl) ?_
        refine Wo_call rfl (opc2 (a := u1) (b := .int _ _) Try.call30 rfl rfl) (k4 _ _ ((Mono.mono ((E2.trans E3).trans E4) (Owned.read hO1)))) ?_; rintro _ w5 ⟨rfl, E5⟩; have hs5 := E5.size; refine Wo rfl (opv_not rfl) ?_
        refine Wo rfl (opv_pick_f (v := .bool _) rfl rfl) ?_; refine Wo_nil ?_; refine W_cond rfl (fun h4 => ?_) (fun h4 => ?_); refine W_seq ?_; refine W_region rfl ?_; refine Wo rfl (opv_move (v := .bool _) rfl) ?_
        refine Wo rfl (opv_not rfl) ?_; refine Wo_split rfl (opv_move (v := .bool _) rfl) (fun h5 => ?_) (fun h5 => ?_); refine Wo_call rfl (opc0 Try.call20) (alive_ok _) ?_; rintro _ w6 ⟨rfl, E6⟩; have hs6 := E6.size
        refine Wo rfl (opv_pick_t (v := .bool _) rfl rfl) ?_; refine Wo rfl (opv_assign (v := .bool _) rfl) ?_; refine Wo_nil ?_; refine W_ret ?_; exact ⟨rfl, (((((E1.trans E2).trans E3).trans E4).trans E5).trans E6)⟩; contradiction
        contradiction

end Go.Proofs.Ytjdfnngmbaojjaa
