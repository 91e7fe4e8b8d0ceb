/- Walks of the laws on FoundedIn and FoundedAll. -/
import Derived.Test.YthhaodjjfofogaaHsWFndL
import Derived.Test.YthhaodjjfofogaaHsWCbL
import Derived.Test.YthhaodjjfofogaaHsWRdN
import Derived.Test.YthhaodjjfofogaaHsWAl
import Derived.Test.YthhaodjjfofogaaHsDrawX
import Derived.Test.YthhaodjjfofogaaHsFndR
namespace Go.Proofs.Ythhaodjjfofogaa
open Go.Hs
set_option maxRecDepth 10000
set_option maxHeartbeats 4000000
set_option linter.unusedVariables false
set_option linter.unusedSimpArgs false
theorem fi_asc {l : List Nat} (h : l.Pairwise (· < ·)) : ∀ i (h : i + 1 < (ints l).length), (ints l)[i] < (ints l)[i + 1] := fun i hi => by
  have := List.pairwise_iff_getElem.1 h i (i + 1) (by rw [ints_len] at hi; omega) (by rw [ints_len] at hi; exact hi) (by omega)
  simp only [ints, List.getElem_map]; omega
theorem same_true (l : List Int) (w : World) (v u : Value) (h : Ints w v l) (h' : Ints w u l) : Does Try.prog 27 [v, u] w (Ret w (.bool true)) := by
  have := sameInts_ok w v u l l h h'
  rw [decide_eq_true rfl] at this; exact this

theorem DrawFoundedIn_ok (w : World) (v : Value) (xs : List UInt8) (h : Bytes w v xs) (hc : CapOk v) :
    Does Try.prog 26 [v] w (RetTN w XR (fun p z => p.length ≤ 5 ∧ (∀ r ∈ p, r.length ≤ 6) ∧ -1000 ≤ z ∧ z ≤ 1000)) := by
  refine fn_of_W2 Try.func26 rfl Try.results26 Try.ntmps26 rfl ?_
  have hle := h.le
  focus
    refine W_seq ?_; refine W_region rfl ?_; refine Wo rfl (opv_assign (v := .slice _ _ _) rfl) ?_; refine Wo rfl (opv_assign (v := .int _ _) rfl) ?_; refine Wo_nil ?_; refine W_seq ?_; refine W_region rfl ?_
    refine Wo rfl (opv_move (v := v) rfl) ?_; refine Wo_call rfl (opc1 (a := v) Try.call59 rfl) (open_ok _ _ _ (h) (by assumption)) ?_; rintro _ w1 ⟨E1, y1, rfl, hy1⟩; have hs1 := E1.size
    refine Wo rfl (opv_assign (v := .pointer _) rfl) ?_; refine Wo_nil ?_; refine W_seq ?_; refine W_region rfl ?_; refine Wo rfl (opv_move (v := .pointer _) rfl) ?_
    refine Wo_call rfl (opc2 (a := .pointer _) (b := .int _ _) Try.call60 rfl rfl) (Picture_ok _ _ (by assumption) (by omega) (by omega)) ?_; rintro u1 w2 ⟨E2, hr1, x1, hO1, hy2⟩; (try dsimp only at hy2); have hlhr1 := hr1.lt
    have Ehr1 := hr1.old; have hs2 := E2.size; refine Wo rfl (opv_move (v := .pointer _) rfl) ?_; refine Wo_call rfl (opc2 (a := .pointer _) (b := .int _ _) Try.call61 rfl rfl) (pick_ok _ _ (by assumption) (by omega)) ?_
    rintro _ w3 ⟨y2, rfl, E3, hr2, hy3⟩; (try dsimp only at hy3); have hlhr2 := hr2.lt; have Ehr2 := hr2.old; have hs3 := E3.size; refine Wo rfl (opv_move (v := .pointer _) rfl) ?_
    refine Wo_call rfl (opc2 (a := .pointer _) (b := .int _ _) Try.call61 rfl rfl) (pick_ok _ _ (by assumption) (by omega)) ?_; rintro _ w4 ⟨y3, rfl, E4, hr3, hy4⟩; (try dsimp only at hy4); have hlhr3 := hr3.lt; have Ehr3 := hr3.old
    have hs4 := E4.size; refine Wo rfl (opv_quo rfl rfl (by omega)) ?_; refine Wo rfl (opv_sub rfl rfl (by omega)) ?_; refine Wo rfl (opv_assign (v := u1) rfl) ?_; refine Wo rfl (opv_assign (v := .int _ _) rfl) ?_; refine Wo_nil ?_
    refine W_ret ?_; refine at_ret (v := .tuple #[u1, .int _ _]) rfl ?_
  have hl := hy1.lt
  have hB := (hO1.toB.grown E3 (.inl hl)).grown E4 (.inl hl)
  refine ⟨_, _, _, rfl, Ehr3, hB.o.mono (by omega), hy2.1, hy2.2, by omega, by omega⟩

theorem DrawFoundedAll_ok (w : World) (v : Value) (xs : List UInt8) (h : Bytes w v xs) (hc : CapOk v) :
    Does Try.prog 31 [v] w (RetDX w XR (fun p => p.length ≤ 5 ∧ (∀ r ∈ p, r.length ≤ 6))) := by
  refine fn_of_W1 Try.func31 rfl Try.results31 Try.ntmps31 rfl ?_
  have hle := h.le
  focus
    refine W_seq ?_; refine W_region rfl ?_; refine Wo rfl (opv_assign (v := .slice _ _ _) rfl) ?_; refine Wo_nil ?_; refine W_seq ?_; refine W_region rfl ?_; refine Wo rfl (opv_move (v := v) rfl) ?_
    refine Wo_call rfl (opc1 (a := v) Try.call59 rfl) (open_ok _ _ _ (h) (by assumption)) ?_; rintro _ w1 ⟨E1, y1, rfl, hy1⟩; have hs1 := E1.size
    refine Wo_call rfl (opc2 (a := .pointer _) (b := .int _ _) Try.call60 rfl rfl) (Picture_ok _ _ (by assumption) (by omega) (by omega)) ?_; rintro u1 w2 ⟨E2, hr1, x1, hO1, hy2⟩; (try dsimp only at hy2); have hlhr1 := hr1.lt
    have Ehr1 := hr1.old; have hs2 := E2.size; refine Wo rfl (opv_assign (v := u1) rfl) ?_; refine Wo_nil ?_; refine W_ret ?_; refine at_ret (v := u1) rfl ?_
  exact ⟨_, Ehr1, hO1.mono (by omega), hy2⟩

theorem faV_eq {p : List (List Int)} (hp : Pic p) : foundedV p p.length = faV p := by
  have hp5 := hp.2.1
  unfold foundedV faV
  rw [if_pos ⟨hp, by omega, by omega⟩, if_pos hp]
  refine List.filter_congr fun k hk => ?_
  exact fnd_len hp (List.mem_range.1 hk)
theorem FnFoundedIn_walk (w : World) (v : Value) (xs : List UInt8) (h : Bytes w v xs) (hc : CapOk v) : Does Try.prog 6 [v] w (Ret w (.bool true)) := by
  have hle := h.le
  refine fn_of_W1 Try.func6 rfl Try.results6 Try.ntmps6 rfl ?_
  focus
    refine W_seq ?_; refine W_region rfl ?_; refine Wo rfl (opv_assign (v := .bool _) rfl) ?_; refine Wo_nil ?_; refine W_seq ?_; refine W_seq ?_; refine W_region rfl ?_; refine Wo rfl (opv_move (v := v) rfl) ?_
    refine Wo rfl (opv_len Try.underlying33 rfl h) ?_; refine Wo rfl (opv_gtr rfl rfl) ?_; refine Wo_nil ?_; refine W_cond_dec rfl (fun h1 => ?_) (fun h1 => ?_); refine W_seq ?_; refine W_region rfl ?_
    refine Wo rfl (opv_assign (v := .bool _) rfl) ?_; refine Wo_nil ?_; refine W_ret ?_; exact ⟨rfl, (Ext.refl _)⟩; refine W_skip ?_; refine W_seq ?_; refine W_region rfl ?_; refine Wo rfl (opv_move (v := v) rfl) ?_
    refine Wo_call rfl (opc1 (a := v) Try.call26 rfl) (DrawFoundedIn_ok _ _ _ (h) (by assumption)) ?_; rintro _ w1 ⟨u1, z1, x1, rfl, E1, hO1, hy1⟩; have hs1 := E1.size; refine Wo rfl (opv_move (v := .tuple _) rfl) ?_
    refine Wo rfl (opv_extract (v := u1) rfl rfl) ?_; refine Wo rfl (opv_extract (v := .int _ _) rfl rfl) ?_; refine Wo rfl (opv_assign (v := u1) rfl) ?_; refine Wo rfl (opv_assign (v := .int _ _) rfl) ?_; refine Wo_nil ?_
    refine W_seq ?_; refine W_region rfl ?_; refine Wo rfl (opv_move (v := u1) rfl) ?_; refine Wo rfl (opv_move (v := .int _ _) rfl) ?_
  have hI : ∀ z l, ints (foundedV x1 z) = l → (∀ (w : World) (pv : Value), ESl Ints w pv x1 → Does Try.prog 16 [pv, .int .i64 z] w (RetO w XI l)) ∧ (∀ (w : World) (pv : Value), ESl Ints w pv x1 → Does Try.prog 14 [pv, .int .i64 z] w (RetO w XI l)) := fun z l e => by
    subst e
    exact ⟨fun w pv h => impl_FoundedIn_ok w pv x1 z h, fun w pv h => spec_FoundedIn_ok w pv x1 z h⟩
  have hd : ∀ b, decide (Pic x1) = b → ∀ (w : World) (pv : Value), ESl Ints w pv x1 → Does Try.prog 28 [pv] w (Ret w (.bool b)) := fun b e w pv h => by
    subst e; exact PictureOk_ok w pv x1 h
  have h00 : ([] : List Int).length = 0 := rfl
  by_cases hp : Pic x1
  · have k3 := hd true (decide_eq_true hp)
    have hp5 := hp.2.1
    by_cases hz : 0 ≤ z1 ∧ z1 ≤ 5
    · obtain ⟨k1, k2⟩ := hI z1 _ rfl
      have k5 := same_true (ints (foundedV x1 z1))
      obtain ⟨M, hM⟩ : ∃ M, M = ints (foundedV x1 (min (z1 + 1) 5)) := ⟨_, rfl⟩
      have k6 := (hI (min (z1 + 1) 5) M hM.symm).1
      have k7 : ∀ (w : World) (u : Value) (k : Nat) (hk : k < (ints (foundedV x1 z1)).length), Ints w u M → Does Try.prog 30 [u, .int .i64 ((ints (foundedV x1 z1))[k])] w (Ret w (.bool true)) := fun w u k hk h => by
        have := hasInt_ok w u _ h ((ints (foundedV x1 z1))[k])
        have hm : (ints (foundedV x1 z1))[k] ∈ M := by
          rw [ints_len] at hk
          rw [hM, ints_get hk, mem_ints]
          have hin := List.getElem_mem hk
          generalize (foundedV x1 z1)[k] = j at hin
          unfold foundedV at hin ⊢
          rw [if_pos ⟨hp, hz⟩] at hin
          rw [if_pos ⟨hp, by omega, by omega⟩]
          obtain ⟨h1, h2⟩ := List.mem_filter.1 hin
          exact List.mem_filter.2 ⟨h1, fnd_mono (by omega) h2⟩
        rw [decide_eq_true hm] at this; exact this
      obtain ⟨F, hF⟩ : ∃ F, F = ints (faV x1) := ⟨_, rfl⟩
      have k8 := (hI x1.length F (by rw [hF, faV_eq hp])).1
      have k9 : ∀ (w : World) (pv : Value), ESl Ints w pv x1 → Does Try.prog 25 [pv] w (RetO w XI F) := fun w pv h => by
        rw [hF]; exact impl_FoundedAll_ok w pv x1 h
      have k10 := (hI 0 [] (by unfold foundedV; rw [if_pos ⟨hp, by omega, by omega⟩]; simp [fnd, ints])).1
      have k11 := same_true F
      have hLl := foundedV_len x1 z1
      clear hI hd hM hF
      generalize ints (foundedV x1 z1) = L at *
      focus
        have szE1 := E1.size; refine Wo_call rfl (opc2 (a := u1) (b := .int _ _) Try.call16 rfl rfl) (k1 _ _ ((Owned.read hO1))) ?_; rintro u2 w2 ⟨E2, hO2⟩; have hs2 := E2.size; refine Wo rfl (opv_assign (v := u2) rfl) ?_; refine Wo_nil ?_
        refine W_seq ?_; refine W_seq ?_; refine W_region rfl ?_; refine Wo rfl (opv_move (v := u2) rfl) ?_; refine Wo rfl (opv_move (v := u1) rfl) ?_; refine Wo rfl (opv_move (v := .int _ _) rfl) ?_
        refine Wo_call rfl (opc2 (a := u1) (b := .int _ _) Try.call14 rfl rfl) (k2 _ _ ((Mono.mono E2 (Owned.read hO1)))) ?_; rintro u3 w3 ⟨E3, hO3⟩; have hs3 := E3.size
        refine Wo_call rfl (opc2 (a := u2) (b := u3) Try.call27 rfl rfl) (k5 _ _ _ ((Mono.mono E3 (Owned.read hO2))) ((Owned.read hO3))) ?_; rintro _ w4 ⟨rfl, E4⟩; have hs4 := E4.size; refine Wo rfl (opv_not rfl) ?_; refine Wo_nil ?_
        refine W_cond rfl (fun h2 => ?_) (fun h2 => ?_); contradiction; refine W_skip ?_; refine W_seq ?_; refine W_seq ?_; refine W_region rfl ?_; refine Wo rfl (opv_move (v := u1) rfl) ?_
        refine Wo_call rfl (opc1 (a := u1) Try.call28 rfl) (k3 _ _ ((Mono.mono ((E2.trans E3).trans E4) (Owned.read hO1)))) ?_; rintro _ w5 ⟨rfl, E5⟩; have hs5 := E5.size; refine Wo rfl (opv_not rfl) ?_
        refine Wo_split rfl (opv_move (v := .bool _) rfl) (fun h3 => ?_) (fun h3 => ?_); contradiction; refine Wo rfl (opv_move (v := .int _ _) rfl) ?_; refine Wo rfl (opv_lss rfl rfl) ?_
        refine Wo rfl (opv_pick_f (v := .bool _) rfl rfl) ?_; refine Wo_split_dec rfl (opv_move (v := .bool _) rfl) (fun h4 => ?_) (fun h4 => ?_); (exfalso; omega); refine Wo rfl (opv_move (v := .int _ _) rfl) ?_
        refine Wo rfl (opv_gtr rfl rfl) ?_; refine Wo rfl (opv_pick_f (v := .bool _) rfl rfl) ?_; refine Wo_nil ?_; refine W_cond_dec rfl (fun h5 => ?_) (fun h5 => ?_); (exfalso; omega); refine W_skip ?_; refine W_seq ?_
        refine W_region rfl ?_; refine Wo rfl (opv_move (v := u1) rfl) ?_; refine Wo rfl (opv_move (v := .int _ _) rfl) ?_; refine Wo rfl (opv_add rfl rfl (by omega)) ?_; refine Wo rfl (opv_min rfl rfl) ?_
        refine Wo_call rfl (opc2 (a := u1) (b := .int _ _) Try.call16 rfl rfl) (k6 _ _ ((Mono.mono (((E2.trans E3).trans E4).trans E5) (Owned.read hO1)))) ?_; rintro u4 w6 ⟨E6, hO4⟩; have hs6 := E6.size
        refine Wo rfl (opv_assign (v := u4) rfl) ?_; refine Wo_nil ?_; refine W_seq ?_; refine W_seq ?_; refine W_region rfl ?_; refine Wo rfl (opv_assign (v := .int _ _) rfl) ?_; refine Wo_nil ?_; refine W_block ?_
      clear k1 k2 k3 k5 k6
      refine W_loop [2, 7, 47, 48, 49, 50, 51, 52, 53, 54, 55, 56, 57, 58, 59] (fun (k : Nat) => [(7, .int .i64 (k : Nat))]) (fun k w' => Ext w6 w' ∧ k ≤ L.length) (fun x => L.length - x) 0 (by repeat (first | exact trivial | refine And.intro rfl ?_)) ?_ ?_
      · exact ⟨Ext.refl _, Nat.zero_le _⟩
      rintro k ρj w7 ⟨E7, hk⟩
      by_cases hkl : k < L.length
      · focus
          have szE7 := E7.size; have szE6 := E6.size; have szE5 := E5.size; have szE4 := E4.size; have szE3 := E3.size; have szE2 := E2.size; have szE1 := E1.size; refine W_seq ?_; refine W_seq ?_; refine W_region rfl ?_
          refine Wo rfl (opv_move (v := .int _ _) rfl) ?_; refine Wo rfl (opv_move (v := u2) rfl) ?_; refine Wo rfl (opv_len Try.underlying24 rfl (Owned.read hO2)) ?_; refine Wo rfl (opv_lss rfl rfl) ?_; refine Wo_nil ?_
          refine W_cond_dec rfl (fun h6 => ?_) (fun h6 => ?_); refine W_skip ?_; refine W_seq ?_; refine W_block ?_; refine W_seq ?_; refine W_region rfl ?_; refine Wo rfl (opv_move (v := u4) rfl) ?_; refine Wo rfl (opv_move (v := u2) rfl) ?_
          refine Wo rfl (opv_move (v := .int _ _) rfl) ?_
          refine Wo_get Try.underlying24 Try.sizeOf3 Try.isAgg3 rfl (fun _ => rfl) rfl (Owned.read hO2) ((((E3.trans E4).trans E5).trans E6).trans E7) rfl (by first | omega | (simp <;> omega)) ?_; rintro _ _ rfl
          refine Wo_call rfl (opc2 (a := u4) (b := .int _ _) Try.call30 rfl rfl) (k7 _ _ _ _ ((Mono.mono E7 (Owned.read hO4)))) ?_; rintro _ w8 ⟨rfl, E8⟩; have hs7 := E8.size; refine Wo rfl (opv_not rfl) ?_; refine Wo_nil ?_
          refine W_cond rfl (fun h7 => ?_) (fun h7 => ?_); contradiction; refine W_skip ?_; refine W_region rfl ?_; refine Wo rfl (opv_move (v := .int _ _) rfl) ?_; refine Wo rfl (opv_add rfl rfl (by omega)) ?_
          refine Wo rfl (opv_assign (v := .int _ _) rfl) ?_; refine Wo_nil ?_; rotate_left; (exfalso; omega)
        refine ⟨(k + 1), by repeat (first | exact trivial | refine And.intro rfl ?_), by repeat (first | with_reducible exact Same.refl | refine Same.upd rfl ?_ | refine Same.upds rfl ?_ | refine Same.mix rfl ?_), ?_, ?_⟩
        · exact ⟨E7.trans E8, by omega⟩
        · omega
      · focus
          have szE7 := E7.size; have szE6 := E6.size; have szE5 := E5.size; have szE4 := E4.size; have szE3 := E3.size; have szE2 := E2.size; have szE1 := E1.size; refine W_seq ?_; refine W_seq ?_; refine W_region rfl ?_
          refine Wo rfl (opv_move (v := .int _ _) rfl) ?_; refine Wo rfl (opv_move (v := u2) rfl) ?_; refine Wo rfl (opv_len Try.underlying24 rfl (Owned.read hO2)) ?_; refine Wo rfl (opv_lss rfl rfl) ?_; refine Wo_nil ?_
          refine W_cond_dec rfl (fun h6 => ?_) (fun h6 => ?_); (exfalso; omega); refine W_exit ?_; refine exitX_same ?_; refine W_seq ?_; refine W_region rfl ?_; refine Wo rfl (opv_move (v := u1) rfl) ?_
          refine Wo rfl (opv_move (v := u1) rfl) ?_; refine Wo rfl (opv_len Try.underlying22 rfl (Owned.read hO1)) ?_
          refine Wo_call rfl (opc2 (a := u1) (b := .int _ _) Try.call16 rfl rfl) (k8 _ _ ((Mono.mono (((((E2.trans E3).trans E4).trans E5).trans E6).trans E7) (Owned.read hO1)))) ?_; rintro u5 w8 ⟨E8, hO5⟩; have hs7 := E8.size
          refine Wo rfl (opv_move (v := u1) rfl) ?_; refine Wo_call rfl (opc1 (a := u1) Try.call25 rfl) (k9 _ _ ((Mono.mono ((((((E2.trans E3).trans E4).trans E5).trans E6).trans E7).trans E8) (Owned.read hO1)))) ?_; rintro u6 w9 ⟨E9, hO6⟩
          have hs8 := E9.size; refine Wo_call rfl (opc2 (a := u5) (b := u6) Try.call27 rfl rfl) (k11 _ _ _ ((Mono.mono E9 (Owned.read hO5))) ((Owned.read hO6))) ?_; rintro _ w10 ⟨rfl, E10⟩; have hs9 := E10.size
          refine Wo rfl (opv_move (v := .bool _) rfl) ?_; refine Wo rfl (opv_move (v := u1) rfl) ?_
          refine Wo_call rfl (opc2 (a := u1) (b := .int _ _) Try.call16 rfl rfl) (k10 _ _ ((Mono.mono ((((((((E2.trans E3).trans E4).trans E5).trans E6).trans E7).trans E8).trans E9).trans E10) (Owned.read hO1)))) ?_; rintro u7 w11 ⟨E11, hO7⟩
          have hs10 := E11.size; refine Wo rfl (opv_len Try.underlying24 rfl (Owned.read hO7)) ?_; refine Wo rfl (opv_eql rfl rfl) ?_; refine Wo rfl (opv_pick_t (v := .bool _) rfl rfl) ?_
          refine Wo_split_dec rfl (opv_move (v := .bool _) rfl) (fun h7 => ?_) (fun h7 => ?_); refine Wo_call rfl (opc0 Try.call29) (alive_ok _) ?_; rintro _ w12 ⟨rfl, E12⟩; have hs11 := E12.size
          refine Wo rfl (opv_pick_t (v := .bool _) rfl rfl) ?_; refine Wo rfl (opv_assign (v := .bool _) rfl) ?_; refine Wo_nil ?_; refine W_ret ?_
          exact ⟨rfl, (((((((((((E1.trans E2).trans E3).trans E4).trans E5).trans E6).trans E7).trans E8).trans E9).trans E10).trans E11).trans E12)⟩; contradiction
    · obtain ⟨k1, k2⟩ := hI z1 [] (by rw [foundedV_no (fun h => hz h.2)]; rfl)
      have k5 := same_true []
      clear hI hd
      focus
        have szE1 := E1.size; refine Wo_call rfl (opc2 (a := u1) (b := .int _ _) Try.call16 rfl rfl) (k1 _ _ ((Owned.read hO1))) ?_; rintro u2 w2 ⟨E2, hO2⟩; have hs2 := E2.size; refine Wo rfl (opv_assign (v := u2) rfl) ?_; refine Wo_nil ?_
        refine W_seq ?_; refine W_seq ?_; refine W_region rfl ?_; refine Wo rfl (opv_move (v := u2) rfl) ?_; refine Wo rfl (opv_move (v := u1) rfl) ?_; refine Wo rfl (opv_move (v := .int _ _) rfl) ?_
        refine Wo_call rfl (opc2 (a := u1) (b := .int _ _) Try.call14 rfl rfl) (k2 _ _ ((Mono.mono E2 (Owned.read hO1)))) ?_; rintro u3 w3 ⟨E3, hO3⟩; have hs3 := E3.size
        refine Wo_call rfl (opc2 (a := u2) (b := u3) Try.call27 rfl rfl) (k5 _ _ _ ((Mono.mono E3 (Owned.read hO2))) ((Owned.read hO3))) ?_; rintro _ w4 ⟨rfl, E4⟩; have hs4 := E4.size; refine Wo rfl (opv_not rfl) ?_; refine Wo_nil ?_
        refine W_cond rfl (fun h2 => ?_) (fun h2 => ?_); contradiction; refine W_skip ?_; refine W_seq ?_; refine W_seq ?_; refine W_region rfl ?_; refine Wo rfl (opv_move (v := u1) rfl) ?_
        refine Wo_call rfl (opc1 (a := u1) Try.call28 rfl) (k3 _ _ ((Mono.mono ((E2.trans E3).trans E4) (Owned.read hO1)))) ?_; rintro _ w5 ⟨rfl, E5⟩; have hs5 := E5.size; refine Wo rfl (opv_not rfl) ?_
        refine Wo_split rfl (opv_move (v := .bool _) rfl) (fun h3 => ?_) (fun h3 => ?_); contradiction; refine Wo rfl (opv_move (v := .int _ _) rfl) ?_; refine Wo rfl (opv_lss rfl rfl) ?_
        refine Wo rfl (opv_pick_f (v := .bool _) rfl rfl) ?_; refine Wo_split_dec rfl (opv_move (v := .bool _) rfl) (fun h4 => ?_) (fun h4 => ?_); refine Wo_skip rfl ?_; refine Wo_skip rfl ?_
        refine Wo rfl (opv_pick_t (v := .bool _) rfl rfl) ?_; refine Wo_nil ?_; refine W_cond_true rfl ?_; refine W_seq ?_; refine W_region rfl ?_; refine Wo rfl (opv_move (v := u2) rfl) ?_
        refine Wo rfl (opv_len Try.underlying24 rfl (Owned.read hO2)) ?_; refine Wo rfl (opv_eql rfl rfl) ?_; refine Wo_split_dec rfl (opv_move (v := .bool _) rfl) (fun h5 => ?_) (fun h5 => ?_)
        refine Wo_call rfl (opc0 Try.call29) (alive_ok _) ?_; rintro _ w6 ⟨rfl, E6⟩; have hs6 := E6.size; refine Wo rfl (opv_pick_t (v := .bool _) rfl rfl) ?_; refine Wo rfl (opv_assign (v := .bool _) rfl) ?_; refine Wo_nil ?_
        refine W_ret ?_; exact ⟨rfl, (((((E1.trans E2).trans E3).trans E4).trans E5).trans E6)⟩; contradiction; refine Wo rfl (opv_move (v := .int _ _) rfl) ?_; refine Wo rfl (opv_gtr rfl rfl) ?_
        refine Wo rfl (opv_pick_f (v := .bool _) rfl rfl) ?_; refine Wo_nil ?_; refine W_cond_dec rfl (fun h5 => ?_) (fun h5 => ?_); refine W_seq ?_; refine W_region rfl ?_; refine Wo rfl (opv_move (v := u2) rfl) ?_
        refine Wo rfl (opv_len Try.underlying24 rfl (Owned.read hO2)) ?_; refine Wo rfl (opv_eql rfl rfl) ?_; refine Wo_split_dec rfl (opv_move (v := .bool _) rfl) (fun h6 => ?_) (fun h6 => ?_)
        refine Wo_call rfl (opc0 Try.call29) (alive_ok _) ?_; rintro _ w6 ⟨rfl, E6⟩; have hs6 := E6.size; refine Wo rfl (opv_pick_t (v := .bool _) rfl rfl) ?_; refine Wo rfl (opv_assign (v := .bool _) rfl) ?_; refine Wo_nil ?_
        refine W_ret ?_; exact ⟨rfl, (((((E1.trans E2).trans E3).trans E4).trans E5).trans E6)⟩; contradiction; (exfalso; omega)
  · have k3 := hd false (decide_eq_false hp)
    obtain ⟨k1, k2⟩ := hI z1 [] (by rw [foundedV_no (fun h => hp h.1)]; rfl)
    have k5 := same_true []
    clear hI hd
    focus
      have szE1 := E1.size; refine Wo_call rfl (opc2 (a := u1) (b := .int _ _) Try.call16 rfl rfl) (k1 _ _ ((Owned.read hO1))) ?_; rintro u2 w2 ⟨E2, hO2⟩; have hs2 := E2.size; refine Wo rfl (opv_assign (v := u2) rfl) ?_; refine Wo_nil ?_
      refine W_seq ?_; refine W_seq ?_; refine W_region rfl ?_; refine Wo rfl (opv_move (v := u2) rfl) ?_; refine Wo rfl (opv_move (v := u1) rfl) ?_; refine Wo rfl (opv_move (v := .int _ _) rfl) ?_
      refine Wo_call rfl (opc2 (a := u1) (b := .int _ _) Try.call14 rfl rfl) (k2 _ _ ((Mono.mono E2 (Owned.read hO1)))) ?_; rintro u3 w3 ⟨E3, hO3⟩; have hs3 := E3.size
      refine Wo_call rfl (opc2 (a := u2) (b := u3) Try.call27 rfl rfl) (k5 _ _ _ ((Mono.mono E3 (Owned.read hO2))) ((Owned.read hO3))) ?_; rintro _ w4 ⟨rfl, E4⟩; have hs4 := E4.size; refine Wo rfl (opv_not rfl) ?_; refine Wo_nil ?_
      refine W_cond rfl (fun h2 => ?_) (fun h2 => ?_); contradiction; refine W_skip ?_; refine W_seq ?_; refine W_seq ?_; refine W_region rfl ?_; refine Wo rfl (opv_move (v := u1) rfl) ?_
      refine Wo_call rfl (opc1 (a := u1) Try.call28 rfl) (k3 _ _ ((Mono.mono ((E2.trans E3).trans E4) (Owned.read hO1)))) ?_; rintro _ w5 ⟨rfl, E5⟩; have hs5 := E5.size; refine Wo rfl (opv_not rfl) ?_
      refine Wo_split rfl (opv_move (v := .bool _) rfl) (fun h3 => ?_) (fun h3 => ?_); refine Wo_skip rfl ?_; refine Wo_skip rfl ?_; refine Wo rfl (opv_pick_t (v := .bool _) rfl rfl) ?_; refine Wo rfl (opv_move (v := .bool _) rfl) ?_
      refine Wo_skip rfl ?_; refine Wo_skip rfl ?_; refine Wo rfl (opv_pick_t (v := .bool _) rfl rfl) ?_; refine Wo_nil ?_; refine W_cond_true rfl ?_; refine W_seq ?_; refine W_region rfl ?_; refine Wo rfl (opv_move (v := u2) rfl) ?_
      refine Wo rfl (opv_len Try.underlying24 rfl (Owned.read hO2)) ?_; refine Wo rfl (opv_eql rfl rfl) ?_; refine Wo_split_dec rfl (opv_move (v := .bool _) rfl) (fun h4 => ?_) (fun h4 => ?_)
      refine Wo_call rfl (opc0 Try.call29) (alive_ok _) ?_; rintro _ w6 ⟨rfl, E6⟩; have hs6 := E6.size; refine Wo rfl (opv_pick_t (v := .bool _) rfl rfl) ?_; refine Wo rfl (opv_assign (v := .bool _) rfl) ?_; refine Wo_nil ?_
      refine W_ret ?_; exact ⟨rfl, (((((E1.trans E2).trans E3).trans E4).trans E5).trans E6)⟩; contradiction; contradiction

theorem FnFoundedAll_walk (w : World) (v : Value) (xs : List UInt8) (h : Bytes w v xs) (hc : CapOk v) : Does Try.prog 7 [v] w (Ret w (.bool true)) := by
  have hle := h.le
  refine fn_of_W1 Try.func7 rfl Try.results7 Try.ntmps7 rfl ?_
  focus
    refine W_seq ?_; refine W_region rfl ?_; refine Wo rfl (opv_assign (v := .bool _) rfl) ?_; refine Wo_nil ?_; refine W_seq ?_; refine W_seq ?_; refine W_region rfl ?_; refine Wo rfl (opv_move (v := v) rfl) ?_
    refine Wo rfl (opv_len Try.underlying33 rfl h) ?_; refine Wo rfl (opv_gtr rfl rfl) ?_; refine Wo_nil ?_; refine W_cond_dec rfl (fun h1 => ?_) (fun h1 => ?_); refine W_seq ?_; refine W_region rfl ?_
    refine Wo rfl (opv_assign (v := .bool _) rfl) ?_; refine Wo_nil ?_; refine W_ret ?_; exact ⟨rfl, (Ext.refl _)⟩; refine W_skip ?_; refine W_seq ?_; refine W_region rfl ?_; refine Wo rfl (opv_move (v := v) rfl) ?_
    refine Wo_call rfl (opc1 (a := v) Try.call31 rfl) (DrawFoundedAll_ok _ _ _ (h) (by assumption)) ?_; rintro u1 w1 ⟨x1, E1, hO1, hy1⟩; have hs1 := E1.size; refine Wo rfl (opv_assign (v := u1) rfl) ?_; refine Wo_nil ?_; refine W_seq ?_
    refine W_region rfl ?_; refine Wo rfl (opv_move (v := u1) rfl) ?_
  have hI : ∀ l, ints (faV x1) = l → (∀ (w : World) (pv : Value), ESl Ints w pv x1 → Does Try.prog 25 [pv] w (RetO w XI l)) ∧ (∀ (w : World) (pv : Value), ESl Ints w pv x1 → Does Try.prog 24 [pv] w (RetO w XI l)) := fun l e => by
    subst e
    exact ⟨fun w pv h => impl_FoundedAll_ok w pv x1 h, fun w pv h => spec_FoundedAll_ok w pv x1 h⟩
  have hd : ∀ b, decide (Pic x1) = b → ∀ (w : World) (pv : Value), ESl Ints w pv x1 → Does Try.prog 28 [pv] w (Ret w (.bool b)) := fun b e w pv h => by
    subst e; exact PictureOk_ok w pv x1 h
  have h00 : ([] : List Int).length = 0 := rfl
  by_cases hp : Pic x1
  · have k3 := hd true (decide_eq_true hp)
    have hp5 := hp.2.1
    obtain ⟨k1, k2⟩ := hI _ rfl
    have k5 := same_true (ints (faV x1))
    have k6 : ∀ (w : World) (u : Value) (k : Nat) (x : Bool), k < x1.length → cback x1 k = x → Ints w u (ints (faV x1)) → Does Try.prog 30 [u, .int .i64 (k : Int)] w (Ret w (.bool (!x))) := fun w u k x hk e h => by
      subst e
      have := hasInt_ok w u _ h (k : Int)
      have hm : decide ((k : Int) ∈ ints (faV x1)) = !cback x1 k := by
        rw [Bool.eq_iff_iff, decide_eq_true_iff, mem_ints]
        unfold faV
        rw [if_pos hp, List.mem_filter, List.mem_range]
        exact ⟨fun h => h.2, fun h => ⟨hk, h⟩⟩
      rw [hm] at this; exact this
    have hasc := fi_asc (l := faV x1) (by unfold faV; rw [if_pos hp]; exact range_filter_pw _ _)
    have hLl := faV_len x1
    clear hI hd
    obtain ⟨L, hL⟩ : ∃ L, L = ints (faV x1) := ⟨_, rfl⟩
    rw [← hL] at k1 k2 k5 k6 hLl
    have hasc' : ∀ i (h : i + 1 < L.length), L[i] < L[i + 1] := by subst hL; exact hasc
    clear hL hasc
    focus
      have szE1 := E1.size; refine Wo_call rfl (opc1 (a := u1) Try.call25 rfl) (k1 _ _ ((Owned.read hO1))) ?_; rintro u2 w2 ⟨E2, hO2⟩; have hs2 := E2.size; refine Wo rfl (opv_assign (v := u2) rfl) ?_; refine Wo_nil ?_; refine W_seq ?_
      refine W_seq ?_; refine W_region rfl ?_; refine Wo rfl (opv_move (v := u2) rfl) ?_; refine Wo rfl (opv_move (v := u1) rfl) ?_; refine Wo_call rfl (opc1 (a := u1) Try.call24 rfl) (k2 _ _ ((Mono.mono E2 (Owned.read hO1)))) ?_
      rintro u3 w3 ⟨E3, hO3⟩; have hs3 := E3.size; refine Wo_call rfl (opc2 (a := u2) (b := u3) Try.call27 rfl rfl) (k5 _ _ _ ((Mono.mono E3 (Owned.read hO2))) ((Owned.read hO3))) ?_; rintro _ w4 ⟨rfl, E4⟩; have hs4 := E4.size
      refine Wo rfl (opv_not rfl) ?_; refine Wo_nil ?_; refine W_cond rfl (fun h2 => ?_) (fun h2 => ?_); contradiction; refine W_skip ?_; refine W_seq ?_; refine W_seq ?_; refine W_region rfl ?_; refine Wo rfl (opv_move (v := u1) rfl) ?_
      refine Wo_call rfl (opc1 (a := u1) Try.call28 rfl) (k3 _ _ ((Mono.mono ((E2.trans E3).trans E4) (Owned.read hO1)))) ?_; rintro _ w5 ⟨rfl, E5⟩; have hs5 := E5.size; refine Wo rfl (opv_not rfl) ?_; refine Wo_nil ?_
      refine W_cond rfl (fun h3 => ?_) (fun h3 => ?_); contradiction; refine W_skip ?_; refine W_seq ?_; refine W_seq ?_; refine W_region rfl ?_; refine Wo rfl (opv_assign (v := .int _ _) rfl) ?_; refine Wo_nil ?_; refine W_block ?_
    clear k1 k2 k3 k5
    refine W_loop [2, 5, 6, 7, 29, 30, 31, 32, 33, 34, 35, 36, 37, 38, 39, 40, 41, 42, 43, 44, 45, 46, 47, 48, 49, 50, 51, 52, 53, 54, 55, 56, 57, 58, 59, 60, 61, 62] (fun (k : Nat) => [(5, .int .i64 (k : Nat))]) (fun k w' => Ext w5 w' ∧ k ≤ x1.length) (fun x => x1.length - x) 0 (by repeat (first | exact trivial | refine And.intro rfl ?_)) ?_ ?_
    · exact ⟨Ext.refl _, Nat.zero_le _⟩
    rintro k ρj w6 ⟨E6, hk⟩
    by_cases hkl : k < x1.length
    · have hrow := hp.row hkl
      focus
        have szE6 := E6.size; have szE5 := E5.size; have szE4 := E4.size; have szE3 := E3.size; have szE2 := E2.size; have szE1 := E1.size; refine W_seq ?_; refine W_seq ?_; refine W_region rfl ?_
        refine Wo rfl (opv_move (v := .int _ _) rfl) ?_; refine Wo rfl (opv_move (v := u1) rfl) ?_; refine Wo rfl (opv_len Try.underlying22 rfl (Owned.read hO1)) ?_; refine Wo rfl (opv_lss rfl rfl) ?_; refine Wo_nil ?_
        refine W_cond_dec rfl (fun h4 => ?_) (fun h4 => ?_); refine W_skip ?_; refine W_seq ?_; refine W_block ?_; refine W_seq ?_; refine W_region rfl ?_; refine Wo rfl (opv_assign (v := .int _ _) rfl) ?_; refine Wo_nil ?_; refine W_seq ?_
        refine W_seq ?_; refine W_region rfl ?_; refine Wo rfl (opv_assign (v := .int _ _) rfl) ?_; refine Wo_nil ?_; refine W_block ?_; rotate_left; (exfalso; omega)
      refine W_loop [6, 7, 35, 36, 37, 38, 39, 40, 41, 42, 43, 44, 45, 46, 47, 48, 49, 50, 51, 52, 53, 54, 55, 56] (fun (j, b) => [(7, .int .i64 (j : Nat)), (6, .int .i64 (b : Nat))]) (fun (j, b) w' => Ext w5 w' ∧ j ≤ x1.length ∧ b ≤ j ∧ (b = 0 ↔ ∀ i ∈ arr x1 k, i < j → cback x1 i = false)) (fun x => x1.length - x.1) (0, 0) (by repeat (first | exact trivial | refine And.intro rfl ?_)) ?_ ?_
      · exact ⟨E6, Nat.zero_le _, Nat.le_refl _, ⟨fun _ i _ h => by omega, fun _ => rfl⟩⟩
      rintro ⟨j, b⟩ ρk w7 ⟨E7, hj, hbj, hb⟩
      by_cases hjl : j < x1.length
      · by_cases hjk : x1[k][j] = 1
        · have hjm : j ∈ arr x1 k := by
            rw [mem_arr hp hkl]; unfold bit
            rw [getD_lt hkl, getD_lt (by omega)]; exact ⟨hjl, hjk⟩
          cases hcj : cback x1 j with
          | true =>
            have k7 : ∀ (w : World) (u : Value), Ints w u L → Does Try.prog 30 [u, .int .i64 (j : Int)] w (Ret w (.bool false)) := fun w u h => k6 w u j true hjl hcj h
            focus
              have szE7 := E7.size; have szE6 := E6.size; have szE5 := E5.size; have szE4 := E4.size; have szE3 := E3.size; have szE2 := E2.size; have szE1 := E1.size; refine W_seq ?_; refine W_seq ?_; refine W_region rfl ?_
              refine Wo rfl (opv_move (v := .int _ _) rfl) ?_; refine Wo rfl (opv_move (v := u1) rfl) ?_; refine Wo rfl (opv_len Try.underlying22 rfl (Owned.read hO1)) ?_; refine Wo rfl (opv_lss rfl rfl) ?_; refine Wo_nil ?_
              refine W_cond_dec rfl (fun h5 => ?_) (fun h5 => ?_); refine W_skip ?_; refine W_seq ?_; refine W_block ?_; refine W_seq ?_; refine W_region rfl ?_; refine Wo rfl (opv_move (v := u1) rfl) ?_
              refine Wo rfl (opv_move (v := .int _ _) rfl) ?_
              refine Wo_get Try.underlying22 Try.sizeOf24 Try.isAgg24 rfl (fun _ => rfl) rfl (Owned.read hO1) ((((E2.trans E3).trans E4).trans E5).trans E7) rfl (by first | omega | (simp <;> omega)) ?_; rintro _ u4 hu1
              refine Wo rfl (opv_move (v := .int _ _) rfl) ?_; refine Wo_get Try.underlying24 Try.sizeOf3 Try.isAgg3 rfl (fun _ => rfl) rfl hu1 ((((E2.trans E3).trans E4).trans E5).trans E7) rfl (by first | omega | (simp <;> omega)) ?_
              rintro _ _ rfl; refine Wo rfl (opv_eql rfl rfl) ?_; refine Wo_split_dec rfl (opv_move (v := .bool _) rfl) (fun h6 => ?_) (fun h6 => ?_); refine Wo rfl (opv_move (v := u2) rfl) ?_; refine Wo rfl (opv_move (v := .int _ _) rfl) ?_
              refine Wo_call rfl (opc2 (a := u2) (b := .int _ _) Try.call30 rfl rfl) (k7 _ _ ((Mono.mono (((E3.trans E4).trans E5).trans E7) (Owned.read hO2)))) ?_; rintro _ w8 ⟨rfl, E8⟩; have hs6 := E8.size; refine Wo rfl (opv_not rfl) ?_
              refine Wo rfl (opv_pick_t (v := .bool _) rfl rfl) ?_; refine Wo_nil ?_; refine W_cond rfl (fun h7 => ?_) (fun h7 => ?_); refine W_region rfl ?_; refine Wo rfl (opv_move (v := .int _ _) rfl) ?_
              refine Wo rfl (opv_add rfl rfl (by omega)) ?_; refine Wo rfl (opv_assign (v := .int _ _) rfl) ?_; refine Wo_nil ?_; refine W_region rfl ?_; refine Wo rfl (opv_move (v := .int _ _) rfl) ?_
              refine Wo rfl (opv_add rfl rfl (by omega)) ?_; refine Wo rfl (opv_assign (v := .int _ _) rfl) ?_; refine Wo_nil ?_; rotate_left; contradiction; contradiction; (exfalso; omega)
            refine ⟨((j + 1, b + 1)), by repeat (first | exact trivial | refine And.intro rfl ?_), by repeat (first | with_reducible exact Same.refl | refine Same.upd rfl ?_ | refine Same.upds rfl ?_ | refine Same.mix rfl ?_), ?_, ?_⟩
            · refine ⟨E7.trans E8, by omega, by omega, fun h => by omega, fun h => ?_⟩
              have := h j hjm (by omega); rw [hcj] at this; cases this
            · simp only; omega
          | false =>
            have k7 : ∀ (w : World) (u : Value), Ints w u L → Does Try.prog 30 [u, .int .i64 (j : Int)] w (Ret w (.bool true)) := fun w u h => k6 w u j false hjl hcj h
            focus
              have szE7 := E7.size; have szE6 := E6.size; have szE5 := E5.size; have szE4 := E4.size; have szE3 := E3.size; have szE2 := E2.size; have szE1 := E1.size; refine W_seq ?_; refine W_seq ?_; refine W_region rfl ?_
              refine Wo rfl (opv_move (v := .int _ _) rfl) ?_; refine Wo rfl (opv_move (v := u1) rfl) ?_; refine Wo rfl (opv_len Try.underlying22 rfl (Owned.read hO1)) ?_; refine Wo rfl (opv_lss rfl rfl) ?_; refine Wo_nil ?_
              refine W_cond_dec rfl (fun h5 => ?_) (fun h5 => ?_); refine W_skip ?_; refine W_seq ?_; refine W_block ?_; refine W_seq ?_; refine W_region rfl ?_; refine Wo rfl (opv_move (v := u1) rfl) ?_
              refine Wo rfl (opv_move (v := .int _ _) rfl) ?_
              refine Wo_get Try.underlying22 Try.sizeOf24 Try.isAgg24 rfl (fun _ => rfl) rfl (Owned.read hO1) ((((E2.trans E3).trans E4).trans E5).trans E7) rfl (by first | omega | (simp <;> omega)) ?_; rintro _ u4 hu1
              refine Wo rfl (opv_move (v := .int _ _) rfl) ?_; refine Wo_get Try.underlying24 Try.sizeOf3 Try.isAgg3 rfl (fun _ => rfl) rfl hu1 ((((E2.trans E3).trans E4).trans E5).trans E7) rfl (by first | omega | (simp <;> omega)) ?_
              rintro _ _ rfl; refine Wo rfl (opv_eql rfl rfl) ?_; refine Wo_split_dec rfl (opv_move (v := .bool _) rfl) (fun h6 => ?_) (fun h6 => ?_); refine Wo rfl (opv_move (v := u2) rfl) ?_; refine Wo rfl (opv_move (v := .int _ _) rfl) ?_
              refine Wo_call rfl (opc2 (a := u2) (b := .int _ _) Try.call30 rfl rfl) (k7 _ _ ((Mono.mono (((E3.trans E4).trans E5).trans E7) (Owned.read hO2)))) ?_; rintro _ w8 ⟨rfl, E8⟩; have hs6 := E8.size; refine Wo rfl (opv_not rfl) ?_
              refine Wo rfl (opv_pick_t (v := .bool _) rfl rfl) ?_; refine Wo_nil ?_; refine W_cond rfl (fun h7 => ?_) (fun h7 => ?_); contradiction; refine W_skip ?_; refine W_region rfl ?_; refine Wo rfl (opv_move (v := .int _ _) rfl) ?_
              refine Wo rfl (opv_add rfl rfl (by omega)) ?_; refine Wo rfl (opv_assign (v := .int _ _) rfl) ?_; refine Wo_nil ?_; rotate_left; contradiction; (exfalso; omega)
            refine ⟨((j + 1, b)), by repeat (first | exact trivial | refine And.intro rfl ?_), by repeat (first | with_reducible exact Same.refl | refine Same.upd rfl ?_ | refine Same.upds rfl ?_ | refine Same.mix rfl ?_), ?_, ?_⟩
            · refine ⟨E7.trans E8, by omega, by omega, hb.trans ⟨fun h i hi hl => ?_, fun h i hi hl => h i hi (by omega)⟩⟩
              by_cases e : i = j
              · subst e; exact hcj
              · exact h i hi (by omega)
            · simp only; omega
        · have hjn : j ∉ arr x1 k := fun hm => by
            have := ((mem_arr hp hkl).1 hm).2
            unfold bit at this
            rw [getD_lt hkl, getD_lt (by omega)] at this; exact hjk this
          focus
            have szE7 := E7.size; have szE6 := E6.size; have szE5 := E5.size; have szE4 := E4.size; have szE3 := E3.size; have szE2 := E2.size; have szE1 := E1.size; refine W_seq ?_; refine W_seq ?_; refine W_region rfl ?_
            refine Wo rfl (opv_move (v := .int _ _) rfl) ?_; refine Wo rfl (opv_move (v := u1) rfl) ?_; refine Wo rfl (opv_len Try.underlying22 rfl (Owned.read hO1)) ?_; refine Wo rfl (opv_lss rfl rfl) ?_; refine Wo_nil ?_
            refine W_cond_dec rfl (fun h5 => ?_) (fun h5 => ?_); refine W_skip ?_; refine W_seq ?_; refine W_block ?_; refine W_seq ?_; refine W_region rfl ?_; refine Wo rfl (opv_move (v := u1) rfl) ?_
            refine Wo rfl (opv_move (v := .int _ _) rfl) ?_
            refine Wo_get Try.underlying22 Try.sizeOf24 Try.isAgg24 rfl (fun _ => rfl) rfl (Owned.read hO1) ((((E2.trans E3).trans E4).trans E5).trans E7) rfl (by first | omega | (simp <;> omega)) ?_; rintro _ u4 hu1
            refine Wo rfl (opv_move (v := .int _ _) rfl) ?_; refine Wo_get Try.underlying24 Try.sizeOf3 Try.isAgg3 rfl (fun _ => rfl) rfl hu1 ((((E2.trans E3).trans E4).trans E5).trans E7) rfl (by first | omega | (simp <;> omega)) ?_
            rintro _ _ rfl; refine Wo rfl (opv_eql rfl rfl) ?_; refine Wo_split_dec rfl (opv_move (v := .bool _) rfl) (fun h6 => ?_) (fun h6 => ?_); contradiction; refine Wo_skip rfl ?_; refine Wo_skip rfl ?_; refine Wo_skip rfl ?_
            refine Wo_skip rfl ?_; refine Wo rfl (opv_pick_f (v := .bool _) rfl rfl) ?_; refine Wo_nil ?_; refine W_cond_false rfl ?_; refine W_skip ?_; refine W_region rfl ?_; refine Wo rfl (opv_move (v := .int _ _) rfl) ?_
            refine Wo rfl (opv_add rfl rfl (by omega)) ?_; refine Wo rfl (opv_assign (v := .int _ _) rfl) ?_; refine Wo_nil ?_; rotate_left; (exfalso; omega)
          refine ⟨((j + 1, b)), by repeat (first | exact trivial | refine And.intro rfl ?_), by repeat (first | with_reducible exact Same.refl | refine Same.upd rfl ?_ | refine Same.upds rfl ?_ | refine Same.mix rfl ?_), ?_, ?_⟩
          · refine ⟨E7, by omega, by omega, hb.trans ⟨fun h i hi hl => ?_, fun h i hi hl => h i hi (by omega)⟩⟩
            by_cases e : i = j
            · subst e; exact absurd hi hjn
            · exact h i hi (by omega)
          · simp only; omega
      · obtain rfl : j = x1.length := by omega
        cases hck : cback x1 k with
        | true =>
          have k7 : ∀ (w : World) (u : Value), Ints w u L → Does Try.prog 30 [u, .int .i64 (k : Int)] w (Ret w (.bool false)) := fun w u h => k6 w u k true hkl hck h
          have hb0 : ¬ b = 0 := fun h => by
            obtain ⟨i, hi, hci⟩ := (cback_step hp hkl).1 hck
            rw [hb.1 h i hi ((mem_arr hp hkl).1 hi).1] at hci; cases hci
          focus
            have szE7 := E7.size; have szE6 := E6.size; have szE5 := E5.size; have szE4 := E4.size; have szE3 := E3.size; have szE2 := E2.size; have szE1 := E1.size; refine W_seq ?_; refine W_seq ?_; refine W_region rfl ?_
            refine Wo rfl (opv_move (v := .int _ _) rfl) ?_; refine Wo rfl (opv_move (v := u1) rfl) ?_; refine Wo rfl (opv_len Try.underlying22 rfl (Owned.read hO1)) ?_; refine Wo rfl (opv_lss rfl rfl) ?_; refine Wo_nil ?_
            refine W_cond_dec rfl (fun h5 => ?_) (fun h5 => ?_); (exfalso; omega); refine W_exit ?_; refine exitX_same ?_; refine W_seq ?_; refine W_region rfl ?_; refine Wo rfl (opv_move (v := u2) rfl) ?_
            refine Wo rfl (opv_move (v := .int _ _) rfl) ?_; refine Wo_call rfl (opc2 (a := u2) (b := .int _ _) Try.call30 rfl rfl) (k7 _ _ ((Mono.mono (((E3.trans E4).trans E5).trans E7) (Owned.read hO2)))) ?_; rintro _ w8 ⟨rfl, E8⟩
            have hs6 := E8.size; refine Wo rfl (opv_move (v := .int _ _) rfl) ?_; refine Wo rfl (opv_eql rfl rfl) ?_; refine Wo rfl (opv_neq_bool Try.underlying4 rfl rfl) ?_; refine Wo_nil ?_
            refine W_cond_ndec rfl (fun h6 => ?_) (fun h6 => ?_); refine W_seq ?_; refine W_region rfl ?_; refine Wo rfl (opv_assign (v := .bool _) rfl) ?_; refine Wo_nil ?_; refine W_ret ?_; refine at_ret (v := .bool _) rfl ?_
            refine ⟨congrArg Value.bool ?_, ((((((E1.trans E2).trans E3).trans E4).trans E5).trans E7).trans E8)⟩; rotate_left; refine W_skip ?_; refine W_region rfl ?_; refine Wo rfl (opv_move (v := .int _ _) rfl) ?_
            refine Wo rfl (opv_add rfl rfl (by omega)) ?_; refine Wo rfl (opv_assign (v := .int _ _) rfl) ?_; refine Wo_nil ?_; rotate_left
          · exact absurd (decide_eq_false (show ¬(b : Int) = 0 by omega)).symm (by assumption)
          refine ⟨(k + 1), by repeat (first | exact trivial | refine And.intro rfl ?_), by repeat (first | with_reducible exact Same.refl | refine Same.upd rfl ?_ | refine Same.upds rfl ?_ | refine Same.mix rfl ?_), ?_, ?_⟩
          · exact ⟨E7.trans E8, by omega⟩
          · omega
        | false =>
          have k7 : ∀ (w : World) (u : Value), Ints w u L → Does Try.prog 30 [u, .int .i64 (k : Int)] w (Ret w (.bool true)) := fun w u h => k6 w u k false hkl hck h
          have hb0 : b = 0 := hb.2 fun i hi _ => cback_arr hp hkl hck hi
          subst hb0
          focus
            have szE7 := E7.size; have szE6 := E6.size; have szE5 := E5.size; have szE4 := E4.size; have szE3 := E3.size; have szE2 := E2.size; have szE1 := E1.size; refine W_seq ?_; refine W_seq ?_; refine W_region rfl ?_
            refine Wo rfl (opv_move (v := .int _ _) rfl) ?_; refine Wo rfl (opv_move (v := u1) rfl) ?_; refine Wo rfl (opv_len Try.underlying22 rfl (Owned.read hO1)) ?_; refine Wo rfl (opv_lss rfl rfl) ?_; refine Wo_nil ?_
            refine W_cond_dec rfl (fun h5 => ?_) (fun h5 => ?_); (exfalso; omega); refine W_exit ?_; refine exitX_same ?_; refine W_seq ?_; refine W_region rfl ?_; refine Wo rfl (opv_move (v := u2) rfl) ?_
            refine Wo rfl (opv_move (v := .int _ _) rfl) ?_; refine Wo_call rfl (opc2 (a := u2) (b := .int _ _) Try.call30 rfl rfl) (k7 _ _ ((Mono.mono (((E3.trans E4).trans E5).trans E7) (Owned.read hO2)))) ?_; rintro _ w8 ⟨rfl, E8⟩
            have hs6 := E8.size; refine Wo rfl (opv_move (v := .int _ _) rfl) ?_; refine Wo rfl (opv_eql rfl rfl) ?_; refine Wo rfl (opv_neq_bool Try.underlying4 rfl rfl) ?_; refine Wo_nil ?_
            refine W_cond_ndec rfl (fun h6 => ?_) (fun h6 => ?_); contradiction; refine W_skip ?_; refine W_region rfl ?_; refine Wo rfl (opv_move (v := .int _ _) rfl) ?_; refine Wo rfl (opv_add rfl rfl (by omega)) ?_
            refine Wo rfl (opv_assign (v := .int _ _) rfl) ?_; refine Wo_nil ?_
          refine ⟨(k + 1), by repeat (first | exact trivial | refine And.intro rfl ?_), by repeat (first | with_reducible exact Same.refl | refine Same.upd rfl ?_ | refine Same.upds rfl ?_ | refine Same.mix rfl ?_), ?_, ?_⟩
          · exact ⟨E7.trans E8, by omega⟩
          · omega
    · focus
        have szE6 := E6.size; have szE5 := E5.size; have szE4 := E4.size; have szE3 := E3.size; have szE2 := E2.size; have szE1 := E1.size; refine W_seq ?_; refine W_seq ?_; refine W_region rfl ?_
        refine Wo rfl (opv_move (v := .int _ _) rfl) ?_; refine Wo rfl (opv_move (v := u1) rfl) ?_; refine Wo rfl (opv_len Try.underlying22 rfl (Owned.read hO1)) ?_; refine Wo rfl (opv_lss rfl rfl) ?_; refine Wo_nil ?_
        refine W_cond_dec rfl (fun h4 => ?_) (fun h4 => ?_); (exfalso; omega); refine W_exit ?_; refine exitX_same ?_; refine W_seq ?_; refine W_region rfl ?_; refine Wo rfl (opv_move (v := u2) rfl) ?_
        refine Wo_call rfl (opc1 (a := u2) Try.call32 rfl) (ascend_ok _ _ _ ((Mono.mono (((E3.trans E4).trans E5).trans E6) (Owned.read hO2)))) ?_; rintro _ w7 ⟨E7, y1, rfl, hy2⟩; have hs6 := E7.size
        refine Wo_split rfl (opv_move (v := .bool _) rfl) (fun h5 => ?_) (fun h5 => ?_); refine Wo_call rfl (opc0 Try.call29) (alive_ok _) ?_; rintro _ w8 ⟨rfl, E8⟩; have hs7 := E8.size; refine Wo rfl (opv_pick_t (v := .bool _) rfl rfl) ?_
        refine Wo rfl (opv_assign (v := .bool _) rfl) ?_; refine Wo_nil ?_; refine W_ret ?_; exact ⟨rfl, (((((((E1.trans E2).trans E3).trans E4).trans E5).trans E6).trans E7).trans E8)⟩; refine Wo_skip rfl ?_
        refine Wo rfl (opv_pick_f (v := .bool _) rfl rfl) ?_; refine Wo rfl (opv_assign (v := .bool _) rfl) ?_; refine Wo_nil ?_; refine W_ret ?_; refine at_ret (v := .bool _) rfl ?_
        refine ⟨congrArg Value.bool ?_, ((((((E1.trans E2).trans E3).trans E4).trans E5).trans E6).trans E7)⟩
      have := hy2 hasc'
      simp_all
  · have k3 := hd false (decide_eq_false hp)
    obtain ⟨k1, k2⟩ := hI [] (by unfold faV; rw [if_neg hp]; rfl)
    have k5 := same_true []
    clear hI hd
    focus
      have szE1 := E1.size; refine Wo_call rfl (opc1 (a := u1) Try.call25 rfl) (k1 _ _ ((Owned.read hO1))) ?_; rintro u2 w2 ⟨E2, hO2⟩; have hs2 := E2.size; refine Wo rfl (opv_assign (v := u2) rfl) ?_; refine Wo_nil ?_; refine W_seq ?_
      refine W_seq ?_; refine W_region rfl ?_; refine Wo rfl (opv_move (v := u2) rfl) ?_; refine Wo rfl (opv_move (v := u1) rfl) ?_; refine Wo_call rfl (opc1 (a := u1) Try.call24 rfl) (k2 _ _ ((Mono.mono E2 (Owned.read hO1)))) ?_
      rintro u3 w3 ⟨E3, hO3⟩; have hs3 := E3.size; refine Wo_call rfl (opc2 (a := u2) (b := u3) Try.call27 rfl rfl) (k5 _ _ _ ((Mono.mono E3 (Owned.read hO2))) ((Owned.read hO3))) ?_; rintro _ w4 ⟨rfl, E4⟩; have hs4 := E4.size
      refine Wo rfl (opv_not rfl) ?_; refine Wo_nil ?_; refine W_cond rfl (fun h2 => ?_) (fun h2 => ?_); contradiction; refine W_skip ?_; refine W_seq ?_; refine W_seq ?_; refine W_region rfl ?_; refine Wo rfl (opv_move (v := u1) rfl) ?_
      refine Wo_call rfl (opc1 (a := u1) Try.call28 rfl) (k3 _ _ ((Mono.mono ((E2.trans E3).trans E4) (Owned.read hO1)))) ?_; rintro _ w5 ⟨rfl, E5⟩; have hs5 := E5.size; refine Wo rfl (opv_not rfl) ?_; refine Wo_nil ?_
      refine W_cond rfl (fun h3 => ?_) (fun h3 => ?_); refine W_seq ?_; refine W_region rfl ?_; refine Wo rfl (opv_move (v := u2) rfl) ?_; refine Wo rfl (opv_len Try.underlying24 rfl (Owned.read hO2)) ?_
      refine Wo rfl (opv_eql rfl rfl) ?_; refine Wo_split_dec rfl (opv_move (v := .bool _) rfl) (fun h4 => ?_) (fun h4 => ?_); refine Wo_call rfl (opc0 Try.call29) (alive_ok _) ?_; rintro _ w6 ⟨rfl, E6⟩; have hs6 := E6.size
      refine Wo rfl (opv_pick_t (v := .bool _) rfl rfl) ?_; refine Wo rfl (opv_assign (v := .bool _) rfl) ?_; refine Wo_nil ?_; refine W_ret ?_; exact ⟨rfl, (((((E1.trans E2).trans E3).trans E4).trans E5).trans E6)⟩; contradiction
      contradiction

end Go.Proofs.Ythhaodjjfofogaa
