/- Walks: two streams laid between each other, the clever side. -/
import Derived.Test.YtlalfmialbolhaaHsWStrP
namespace Go.Proofs.Ytlalfmialbolhaa
open Go.Hs
set_option maxRecDepth 10000
set_option maxHeartbeats 4000000
set_option linter.unusedVariables false
set_option linter.unusedSimpArgs false
/-- one's bits at the even places, the other's at the odd ones -/
def lay (f g : Nat → Int) : Nat → Int := fun k => if k % 2 = 0 then f (k / 2) else g (k / 2)
theorem per_lay {f g : Nat → Int} {a L : Nat} (hf : Per f a L) (hg : Per g a L) : Per (lay f g) (2 * a) (2 * L) := ⟨by have := hf.1; omega, fun n hn => by
  unfold lay
  have h1 := hf.2 (n / 2) (by omega)
  have h2 := hg.2 (n / 2) (by omega)
  rw [show (n + 2 * L) / 2 = n / 2 + L by omega, show (n + 2 * L) % 2 = n % 2 by omega, h1, h2]⟩
/-- how many come again, of two that do after so many -/
def lcmL (n m : Nat) : Nat := if n = m then n else n * m
theorem per_lcm {f g : Nat → Int} {a n m : Nat} (hf : Per f a n) (hg : Per g a m) : Per f a (lcmL n m) ∧ Per g a (lcmL n m) := by
  unfold lcmL
  split
  · rename_i h
    subst h; exact ⟨hf, hg⟩
  · exact ⟨hf.times hg.1, by rw [Nat.mul_comm]; exact hg.times hf.1⟩
def lbOk (A B A' B' : List Int) : Prop := Stm A B ∧ Stm A' B' ∧ (shL (bat A B)).length ≤ 1 ∧ (shL (bat A' B')).length ≤ 1 ∧ lcmL (shR (bat A B)).length (shR (bat A' B')).length ≤ 5
open Classical in
noncomputable def lbV (A B A' B' : List Int) : List Int × List Int × Bool := if lbOk A B A' B' then (shL (lay (bat A B) (bat A' B')), shR (lay (bat A B) (bat A' B')), true) else ([], [], false)

theorem impl_LaidBetween_ok (w : World) (u1 u2 v1 v2 : Value) (A B A' B' : List Int) (h1 : Ints w u1 A) (h2 : Ints w u2 B) (h3 : Ints w v1 A') (h4 : Ints w v2 B') (hA : A.length ≤ 4000000) (hB : B.length ≤ 4000000) (hA' : A'.length ≤ 4000000) (hB' : B'.length ≤ 4000000) :
    Does Try.prog 36 [.agg #[u1, u2], .agg #[v1, v2]] w (RetS2b w 3 (lbV A B A' B').1 (lbV A B A' B').2.1 (lbV A B A' B').2.2) := by
  have hok : ∀ (A B : List Int) (x : Bool), A.length ≤ 4000000 → B.length ≤ 4000000 → decide (Stm A B) = x → ∀ (w : World) (u1 u2 : Value), Ints w u1 A → Ints w u2 B → Does Try.prog 54 [.agg #[u1, u2]] w (Ret w (.bool x)) := fun A B x hA hB e w u1 u2 h1 h2 => e ▸ isStream_ok w u1 u2 A B h1 h2 hA hB
  by_cases hs : Stm A B
  · have k1 := hok A B true hA hB (decide_eq_true hs)
    by_cases hs' : Stm A' B'
    · have k2 := hok A' B' true hA' hB' (decide_eq_true hs')
      have hsl := hs.2.2
      have hsl' := hs'.2.2
      have hsh := hs.sh
      have hsh' := hs'.sh
      have hst := hs.short_stm
      have hst' := hs'.short_stm
      have hsb := hs.short_bat
      have hsb' := hs'.short_bat
      have k3 : ∀ (w : World) (u1 u2 : Value), Ints w u1 A → Ints w u2 B → Does Try.prog 55 [.agg #[u1, u2]] w (RetS2 w 3 (shL (bat A B)) (shR (bat A B))) := fun w u1 u2 h1 h2 => shortOf_ok w u1 u2 A B h1 h2 (by omega) (by omega) (by omega)
      have k4 : ∀ (w : World) (u1 u2 : Value), Ints w u1 A' → Ints w u2 B' → Does Try.prog 55 [.agg #[u1, u2]] w (RetS2 w 3 (shL (bat A' B')) (shR (bat A' B'))) := fun w u1 u2 h1 h2 => shortOf_ok w u1 u2 A' B' h1 h2 (by omega) (by omega) (by omega)
      have e0 : lbOk A B A' B' ↔ ((shL (bat A B)).length ≤ 1 ∧ (shL (bat A' B')).length ≤ 1 ∧ lcmL (shR (bat A B)).length (shR (bat A' B')).length ≤ 5) := ⟨fun h => h.2.2, fun h => ⟨hs, hs', h⟩⟩
      have eV : lbV A B A' B' = if (shL (bat A B)).length ≤ 1 ∧ (shL (bat A' B')).length ≤ 1 ∧ lcmL (shR (bat A B)).length (shR (bat A' B')).length ≤ 5 then (shL (lay (bat A B) (bat A' B')), shR (lay (bat A B) (bat A' B')), true) else ([], [], false) := by
        unfold lbV
        by_cases h : lbOk A B A' B'
        · rw [if_pos h, if_pos (e0.1 h)]
        · rw [if_neg h, if_neg (fun h' => h (e0.2 h'))]
      rw [eV]
      clear e0 eV hok
      obtain ⟨f, hf⟩ : ∃ f, f = bat A B := ⟨_, rfl⟩
      obtain ⟨g, hg⟩ : ∃ g, g = bat A' B' := ⟨_, rfl⟩
      rw [← hf] at hsh hst hsb k3 ⊢
      rw [← hg] at hsh' hst' hsb' k4 ⊢
      have el1 : (shL f).length = shA f := win_len
      have el2 : (shR f).length = shP f := win_len
      have el3 : (shL g).length = shA g := win_len
      have el4 : (shR g).length = shP g := win_len
      have hb1 := hst.2.2
      have hb2 := hst'.2.2
      have hmul : 1 ≤ (shR f).length * (shR g).length ∧ (shR f).length * (shR g).length ≤ 144 := ⟨Nat.mul_pos hb1.1 hb2.1, Nat.mul_le_mul (show (shR f).length ≤ 12 by omega) (show (shR g).length ≤ 12 by omega)⟩
      have hmulI : ((shR f).length : Int) * ((shR g).length : Int) = (((shR f).length * (shR g).length : Nat) : Int) := by rw [Int.natCast_mul]
      have hper : ∀ a, max (shA f) (shA g) ≤ a → Per (lay f g) (2 * a) (2 * lcmL (shR f).length (shR g).length) := fun a ha => by
        have := per_lcm (hsh.1.up (show shA f ≤ a by omega)) (hsh'.1.up (show shA g ≤ a by omega))
        rw [el2, el4]
        exact per_lay this.1 this.2
      clear hf hg hs hs' hsh hsh'
      have hcl : ∀ (w1 : World) (b6 b7 : Nat) (x1 x2 y1 y2 : Value) (k : Nat), Blk w1 b6 [x1, x2] → Blk w1 b7 [y1, y2] → Ints w1 x1 (shL f) → Ints w1 x2 (shR f) → Ints w1 y1 (shL g) → Ints w1 y2 (shR g) → k ≤ 1000 → Does Try.prog 72 [.int .i64 (k : Int), .pointer (some ⟨b6, 0, none⟩), .pointer (some ⟨b7, 0, none⟩)] w1 (Ret w1 (.int .i64 (lay f g k))) := by
        intro w1 b6 b7 x1 x2 y1 y2 k hB6 hB7 i1 i2 i3 i4 hk
        have q1 : ∀ (w : World) (u1 u2 : Value), Ints w u1 (shL f) → Ints w u2 (shR f) → Does Try.prog 63 [.agg #[u1, u2], .int .i64 ((k : Int) / 2)] w (Ret w (.int .i64 (f (k / 2)))) := fun w u1 u2 h1 h2 => by
          have := bitAt_ok w u1 u2 _ _ h1 h2 hst (k / 2) (by omega)
          rw [hsb] at this; exact this
        have q2 : ∀ (w : World) (u1 u2 : Value), Ints w u1 (shL g) → Ints w u2 (shR g) → Does Try.prog 63 [.agg #[u1, u2], .int .i64 ((k : Int) / 2)] w (Ret w (.int .i64 (g (k / 2)))) := fun w u1 u2 h1 h2 => by
          have := bitAt_ok w u1 u2 _ _ h1 h2 hst' (k / 2) (by omega)
          rw [hsb'] at this; exact this
        refine fn_of_W1 Try.func72 rfl Try.results72 Try.ntmps72 rfl ?_
        by_cases h2 : k % 2 = 0
        · have e : lay f g k = f (k / 2) := if_pos h2
          have h2' : (k : Int) % 2 = 0 := by omega
          rw [e]
          clear q2 e hsb hsb'
          focus
            refine W_seq ?_; refine W_region rfl ?_; refine Wo rfl (opv_assign (v := .int _ _) rfl) ?_; refine Wo_nil ?_; refine W_seq ?_; refine W_seq ?_; refine W_region rfl ?_; refine Wo rfl (opv_move (v := .int _ _) rfl) ?_
            refine Wo rfl (opv_rem rfl rfl (by omega)) ?_; refine Wo rfl (opv_eql rfl rfl) ?_; refine Wo_nil ?_; refine W_cond_dec rfl (fun h5 => ?_) (fun h5 => ?_); refine W_seq ?_; refine W_region rfl ?_
            refine Wo (v := .agg _) rfl (opv_load2 Try.isAgg25 Try.sizeOf25 rfl hB6) ?_; refine Wo rfl (opv_move (v := .int _ _) rfl) ?_; refine Wo rfl (opv_quo rfl rfl (by omega)) ?_
            refine Wo_call rfl (opc2 (a := .agg _) (b := .int _ _) Try.call63 rfl rfl) (q1 _ _ _ (i1) (i2)) ?_; rintro _ w2 ⟨rfl, E1⟩; have hs1 := E1.size; refine Wo rfl (opv_assign (v := .int _ _) rfl) ?_; refine Wo_nil ?_; refine W_ret ?_
            exact ⟨rfl, E1⟩; contradiction
        · have e : lay f g k = g (k / 2) := if_neg h2
          have h2' : ¬ (k : Int) % 2 = 0 := by omega
          rw [e]
          clear q1 e hsb hsb'
          focus
            refine W_seq ?_; refine W_region rfl ?_; refine Wo rfl (opv_assign (v := .int _ _) rfl) ?_; refine Wo_nil ?_; refine W_seq ?_; refine W_seq ?_; refine W_region rfl ?_; refine Wo rfl (opv_move (v := .int _ _) rfl) ?_
            refine Wo rfl (opv_rem rfl rfl (by omega)) ?_; refine Wo rfl (opv_eql rfl rfl) ?_; refine Wo_nil ?_; refine W_cond_dec rfl (fun h5 => ?_) (fun h5 => ?_); contradiction; refine W_skip ?_; refine W_seq ?_; refine W_region rfl ?_
            refine Wo (v := .agg _) rfl (opv_load2 Try.isAgg25 Try.sizeOf25 rfl hB7) ?_; refine Wo rfl (opv_move (v := .int _ _) rfl) ?_; refine Wo rfl (opv_quo rfl rfl (by omega)) ?_
            refine Wo_call rfl (opc2 (a := .agg _) (b := .int _ _) Try.call63 rfl rfl) (q2 _ _ _ (i3) (i4)) ?_; rintro _ w2 ⟨rfl, E1⟩; have hs1 := E1.size; refine Wo rfl (opv_assign (v := .int _ _) rfl) ?_; refine Wo_nil ?_; refine W_ret ?_
            exact ⟨rfl, E1⟩
      have hsb3 : ∀ (w1 : World) (b6 b7 : Nat) (x1 x2 y1 y2 : Value) (z1 z2 : Int), Blk w1 b6 [x1, x2] → Blk w1 b7 [y1, y2] → Ints w1 x1 (shL f) → Ints w1 x2 (shR f) → Ints w1 y1 (shL g) → Ints w1 y2 (shR g) → z1 = 2 * max ((shL f).length : Int) ((shL g).length : Int) → z2 = 2 * ((lcmL (shR f).length (shR g).length : Nat) : Int) → lcmL (shR f).length (shR g).length ≤ 5 →
          Does Try.prog 61 [.int .i64 z1, .int .i64 z2, .func (.func 72) [].toArray [.pointer (some ⟨b6, 0, none⟩), .pointer (some ⟨b7, 0, none⟩)].toArray] w1 (RetS2 w1 3 (shL (lay f g)) (shR (lay f g))) := by
        intro w1 b6 b7 x1 x2 y1 y2 z1 z2 hB6 hB7 i1 i2 i3 i4 ez1 ez2 hL
        obtain rfl : z1 = ((2 * max (shA f) (shA g) : Nat) : Int) := by omega
        obtain rfl : z2 = ((2 * lcmL (shR f).length (shR g).length : Nat) : Int) := by omega
        exact streamBy_ok w1 72 [.pointer (some ⟨b6, 0, none⟩), .pointer (some ⟨b7, 0, none⟩)] _ _ _ (by omega) (by omega) (hper _ (Nat.le_refl _)) Try.call72 (fun k w' hk e => hcl w' b6 b7 x1 x2 y1 y2 k (hB6.ext e) (hB7.ext e) (Mono.mono e i1) (Mono.mono e i2) (Mono.mono e i3) (Mono.mono e i4) (by omega))
      clear hcl hper hst hst' hsb hsb'
      generalize hL : lcmL (shR f).length (shR g).length = L at *
      refine fn_of_Wct Try.func36 rfl Try.results36 Try.ntmps36 rfl Try.isAgg25 Try.sizeOf25 ?_
      have stop3 : True := trivial
      have heldS : True := trivial
      focus
        refine W_seq ?_; refine W_region rfl ?_; refine Wo_box rfl rfl rfl ?_; rintro b1 w1 hb3 E1 hB1; have hlb1 := hB1.lt; have hs1 := E1.size; refine Wo_box rfl rfl rfl ?_; rintro b2 w2 hb4 E2 hB2; have hlb2 := hB2.lt
        have hs2 := E2.size; refine Wo_alloc2 rfl flat25 ?_; rintro b3 w3 hb5 E3 hB3; have hlb3 := hB3.lt; have hs3 := E3.size; refine Wo rfl (opv_assign (v := .bool _) rfl) ?_; refine Wo_nil ?_; refine W_seq ?_; refine W_seq ?_
        refine W_region rfl ?_; refine Wo (v := .agg _) rfl (opv_load2 Try.isAgg25 Try.sizeOf25 rfl (hB1.ext (E2.trans E3))) ?_
        refine Wo_call rfl (opc1 (a := .agg _) Try.call54 rfl) (k1 _ _ _ ((Mono.mono ((E1.trans E2).trans E3) h1)) ((Mono.mono ((E1.trans E2).trans E3) h2))) ?_; rintro _ w4 ⟨rfl, E4⟩; have hs4 := E4.size; refine Wo rfl (opv_not rfl) ?_
        refine Wo_split rfl (opv_move (v := .bool _) rfl) (fun h5 => ?_) (fun h5 => ?_); contradiction; refine Wo (v := .agg _) rfl (opv_load2 Try.isAgg25 Try.sizeOf25 rfl (hB2.ext (E3.trans E4))) ?_
        refine Wo_call rfl (opc1 (a := .agg _) Try.call54 rfl) (k2 _ _ _ ((Mono.mono (((E1.trans E2).trans E3).trans E4) h3)) ((Mono.mono (((E1.trans E2).trans E3).trans E4) h4))) ?_; rintro _ w5 ⟨rfl, E5⟩; have hs5 := E5.size
        refine Wo rfl (opv_not rfl) ?_; refine Wo rfl (opv_pick_f (v := .bool _) rfl rfl) ?_; refine Wo_nil ?_; refine W_cond rfl (fun h6 => ?_) (fun h6 => ?_); contradiction; refine W_skip ?_; refine W_seq ?_
      clear stop3
      refine W_mid [6, 7, 20, 21, 22, 23] (fun ((b6, b7, _) : Nat × Nat × Value × Value × Value × Value) => [(6, .pointer (some ⟨b6, 0, none⟩)), (7, .pointer (some ⟨b7, 0, none⟩))]) (fun (b6, b7, x1, x2, y1, y2) w' => Ext w5 w' ∧ Blk w' b6 [x1, x2] ∧ Blk w' b7 [y1, y2] ∧ Ints w' x1 (shL f) ∧ Ints w' x2 (shR f) ∧ Ints w' y1 (shL g) ∧ Ints w' y2 (shR g)) ?_ ?_
      · focus
          have szE5 := E5.size; have szE4 := E4.size; have szE3 := E3.size; have szE2 := E2.size; have szE1 := E1.size; refine W_held (fun w' => Ext w5 w') mixed rfl (by kernel_rfl) ?_; intro w6 E6 K1 hz1; have hs6 := E6.size
          refine Wh_take (v := .agg _) 0 rfl (by kernel_rfl) (by kernel_rfl) rfl (fun w' hw' => opv_load2 Try.isAgg25 Try.sizeOf25 rfl (hB1.ext ((((E2.trans E3).trans E4).trans E5).trans hw'))) E6 ?_
          refine Wh_take (v := .agg _) 2 rfl (by kernel_rfl) (by kernel_rfl) rfl (fun w' hw' => opv_load2 Try.isAgg25 Try.sizeOf25 rfl (hB2.ext (((E3.trans E4).trans E5).trans hw'))) E6 ?_
          refine Wh_all (rs := [1, 4, 5]) (by kernel_rfl) rfl ?_; refine WhAll_cons rfl ?_ ?_
          refine Wo_call rfl (opc1 (a := .agg _) Try.call55 rfl) (k3 _ _ _ ((Mono.mono (((((E1.trans E2).trans E3).trans E4).trans E5).trans E6) h1)) ((Mono.mono (((((E1.trans E2).trans E3).trans E4).trans E5).trans E6) h2))) ?_
          rintro _ w7 ⟨u3, q1, rfl, E7, hO1, hQ1, hd1⟩; have icu3 := OwnedB.isC (Owned.toB hO1); have cpu3 := OwnedB.capOk (Owned.toB hO1); have icq1 := OwnedB.isC (Owned.toB hQ1); have cpq1 := OwnedB.capOk (Owned.toB hQ1)
          have hs7 := E7.size; refine Wo_nil ?_; refine ⟨(E6.trans E7), ?_⟩; refine Wh_all (rs := [3, 4, 5]) (by kernel_rfl) rfl ?_; refine WhAll_cons rfl ?_ ?_
          refine Wo_call rfl (opc1 (a := .agg _) Try.call55 rfl) (k4 _ _ _ ((Mono.mono ((((((E1.trans E2).trans E3).trans E4).trans E5).trans E6).trans E7) h3)) ((Mono.mono ((((((E1.trans E2).trans E3).trans E4).trans E5).trans E6).trans E7) h4))) ?_
          rintro _ w8 ⟨u4, q2, rfl, E8, hO2, hQ2, hd2⟩; have icu4 := OwnedB.isC (Owned.toB hO2); have cpu4 := OwnedB.capOk (Owned.toB hO2); have icq2 := OwnedB.isC (Owned.toB hQ2); have cpq2 := OwnedB.capOk (Owned.toB hQ2)
          have hs8 := E8.size; refine Wo_nil ?_; refine ⟨((E6.trans E7).trans E8), ?_⟩; refine Wh_all (rs := [4, 5]) (by kernel_rfl) rfl ?_; refine WhAll_cons rfl ?_ ?_; refine Wo_alloc2 rfl flat25 ?_; rintro b4 w9 hb6 E9 hB4
          have hlb4 := hB4.lt; have hs9 := E9.size; refine Wo_nil ?_; refine ⟨(((E6.trans E7).trans E8).trans E9), ?_⟩; refine Wh_all (rs := [5]) (by kernel_rfl) rfl ?_; refine WhAll_cons rfl ?_ ?_; refine Wo_alloc2 rfl flat25 ?_
          rintro b5 w10 hb7 E10 hB5; have hlb5 := hB5.lt; have hs10 := E10.size; refine Wo_nil ?_; refine ⟨((((E6.trans E7).trans E8).trans E9).trans E10), ?_⟩; refine Wh_all (rs := [6]) (by kernel_rfl) rfl ?_; refine WhAll_cons rfl ?_ ?_
          refine Wo_st2 rfl Try.sizeOf25 rfl rfl (by first | rfl | assumption) (by first | rfl | assumption) (hB4.ext E10) (by omega) (((((((((E1.trans E2).trans E3).trans E4).trans E5).trans E6).trans E7).trans E8).trans E9).trans E10) ?_
          rintro w11 E11 hB4 K2 hz2
          have E12 := ((((((((E2.trans E3).trans E4).trans E5).trans E6).trans E7).trans E8).trans E9).trans E10).wroteAt (((((((((E1.trans E2).trans E3).trans E4).trans E5).trans E6).trans E7).trans E8).trans E9).trans E10) E11 K2 hz2 (by omega)
          have szE12 := E12.size
          have E13 := (((((((E3.trans E4).trans E5).trans E6).trans E7).trans E8).trans E9).trans E10).wroteAt (((((((((E1.trans E2).trans E3).trans E4).trans E5).trans E6).trans E7).trans E8).trans E9).trans E10) E11 K2 hz2 (by omega)
          have szE13 := E13.size
          have E14 := ((((((E4.trans E5).trans E6).trans E7).trans E8).trans E9).trans E10).wroteAt (((((((((E1.trans E2).trans E3).trans E4).trans E5).trans E6).trans E7).trans E8).trans E9).trans E10) E11 K2 hz2 (by omega)
          have szE14 := E14.size; have E15 := (((((E5.trans E6).trans E7).trans E8).trans E9).trans E10).wroteAt (((((((((E1.trans E2).trans E3).trans E4).trans E5).trans E6).trans E7).trans E8).trans E9).trans E10) E11 K2 hz2 (by omega)
          have szE15 := E15.size; have E16 := ((((E6.trans E7).trans E8).trans E9).trans E10).wroteAt (((((((((E1.trans E2).trans E3).trans E4).trans E5).trans E6).trans E7).trans E8).trans E9).trans E10) E11 K2 hz2 (by omega)
          have szE16 := E16.size; have E17 := (((E7.trans E8).trans E9).trans E10).wroteAt (((((((((E1.trans E2).trans E3).trans E4).trans E5).trans E6).trans E7).trans E8).trans E9).trans E10) E11 K2 hz2 (by omega); have szE17 := E17.size
          have E18 := ((E8.trans E9).trans E10).wroteAt (((((((((E1.trans E2).trans E3).trans E4).trans E5).trans E6).trans E7).trans E8).trans E9).trans E10) E11 K2 hz2 (by omega); have szE18 := E18.size
          have E19 := (E9.trans E10).wroteAt (((((((((E1.trans E2).trans E3).trans E4).trans E5).trans E6).trans E7).trans E8).trans E9).trans E10) E11 K2 hz2 (by omega); have szE19 := E19.size
          have hB1 := (hB1.ext ((((((((E2.trans E3).trans E4).trans E5).trans E6).trans E7).trans E8).trans E9).trans E10)).of_heap (K2 _ (by omega))
          have hB2 := (hB2.ext (((((((E3.trans E4).trans E5).trans E6).trans E7).trans E8).trans E9).trans E10)).of_heap (K2 _ (by omega))
          have hB3 := (hB3.ext ((((((E4.trans E5).trans E6).trans E7).trans E8).trans E9).trans E10)).of_heap (K2 _ (by omega)); have hO1 := (hO1.toB.ext ((E8.trans E9).trans E10)).wrote K2 (by omega)
          have hQ1 := (hQ1.toB.ext ((E8.trans E9).trans E10)).wrote K2 (by omega); have hO2 := (hO2.toB.ext (E9.trans E10)).wrote K2 (by omega); have hQ2 := (hQ2.toB.ext (E9.trans E10)).wrote K2 (by omega)
          have hB5 := hB5.of_heap (K2 _ (by omega)); refine Wo_nil ?_; refine ⟨E16, ?_⟩; refine Wh_all (rs := [7]) (by kernel_rfl) rfl ?_; refine WhAll_cons rfl ?_ ?_
          refine Wo_st2 rfl Try.sizeOf25 rfl rfl (by first | rfl | assumption) (by first | rfl | assumption) hB5 (by omega) E11 ?_; rintro w12 E20 hB5 K3 hz3; have E21 := E12.wroteAt E11 E20 K3 hz3 (by omega); have szE21 := E21.size
          have E22 := E13.wroteAt E11 E20 K3 hz3 (by omega); have szE22 := E22.size; have E23 := E14.wroteAt E11 E20 K3 hz3 (by omega); have szE23 := E23.size; have E24 := E15.wroteAt E11 E20 K3 hz3 (by omega); have szE24 := E24.size
          have E25 := E16.wroteAt E11 E20 K3 hz3 (by omega); have szE25 := E25.size; have E26 := E17.wroteAt E11 E20 K3 hz3 (by omega); have szE26 := E26.size; have E27 := E18.wroteAt E11 E20 K3 hz3 (by omega); have szE27 := E27.size
          have E28 := E19.wroteAt E11 E20 K3 hz3 (by omega); have szE28 := E28.size; have hB4 := hB4.of_heap (K3 _ (by omega)); have hB1 := hB1.of_heap (K3 _ (by omega)); have hB2 := hB2.of_heap (K3 _ (by omega))
          have hB3 := hB3.of_heap (K3 _ (by omega)); have hO1 := hO1.wrote K3 (by omega); have hQ1 := hQ1.wrote K3 (by omega); have hO2 := hO2.wrote K3 (by omega); have hQ2 := hQ2.wrote K3 (by omega); refine Wo_nil ?_; refine ⟨E25, ?_⟩
          refine Wh_done (by kernel_rfl) ?_; rotate_left; exact WhAll_nil; exact WhAll_nil; exact WhAll_nil; refine WhAll_cons rfl ?_ ?_; refine Wo_alloc2 rfl flat25 ?_; rintro b4 w9 hb6 E9 hB4; have hlb4 := hB4.lt; have hs9 := E9.size
          refine Wo_nil ?_; refine ⟨(((E6.trans E7).trans E8).trans E9), ?_⟩; refine Wh_all (rs := [4]) (by kernel_rfl) rfl ?_; refine WhAll_cons rfl ?_ ?_; refine Wo_alloc2 rfl flat25 ?_; rintro b5 w10 hb7 E10 hB5; have hlb5 := hB5.lt
          have hs10 := E10.size; refine Wo_nil ?_; refine ⟨((((E6.trans E7).trans E8).trans E9).trans E10), ?_⟩; refine Wh_all (rs := [6]) (by kernel_rfl) rfl ?_; refine WhAll_cons rfl ?_ ?_
          refine Wo_st2 rfl Try.sizeOf25 rfl rfl (by first | rfl | assumption) (by first | rfl | assumption) hB5 (by omega) (((((((((E1.trans E2).trans E3).trans E4).trans E5).trans E6).trans E7).trans E8).trans E9).trans E10) ?_
          rintro w11 E11 hB5 K2 hz2
          have E12 := ((((((((E2.trans E3).trans E4).trans E5).trans E6).trans E7).trans E8).trans E9).trans E10).wroteAt (((((((((E1.trans E2).trans E3).trans E4).trans E5).trans E6).trans E7).trans E8).trans E9).trans E10) E11 K2 hz2 (by omega)
          have szE12 := E12.size
          have E13 := (((((((E3.trans E4).trans E5).trans E6).trans E7).trans E8).trans E9).trans E10).wroteAt (((((((((E1.trans E2).trans E3).trans E4).trans E5).trans E6).trans E7).trans E8).trans E9).trans E10) E11 K2 hz2 (by omega)
          have szE13 := E13.size
          have E14 := ((((((E4.trans E5).trans E6).trans E7).trans E8).trans E9).trans E10).wroteAt (((((((((E1.trans E2).trans E3).trans E4).trans E5).trans E6).trans E7).trans E8).trans E9).trans E10) E11 K2 hz2 (by omega)
          have szE14 := E14.size; have E15 := (((((E5.trans E6).trans E7).trans E8).trans E9).trans E10).wroteAt (((((((((E1.trans E2).trans E3).trans E4).trans E5).trans E6).trans E7).trans E8).trans E9).trans E10) E11 K2 hz2 (by omega)
          have szE15 := E15.size; have E16 := ((((E6.trans E7).trans E8).trans E9).trans E10).wroteAt (((((((((E1.trans E2).trans E3).trans E4).trans E5).trans E6).trans E7).trans E8).trans E9).trans E10) E11 K2 hz2 (by omega)
          have szE16 := E16.size; have E17 := (((E7.trans E8).trans E9).trans E10).wroteAt (((((((((E1.trans E2).trans E3).trans E4).trans E5).trans E6).trans E7).trans E8).trans E9).trans E10) E11 K2 hz2 (by omega); have szE17 := E17.size
          have E18 := ((E8.trans E9).trans E10).wroteAt (((((((((E1.trans E2).trans E3).trans E4).trans E5).trans E6).trans E7).trans E8).trans E9).trans E10) E11 K2 hz2 (by omega); have szE18 := E18.size
          have E19 := (E9.trans E10).wroteAt (((((((((E1.trans E2).trans E3).trans E4).trans E5).trans E6).trans E7).trans E8).trans E9).trans E10) E11 K2 hz2 (by omega); have szE19 := E19.size
          have E20 := E10.wroteAt (((((((((E1.trans E2).trans E3).trans E4).trans E5).trans E6).trans E7).trans E8).trans E9).trans E10) E11 K2 hz2 (by omega); have szE20 := E20.size
          have hB1 := (hB1.ext ((((((((E2.trans E3).trans E4).trans E5).trans E6).trans E7).trans E8).trans E9).trans E10)).of_heap (K2 _ (by omega))
          have hB2 := (hB2.ext (((((((E3.trans E4).trans E5).trans E6).trans E7).trans E8).trans E9).trans E10)).of_heap (K2 _ (by omega))
          have hB3 := (hB3.ext ((((((E4.trans E5).trans E6).trans E7).trans E8).trans E9).trans E10)).of_heap (K2 _ (by omega)); have hO1 := (hO1.toB.ext ((E8.trans E9).trans E10)).wrote K2 (by omega)
          have hQ1 := (hQ1.toB.ext ((E8.trans E9).trans E10)).wrote K2 (by omega); have hO2 := (hO2.toB.ext (E9.trans E10)).wrote K2 (by omega); have hQ2 := (hQ2.toB.ext (E9.trans E10)).wrote K2 (by omega)
          have hB4 := (hB4.ext E10).of_heap (K2 _ (by omega)); refine Wo_nil ?_; refine ⟨E16, ?_⟩; refine Wh_all (rs := [7]) (by kernel_rfl) rfl ?_; refine WhAll_cons rfl ?_ ?_
          refine Wo_st2 rfl Try.sizeOf25 rfl rfl (by first | rfl | assumption) (by first | rfl | assumption) hB4 (by omega) E11 ?_; rintro w12 E21 hB4 K3 hz3; have E22 := E12.wroteAt E11 E21 K3 hz3 (by omega); have szE22 := E22.size
          have E23 := E13.wroteAt E11 E21 K3 hz3 (by omega); have szE23 := E23.size; have E24 := E14.wroteAt E11 E21 K3 hz3 (by omega); have szE24 := E24.size; have E25 := E15.wroteAt E11 E21 K3 hz3 (by omega); have szE25 := E25.size
          have E26 := E16.wroteAt E11 E21 K3 hz3 (by omega); have szE26 := E26.size; have E27 := E17.wroteAt E11 E21 K3 hz3 (by omega); have szE27 := E27.size; have E28 := E18.wroteAt E11 E21 K3 hz3 (by omega); have szE28 := E28.size
          have E29 := E19.wroteAt E11 E21 K3 hz3 (by omega); have szE29 := E29.size; have hB5 := hB5.of_heap (K3 _ (by omega)); have hB1 := hB1.of_heap (K3 _ (by omega)); have hB2 := hB2.of_heap (K3 _ (by omega))
          have hB3 := hB3.of_heap (K3 _ (by omega)); have hO1 := hO1.wrote K3 (by omega); have hQ1 := hQ1.wrote K3 (by omega); have hO2 := hO2.wrote K3 (by omega); have hQ2 := hQ2.wrote K3 (by omega); refine Wo_nil ?_; refine ⟨E26, ?_⟩
          refine Wh_done (by kernel_rfl) ?_; rotate_left; exact WhAll_nil; exact WhAll_nil; exact WhAll_nil; exact WhAll_nil; refine WhAll_cons rfl ?_ ?_; refine Wo_alloc2 rfl flat25 ?_; rintro b4 w8 hb6 E8 hB4; have hlb4 := hB4.lt
          have hs8 := E8.size; refine Wo_nil ?_; refine ⟨((E6.trans E7).trans E8), ?_⟩; refine Wh_all (rs := [3, 5]) (by kernel_rfl) rfl ?_; refine WhAll_cons rfl ?_ ?_
          refine Wo_call rfl (opc1 (a := .agg _) Try.call55 rfl) (k4 _ _ _ ((Mono.mono (((((((E1.trans E2).trans E3).trans E4).trans E5).trans E6).trans E7).trans E8) h3)) ((Mono.mono (((((((E1.trans E2).trans E3).trans E4).trans E5).trans E6).trans E7).trans E8) h4))) ?_
          rintro _ w9 ⟨u4, q2, rfl, E9, hO2, hQ2, hd2⟩; have icu4 := OwnedB.isC (Owned.toB hO2); have cpu4 := OwnedB.capOk (Owned.toB hO2); have icq2 := OwnedB.isC (Owned.toB hQ2); have cpq2 := OwnedB.capOk (Owned.toB hQ2)
          have hs9 := E9.size; refine Wo_nil ?_; refine ⟨(((E6.trans E7).trans E8).trans E9), ?_⟩; refine Wh_all (rs := [5]) (by kernel_rfl) rfl ?_; refine WhAll_cons rfl ?_ ?_; refine Wo_alloc2 rfl flat25 ?_; rintro b5 w10 hb7 E10 hB5
          have hlb5 := hB5.lt; have hs10 := E10.size; refine Wo_nil ?_; refine ⟨((((E6.trans E7).trans E8).trans E9).trans E10), ?_⟩; refine Wh_all (rs := [6]) (by kernel_rfl) rfl ?_; refine WhAll_cons rfl ?_ ?_
          refine Wo_st2 rfl Try.sizeOf25 rfl rfl (by first | rfl | assumption) (by first | rfl | assumption) (hB4.ext (E9.trans E10)) (by omega) (((((((((E1.trans E2).trans E3).trans E4).trans E5).trans E6).trans E7).trans E8).trans E9).trans E10) ?_
          rintro w11 E11 hB4 K2 hz2
          have E12 := ((((((((E2.trans E3).trans E4).trans E5).trans E6).trans E7).trans E8).trans E9).trans E10).wroteAt (((((((((E1.trans E2).trans E3).trans E4).trans E5).trans E6).trans E7).trans E8).trans E9).trans E10) E11 K2 hz2 (by omega)
          have szE12 := E12.size
          have E13 := (((((((E3.trans E4).trans E5).trans E6).trans E7).trans E8).trans E9).trans E10).wroteAt (((((((((E1.trans E2).trans E3).trans E4).trans E5).trans E6).trans E7).trans E8).trans E9).trans E10) E11 K2 hz2 (by omega)
          have szE13 := E13.size
          have E14 := ((((((E4.trans E5).trans E6).trans E7).trans E8).trans E9).trans E10).wroteAt (((((((((E1.trans E2).trans E3).trans E4).trans E5).trans E6).trans E7).trans E8).trans E9).trans E10) E11 K2 hz2 (by omega)
          have szE14 := E14.size; have E15 := (((((E5.trans E6).trans E7).trans E8).trans E9).trans E10).wroteAt (((((((((E1.trans E2).trans E3).trans E4).trans E5).trans E6).trans E7).trans E8).trans E9).trans E10) E11 K2 hz2 (by omega)
          have szE15 := E15.size; have E16 := ((((E6.trans E7).trans E8).trans E9).trans E10).wroteAt (((((((((E1.trans E2).trans E3).trans E4).trans E5).trans E6).trans E7).trans E8).trans E9).trans E10) E11 K2 hz2 (by omega)
          have szE16 := E16.size; have E17 := (((E7.trans E8).trans E9).trans E10).wroteAt (((((((((E1.trans E2).trans E3).trans E4).trans E5).trans E6).trans E7).trans E8).trans E9).trans E10) E11 K2 hz2 (by omega); have szE17 := E17.size
          have E18 := ((E8.trans E9).trans E10).wroteAt (((((((((E1.trans E2).trans E3).trans E4).trans E5).trans E6).trans E7).trans E8).trans E9).trans E10) E11 K2 hz2 (by omega); have szE18 := E18.size
          have hB1 := (hB1.ext ((((((((E2.trans E3).trans E4).trans E5).trans E6).trans E7).trans E8).trans E9).trans E10)).of_heap (K2 _ (by omega))
          have hB2 := (hB2.ext (((((((E3.trans E4).trans E5).trans E6).trans E7).trans E8).trans E9).trans E10)).of_heap (K2 _ (by omega))
          have hB3 := (hB3.ext ((((((E4.trans E5).trans E6).trans E7).trans E8).trans E9).trans E10)).of_heap (K2 _ (by omega)); have hO1 := (hO1.toB.ext ((E8.trans E9).trans E10)).wrote K2 (by omega)
          have hQ1 := (hQ1.toB.ext ((E8.trans E9).trans E10)).wrote K2 (by omega); have hO2 := (hO2.toB.ext E10).wrote K2 (by omega); have hQ2 := (hQ2.toB.ext E10).wrote K2 (by omega); have hB5 := hB5.of_heap (K2 _ (by omega))
          refine Wo_nil ?_; refine ⟨E16, ?_⟩; refine Wh_all (rs := [7]) (by kernel_rfl) rfl ?_; refine WhAll_cons rfl ?_ ?_
          refine Wo_st2 rfl Try.sizeOf25 rfl rfl (by first | rfl | assumption) (by first | rfl | assumption) hB5 (by omega) E11 ?_; rintro w12 E19 hB5 K3 hz3; have E20 := E12.wroteAt E11 E19 K3 hz3 (by omega); have szE20 := E20.size
          have E21 := E13.wroteAt E11 E19 K3 hz3 (by omega); have szE21 := E21.size; have E22 := E14.wroteAt E11 E19 K3 hz3 (by omega); have szE22 := E22.size; have E23 := E15.wroteAt E11 E19 K3 hz3 (by omega); have szE23 := E23.size
          have E24 := E16.wroteAt E11 E19 K3 hz3 (by omega); have szE24 := E24.size; have E25 := E17.wroteAt E11 E19 K3 hz3 (by omega); have szE25 := E25.size; have E26 := E18.wroteAt E11 E19 K3 hz3 (by omega); have szE26 := E26.size
          have hB4 := hB4.of_heap (K3 _ (by omega)); have hB1 := hB1.of_heap (K3 _ (by omega)); have hB2 := hB2.of_heap (K3 _ (by omega)); have hB3 := hB3.of_heap (K3 _ (by omega)); have hO1 := hO1.wrote K3 (by omega)
          have hQ1 := hQ1.wrote K3 (by omega); have hO2 := hO2.wrote K3 (by omega); have hQ2 := hQ2.wrote K3 (by omega); refine Wo_nil ?_; refine ⟨E24, ?_⟩; refine Wh_done (by kernel_rfl) ?_; rotate_left; exact WhAll_nil; exact WhAll_nil
          exact WhAll_nil; refine WhAll_cons rfl ?_ ?_; refine Wo_alloc2 rfl flat25 ?_; rintro b5 w9 hb7 E9 hB5; have hlb5 := hB5.lt; have hs9 := E9.size; refine Wo_nil ?_; refine ⟨(((E6.trans E7).trans E8).trans E9), ?_⟩
          refine Wh_all (rs := [3]) (by kernel_rfl) rfl ?_; refine WhAll_cons rfl ?_ ?_
          refine Wo_call rfl (opc1 (a := .agg _) Try.call55 rfl) (k4 _ _ _ ((Mono.mono ((((((((E1.trans E2).trans E3).trans E4).trans E5).trans E6).trans E7).trans E8).trans E9) h3)) ((Mono.mono ((((((((E1.trans E2).trans E3).trans E4).trans E5).trans E6).trans E7).trans E8).trans E9) h4))) ?_
          rintro _ w10 ⟨u4, q2, rfl, E10, hO2, hQ2, hd2⟩; have icu4 := OwnedB.isC (Owned.toB hO2); have cpu4 := OwnedB.capOk (Owned.toB hO2); have icq2 := OwnedB.isC (Owned.toB hQ2); have cpq2 := OwnedB.capOk (Owned.toB hQ2)
          have hs10 := E10.size; refine Wo_nil ?_; refine ⟨((((E6.trans E7).trans E8).trans E9).trans E10), ?_⟩; refine Wh_all (rs := [6]) (by kernel_rfl) rfl ?_; refine WhAll_cons rfl ?_ ?_
          refine Wo_st2 rfl Try.sizeOf25 rfl rfl (by first | rfl | assumption) (by first | rfl | assumption) (hB4.ext (E9.trans E10)) (by omega) (((((((((E1.trans E2).trans E3).trans E4).trans E5).trans E6).trans E7).trans E8).trans E9).trans E10) ?_
          rintro w11 E11 hB4 K2 hz2
          have E12 := ((((((((E2.trans E3).trans E4).trans E5).trans E6).trans E7).trans E8).trans E9).trans E10).wroteAt (((((((((E1.trans E2).trans E3).trans E4).trans E5).trans E6).trans E7).trans E8).trans E9).trans E10) E11 K2 hz2 (by omega)
          have szE12 := E12.size
          have E13 := (((((((E3.trans E4).trans E5).trans E6).trans E7).trans E8).trans E9).trans E10).wroteAt (((((((((E1.trans E2).trans E3).trans E4).trans E5).trans E6).trans E7).trans E8).trans E9).trans E10) E11 K2 hz2 (by omega)
          have szE13 := E13.size
          have E14 := ((((((E4.trans E5).trans E6).trans E7).trans E8).trans E9).trans E10).wroteAt (((((((((E1.trans E2).trans E3).trans E4).trans E5).trans E6).trans E7).trans E8).trans E9).trans E10) E11 K2 hz2 (by omega)
          have szE14 := E14.size; have E15 := (((((E5.trans E6).trans E7).trans E8).trans E9).trans E10).wroteAt (((((((((E1.trans E2).trans E3).trans E4).trans E5).trans E6).trans E7).trans E8).trans E9).trans E10) E11 K2 hz2 (by omega)
          have szE15 := E15.size; have E16 := ((((E6.trans E7).trans E8).trans E9).trans E10).wroteAt (((((((((E1.trans E2).trans E3).trans E4).trans E5).trans E6).trans E7).trans E8).trans E9).trans E10) E11 K2 hz2 (by omega)
          have szE16 := E16.size; have E17 := (((E7.trans E8).trans E9).trans E10).wroteAt (((((((((E1.trans E2).trans E3).trans E4).trans E5).trans E6).trans E7).trans E8).trans E9).trans E10) E11 K2 hz2 (by omega); have szE17 := E17.size
          have E18 := ((E8.trans E9).trans E10).wroteAt (((((((((E1.trans E2).trans E3).trans E4).trans E5).trans E6).trans E7).trans E8).trans E9).trans E10) E11 K2 hz2 (by omega); have szE18 := E18.size
          have hB1 := (hB1.ext ((((((((E2.trans E3).trans E4).trans E5).trans E6).trans E7).trans E8).trans E9).trans E10)).of_heap (K2 _ (by omega))
          have hB2 := (hB2.ext (((((((E3.trans E4).trans E5).trans E6).trans E7).trans E8).trans E9).trans E10)).of_heap (K2 _ (by omega))
          have hB3 := (hB3.ext ((((((E4.trans E5).trans E6).trans E7).trans E8).trans E9).trans E10)).of_heap (K2 _ (by omega)); have hO1 := (hO1.toB.ext ((E8.trans E9).trans E10)).wrote K2 (by omega)
          have hQ1 := (hQ1.toB.ext ((E8.trans E9).trans E10)).wrote K2 (by omega); have hB5 := (hB5.ext E10).of_heap (K2 _ (by omega)); have hO2 := hO2.toB.wrote K2 (by omega); have hQ2 := hQ2.toB.wrote K2 (by omega); refine Wo_nil ?_
          refine ⟨E16, ?_⟩; refine Wh_all (rs := [7]) (by kernel_rfl) rfl ?_; refine WhAll_cons rfl ?_ ?_; refine Wo_st2 rfl Try.sizeOf25 rfl rfl (by first | rfl | assumption) (by first | rfl | assumption) hB5 (by omega) E11 ?_
          rintro w12 E19 hB5 K3 hz3; have E20 := E12.wroteAt E11 E19 K3 hz3 (by omega); have szE20 := E20.size; have E21 := E13.wroteAt E11 E19 K3 hz3 (by omega); have szE21 := E21.size; have E22 := E14.wroteAt E11 E19 K3 hz3 (by omega)
          have szE22 := E22.size; have E23 := E15.wroteAt E11 E19 K3 hz3 (by omega); have szE23 := E23.size; have E24 := E16.wroteAt E11 E19 K3 hz3 (by omega); have szE24 := E24.size; have E25 := E17.wroteAt E11 E19 K3 hz3 (by omega)
          have szE25 := E25.size; have E26 := E18.wroteAt E11 E19 K3 hz3 (by omega); have szE26 := E26.size; have hB4 := hB4.of_heap (K3 _ (by omega)); have hB1 := hB1.of_heap (K3 _ (by omega)); have hB2 := hB2.of_heap (K3 _ (by omega))
          have hB3 := hB3.of_heap (K3 _ (by omega)); have hO1 := hO1.wrote K3 (by omega); have hQ1 := hQ1.wrote K3 (by omega); have hO2 := hO2.wrote K3 (by omega); have hQ2 := hQ2.wrote K3 (by omega); refine Wo_nil ?_; refine ⟨E24, ?_⟩
          refine Wh_done (by kernel_rfl) ?_; rotate_left; exact WhAll_nil; exact WhAll_nil; exact WhAll_nil; exact WhAll_nil; refine WhAll_cons rfl ?_ ?_; refine Wo_alloc2 rfl flat25 ?_; rintro b4 w8 hb6 E8 hB4; have hlb4 := hB4.lt
          have hs8 := E8.size; refine Wo_nil ?_; refine ⟨((E6.trans E7).trans E8), ?_⟩; refine Wh_all (rs := [3, 4]) (by kernel_rfl) rfl ?_; refine WhAll_cons rfl ?_ ?_
          refine Wo_call rfl (opc1 (a := .agg _) Try.call55 rfl) (k4 _ _ _ ((Mono.mono (((((((E1.trans E2).trans E3).trans E4).trans E5).trans E6).trans E7).trans E8) h3)) ((Mono.mono (((((((E1.trans E2).trans E3).trans E4).trans E5).trans E6).trans E7).trans E8) h4))) ?_
          rintro _ w9 ⟨u4, q2, rfl, E9, hO2, hQ2, hd2⟩; have icu4 := OwnedB.isC (Owned.toB hO2); have cpu4 := OwnedB.capOk (Owned.toB hO2); have icq2 := OwnedB.isC (Owned.toB hQ2); have cpq2 := OwnedB.capOk (Owned.toB hQ2)
          have hs9 := E9.size; refine Wo_nil ?_; refine ⟨(((E6.trans E7).trans E8).trans E9), ?_⟩; refine Wh_all (rs := [4]) (by kernel_rfl) rfl ?_; refine WhAll_cons rfl ?_ ?_; refine Wo_alloc2 rfl flat25 ?_; rintro b5 w10 hb7 E10 hB5
          have hlb5 := hB5.lt; have hs10 := E10.size; refine Wo_nil ?_; refine ⟨((((E6.trans E7).trans E8).trans E9).trans E10), ?_⟩; refine Wh_all (rs := [6]) (by kernel_rfl) rfl ?_; refine WhAll_cons rfl ?_ ?_
          refine Wo_st2 rfl Try.sizeOf25 rfl rfl (by first | rfl | assumption) (by first | rfl | assumption) hB5 (by omega) (((((((((E1.trans E2).trans E3).trans E4).trans E5).trans E6).trans E7).trans E8).trans E9).trans E10) ?_
          rintro w11 E11 hB5 K2 hz2
          have E12 := ((((((((E2.trans E3).trans E4).trans E5).trans E6).trans E7).trans E8).trans E9).trans E10).wroteAt (((((((((E1.trans E2).trans E3).trans E4).trans E5).trans E6).trans E7).trans E8).trans E9).trans E10) E11 K2 hz2 (by omega)
          have szE12 := E12.size
          have E13 := (((((((E3.trans E4).trans E5).trans E6).trans E7).trans E8).trans E9).trans E10).wroteAt (((((((((E1.trans E2).trans E3).trans E4).trans E5).trans E6).trans E7).trans E8).trans E9).trans E10) E11 K2 hz2 (by omega)
          have szE13 := E13.size
          have E14 := ((((((E4.trans E5).trans E6).trans E7).trans E8).trans E9).trans E10).wroteAt (((((((((E1.trans E2).trans E3).trans E4).trans E5).trans E6).trans E7).trans E8).trans E9).trans E10) E11 K2 hz2 (by omega)
          have szE14 := E14.size; have E15 := (((((E5.trans E6).trans E7).trans E8).trans E9).trans E10).wroteAt (((((((((E1.trans E2).trans E3).trans E4).trans E5).trans E6).trans E7).trans E8).trans E9).trans E10) E11 K2 hz2 (by omega)
          have szE15 := E15.size; have E16 := ((((E6.trans E7).trans E8).trans E9).trans E10).wroteAt (((((((((E1.trans E2).trans E3).trans E4).trans E5).trans E6).trans E7).trans E8).trans E9).trans E10) E11 K2 hz2 (by omega)
          have szE16 := E16.size; have E17 := (((E7.trans E8).trans E9).trans E10).wroteAt (((((((((E1.trans E2).trans E3).trans E4).trans E5).trans E6).trans E7).trans E8).trans E9).trans E10) E11 K2 hz2 (by omega); have szE17 := E17.size
          have E18 := ((E8.trans E9).trans E10).wroteAt (((((((((E1.trans E2).trans E3).trans E4).trans E5).trans E6).trans E7).trans E8).trans E9).trans E10) E11 K2 hz2 (by omega); have szE18 := E18.size
          have E19 := (E9.trans E10).wroteAt (((((((((E1.trans E2).trans E3).trans E4).trans E5).trans E6).trans E7).trans E8).trans E9).trans E10) E11 K2 hz2 (by omega); have szE19 := E19.size
          have E20 := E10.wroteAt (((((((((E1.trans E2).trans E3).trans E4).trans E5).trans E6).trans E7).trans E8).trans E9).trans E10) E11 K2 hz2 (by omega); have szE20 := E20.size
          have hB1 := (hB1.ext ((((((((E2.trans E3).trans E4).trans E5).trans E6).trans E7).trans E8).trans E9).trans E10)).of_heap (K2 _ (by omega))
          have hB2 := (hB2.ext (((((((E3.trans E4).trans E5).trans E6).trans E7).trans E8).trans E9).trans E10)).of_heap (K2 _ (by omega))
          have hB3 := (hB3.ext ((((((E4.trans E5).trans E6).trans E7).trans E8).trans E9).trans E10)).of_heap (K2 _ (by omega)); have hO1 := (hO1.toB.ext ((E8.trans E9).trans E10)).wrote K2 (by omega)
          have hQ1 := (hQ1.toB.ext ((E8.trans E9).trans E10)).wrote K2 (by omega); have hB4 := (hB4.ext (E9.trans E10)).of_heap (K2 _ (by omega)); have hO2 := (hO2.toB.ext E10).wrote K2 (by omega)
          have hQ2 := (hQ2.toB.ext E10).wrote K2 (by omega); refine Wo_nil ?_; refine ⟨E16, ?_⟩; refine Wh_all (rs := [7]) (by kernel_rfl) rfl ?_; refine WhAll_cons rfl ?_ ?_
          refine Wo_st2 rfl Try.sizeOf25 rfl rfl (by first | rfl | assumption) (by first | rfl | assumption) hB4 (by omega) E11 ?_; rintro w12 E21 hB4 K3 hz3; have E22 := E12.wroteAt E11 E21 K3 hz3 (by omega); have szE22 := E22.size
          have E23 := E13.wroteAt E11 E21 K3 hz3 (by omega); have szE23 := E23.size; have E24 := E14.wroteAt E11 E21 K3 hz3 (by omega); have szE24 := E24.size; have E25 := E15.wroteAt E11 E21 K3 hz3 (by omega); have szE25 := E25.size
          have E26 := E16.wroteAt E11 E21 K3 hz3 (by omega); have szE26 := E26.size; have E27 := E17.wroteAt E11 E21 K3 hz3 (by omega); have szE27 := E27.size; have E28 := E18.wroteAt E11 E21 K3 hz3 (by omega); have szE28 := E28.size
          have hB5 := hB5.of_heap (K3 _ (by omega)); have hB1 := hB1.of_heap (K3 _ (by omega)); have hB2 := hB2.of_heap (K3 _ (by omega)); have hB3 := hB3.of_heap (K3 _ (by omega)); have hO1 := hO1.wrote K3 (by omega)
          have hQ1 := hQ1.wrote K3 (by omega); have hO2 := hO2.wrote K3 (by omega); have hQ2 := hQ2.wrote K3 (by omega); refine Wo_nil ?_; refine ⟨E26, ?_⟩; refine Wh_done (by kernel_rfl) ?_; rotate_left; exact WhAll_nil; exact WhAll_nil
          exact WhAll_nil; refine WhAll_cons rfl ?_ ?_; refine Wo_alloc2 rfl flat25 ?_; rintro b5 w9 hb7 E9 hB5; have hlb5 := hB5.lt; have hs9 := E9.size; refine Wo_nil ?_; refine ⟨(((E6.trans E7).trans E8).trans E9), ?_⟩
          refine Wh_all (rs := [3]) (by kernel_rfl) rfl ?_; refine WhAll_cons rfl ?_ ?_
          refine Wo_call rfl (opc1 (a := .agg _) Try.call55 rfl) (k4 _ _ _ ((Mono.mono ((((((((E1.trans E2).trans E3).trans E4).trans E5).trans E6).trans E7).trans E8).trans E9) h3)) ((Mono.mono ((((((((E1.trans E2).trans E3).trans E4).trans E5).trans E6).trans E7).trans E8).trans E9) h4))) ?_
          rintro _ w10 ⟨u4, q2, rfl, E10, hO2, hQ2, hd2⟩; have icu4 := OwnedB.isC (Owned.toB hO2); have cpu4 := OwnedB.capOk (Owned.toB hO2); have icq2 := OwnedB.isC (Owned.toB hQ2); have cpq2 := OwnedB.capOk (Owned.toB hQ2)
          have hs10 := E10.size; refine Wo_nil ?_; refine ⟨((((E6.trans E7).trans E8).trans E9).trans E10), ?_⟩; refine Wh_all (rs := [6]) (by kernel_rfl) rfl ?_; refine WhAll_cons rfl ?_ ?_
          refine Wo_st2 rfl Try.sizeOf25 rfl rfl (by first | rfl | assumption) (by first | rfl | assumption) (hB5.ext E10) (by omega) (((((((((E1.trans E2).trans E3).trans E4).trans E5).trans E6).trans E7).trans E8).trans E9).trans E10) ?_
          rintro w11 E11 hB5 K2 hz2
          have E12 := ((((((((E2.trans E3).trans E4).trans E5).trans E6).trans E7).trans E8).trans E9).trans E10).wroteAt (((((((((E1.trans E2).trans E3).trans E4).trans E5).trans E6).trans E7).trans E8).trans E9).trans E10) E11 K2 hz2 (by omega)
          have szE12 := E12.size
          have E13 := (((((((E3.trans E4).trans E5).trans E6).trans E7).trans E8).trans E9).trans E10).wroteAt (((((((((E1.trans E2).trans E3).trans E4).trans E5).trans E6).trans E7).trans E8).trans E9).trans E10) E11 K2 hz2 (by omega)
          have szE13 := E13.size
          have E14 := ((((((E4.trans E5).trans E6).trans E7).trans E8).trans E9).trans E10).wroteAt (((((((((E1.trans E2).trans E3).trans E4).trans E5).trans E6).trans E7).trans E8).trans E9).trans E10) E11 K2 hz2 (by omega)
          have szE14 := E14.size; have E15 := (((((E5.trans E6).trans E7).trans E8).trans E9).trans E10).wroteAt (((((((((E1.trans E2).trans E3).trans E4).trans E5).trans E6).trans E7).trans E8).trans E9).trans E10) E11 K2 hz2 (by omega)
          have szE15 := E15.size; have E16 := ((((E6.trans E7).trans E8).trans E9).trans E10).wroteAt (((((((((E1.trans E2).trans E3).trans E4).trans E5).trans E6).trans E7).trans E8).trans E9).trans E10) E11 K2 hz2 (by omega)
          have szE16 := E16.size; have E17 := (((E7.trans E8).trans E9).trans E10).wroteAt (((((((((E1.trans E2).trans E3).trans E4).trans E5).trans E6).trans E7).trans E8).trans E9).trans E10) E11 K2 hz2 (by omega); have szE17 := E17.size
          have E18 := ((E8.trans E9).trans E10).wroteAt (((((((((E1.trans E2).trans E3).trans E4).trans E5).trans E6).trans E7).trans E8).trans E9).trans E10) E11 K2 hz2 (by omega); have szE18 := E18.size
          have E19 := (E9.trans E10).wroteAt (((((((((E1.trans E2).trans E3).trans E4).trans E5).trans E6).trans E7).trans E8).trans E9).trans E10) E11 K2 hz2 (by omega); have szE19 := E19.size
          have hB1 := (hB1.ext ((((((((E2.trans E3).trans E4).trans E5).trans E6).trans E7).trans E8).trans E9).trans E10)).of_heap (K2 _ (by omega))
          have hB2 := (hB2.ext (((((((E3.trans E4).trans E5).trans E6).trans E7).trans E8).trans E9).trans E10)).of_heap (K2 _ (by omega))
          have hB3 := (hB3.ext ((((((E4.trans E5).trans E6).trans E7).trans E8).trans E9).trans E10)).of_heap (K2 _ (by omega)); have hO1 := (hO1.toB.ext ((E8.trans E9).trans E10)).wrote K2 (by omega)
          have hQ1 := (hQ1.toB.ext ((E8.trans E9).trans E10)).wrote K2 (by omega); have hB4 := (hB4.ext (E9.trans E10)).of_heap (K2 _ (by omega)); have hO2 := hO2.toB.wrote K2 (by omega); have hQ2 := hQ2.toB.wrote K2 (by omega)
          refine Wo_nil ?_; refine ⟨E16, ?_⟩; refine Wh_all (rs := [7]) (by kernel_rfl) rfl ?_; refine WhAll_cons rfl ?_ ?_
          refine Wo_st2 rfl Try.sizeOf25 rfl rfl (by first | rfl | assumption) (by first | rfl | assumption) hB4 (by omega) E11 ?_; rintro w12 E20 hB4 K3 hz3; have E21 := E12.wroteAt E11 E20 K3 hz3 (by omega); have szE21 := E21.size
          have E22 := E13.wroteAt E11 E20 K3 hz3 (by omega); have szE22 := E22.size; have E23 := E14.wroteAt E11 E20 K3 hz3 (by omega); have szE23 := E23.size; have E24 := E15.wroteAt E11 E20 K3 hz3 (by omega); have szE24 := E24.size
          have E25 := E16.wroteAt E11 E20 K3 hz3 (by omega); have szE25 := E25.size; have E26 := E17.wroteAt E11 E20 K3 hz3 (by omega); have szE26 := E26.size; have E27 := E18.wroteAt E11 E20 K3 hz3 (by omega); have szE27 := E27.size
          have hB5 := hB5.of_heap (K3 _ (by omega)); have hB1 := hB1.of_heap (K3 _ (by omega)); have hB2 := hB2.of_heap (K3 _ (by omega)); have hB3 := hB3.of_heap (K3 _ (by omega)); have hO1 := hO1.wrote K3 (by omega)
          have hQ1 := hQ1.wrote K3 (by omega); have hO2 := hO2.wrote K3 (by omega); have hQ2 := hQ2.wrote K3 (by omega); refine Wo_nil ?_; refine ⟨E25, ?_⟩; refine Wh_done (by kernel_rfl) ?_; rotate_left; exact WhAll_nil; exact WhAll_nil
          exact WhAll_nil; exact WhAll_nil; exact WhAll_nil; refine WhAll_cons rfl ?_ ?_; refine Wo_alloc2 rfl flat25 ?_; rintro b4 w7 hb6 E7 hB4; have hlb4 := hB4.lt; have hs7 := E7.size; refine Wo_nil ?_; refine ⟨(E6.trans E7), ?_⟩
          refine Wh_all (rs := [1, 5]) (by kernel_rfl) rfl ?_; refine WhAll_cons rfl ?_ ?_
          refine Wo_call rfl (opc1 (a := .agg _) Try.call55 rfl) (k3 _ _ _ ((Mono.mono ((((((E1.trans E2).trans E3).trans E4).trans E5).trans E6).trans E7) h1)) ((Mono.mono ((((((E1.trans E2).trans E3).trans E4).trans E5).trans E6).trans E7) h2))) ?_
          rintro _ w8 ⟨u3, q1, rfl, E8, hO1, hQ1, hd1⟩; have icu3 := OwnedB.isC (Owned.toB hO1); have cpu3 := OwnedB.capOk (Owned.toB hO1); have icq1 := OwnedB.isC (Owned.toB hQ1); have cpq1 := OwnedB.capOk (Owned.toB hQ1)
          have hs8 := E8.size; refine Wo_nil ?_; refine ⟨((E6.trans E7).trans E8), ?_⟩; refine Wh_all (rs := [3, 5]) (by kernel_rfl) rfl ?_; refine WhAll_cons rfl ?_ ?_
          refine Wo_call rfl (opc1 (a := .agg _) Try.call55 rfl) (k4 _ _ _ ((Mono.mono (((((((E1.trans E2).trans E3).trans E4).trans E5).trans E6).trans E7).trans E8) h3)) ((Mono.mono (((((((E1.trans E2).trans E3).trans E4).trans E5).trans E6).trans E7).trans E8) h4))) ?_
          rintro _ w9 ⟨u4, q2, rfl, E9, hO2, hQ2, hd2⟩; have icu4 := OwnedB.isC (Owned.toB hO2); have cpu4 := OwnedB.capOk (Owned.toB hO2); have icq2 := OwnedB.isC (Owned.toB hQ2); have cpq2 := OwnedB.capOk (Owned.toB hQ2)
          have hs9 := E9.size; refine Wo_nil ?_; refine ⟨(((E6.trans E7).trans E8).trans E9), ?_⟩; refine Wh_all (rs := [5]) (by kernel_rfl) rfl ?_; refine WhAll_cons rfl ?_ ?_; refine Wo_alloc2 rfl flat25 ?_; rintro b5 w10 hb7 E10 hB5
          have hlb5 := hB5.lt; have hs10 := E10.size; refine Wo_nil ?_; refine ⟨((((E6.trans E7).trans E8).trans E9).trans E10), ?_⟩; refine Wh_all (rs := [6]) (by kernel_rfl) rfl ?_; refine WhAll_cons rfl ?_ ?_
          refine Wo_st2 rfl Try.sizeOf25 rfl rfl (by first | rfl | assumption) (by first | rfl | assumption) (hB4.ext ((E8.trans E9).trans E10)) (by omega) (((((((((E1.trans E2).trans E3).trans E4).trans E5).trans E6).trans E7).trans E8).trans E9).trans E10) ?_
          rintro w11 E11 hB4 K2 hz2
          have E12 := ((((((((E2.trans E3).trans E4).trans E5).trans E6).trans E7).trans E8).trans E9).trans E10).wroteAt (((((((((E1.trans E2).trans E3).trans E4).trans E5).trans E6).trans E7).trans E8).trans E9).trans E10) E11 K2 hz2 (by omega)
          have szE12 := E12.size
          have E13 := (((((((E3.trans E4).trans E5).trans E6).trans E7).trans E8).trans E9).trans E10).wroteAt (((((((((E1.trans E2).trans E3).trans E4).trans E5).trans E6).trans E7).trans E8).trans E9).trans E10) E11 K2 hz2 (by omega)
          have szE13 := E13.size
          have E14 := ((((((E4.trans E5).trans E6).trans E7).trans E8).trans E9).trans E10).wroteAt (((((((((E1.trans E2).trans E3).trans E4).trans E5).trans E6).trans E7).trans E8).trans E9).trans E10) E11 K2 hz2 (by omega)
          have szE14 := E14.size; have E15 := (((((E5.trans E6).trans E7).trans E8).trans E9).trans E10).wroteAt (((((((((E1.trans E2).trans E3).trans E4).trans E5).trans E6).trans E7).trans E8).trans E9).trans E10) E11 K2 hz2 (by omega)
          have szE15 := E15.size; have E16 := ((((E6.trans E7).trans E8).trans E9).trans E10).wroteAt (((((((((E1.trans E2).trans E3).trans E4).trans E5).trans E6).trans E7).trans E8).trans E9).trans E10) E11 K2 hz2 (by omega)
          have szE16 := E16.size; have E17 := (((E7.trans E8).trans E9).trans E10).wroteAt (((((((((E1.trans E2).trans E3).trans E4).trans E5).trans E6).trans E7).trans E8).trans E9).trans E10) E11 K2 hz2 (by omega); have szE17 := E17.size
          have hB1 := (hB1.ext ((((((((E2.trans E3).trans E4).trans E5).trans E6).trans E7).trans E8).trans E9).trans E10)).of_heap (K2 _ (by omega))
          have hB2 := (hB2.ext (((((((E3.trans E4).trans E5).trans E6).trans E7).trans E8).trans E9).trans E10)).of_heap (K2 _ (by omega))
          have hB3 := (hB3.ext ((((((E4.trans E5).trans E6).trans E7).trans E8).trans E9).trans E10)).of_heap (K2 _ (by omega)); have hO1 := (hO1.toB.ext (E9.trans E10)).wrote K2 (by omega)
          have hQ1 := (hQ1.toB.ext (E9.trans E10)).wrote K2 (by omega); have hO2 := (hO2.toB.ext E10).wrote K2 (by omega); have hQ2 := (hQ2.toB.ext E10).wrote K2 (by omega); have hB5 := hB5.of_heap (K2 _ (by omega)); refine Wo_nil ?_
          refine ⟨E16, ?_⟩; refine Wh_all (rs := [7]) (by kernel_rfl) rfl ?_; refine WhAll_cons rfl ?_ ?_; refine Wo_st2 rfl Try.sizeOf25 rfl rfl (by first | rfl | assumption) (by first | rfl | assumption) hB5 (by omega) E11 ?_
          rintro w12 E18 hB5 K3 hz3; have E19 := E12.wroteAt E11 E18 K3 hz3 (by omega); have szE19 := E19.size; have E20 := E13.wroteAt E11 E18 K3 hz3 (by omega); have szE20 := E20.size; have E21 := E14.wroteAt E11 E18 K3 hz3 (by omega)
          have szE21 := E21.size; have E22 := E15.wroteAt E11 E18 K3 hz3 (by omega); have szE22 := E22.size; have E23 := E16.wroteAt E11 E18 K3 hz3 (by omega); have szE23 := E23.size; have E24 := E17.wroteAt E11 E18 K3 hz3 (by omega)
          have szE24 := E24.size; have hB4 := hB4.of_heap (K3 _ (by omega)); have hB1 := hB1.of_heap (K3 _ (by omega)); have hB2 := hB2.of_heap (K3 _ (by omega)); have hB3 := hB3.of_heap (K3 _ (by omega)); have hO1 := hO1.wrote K3 (by omega)
          have hQ1 := hQ1.wrote K3 (by omega); have hO2 := hO2.wrote K3 (by omega); have hQ2 := hQ2.wrote K3 (by omega); refine Wo_nil ?_; refine ⟨E23, ?_⟩; refine Wh_done (by kernel_rfl) ?_; rotate_left; exact WhAll_nil; exact WhAll_nil
          exact WhAll_nil; refine WhAll_cons rfl ?_ ?_; refine Wo_alloc2 rfl flat25 ?_; rintro b5 w9 hb7 E9 hB5; have hlb5 := hB5.lt; have hs9 := E9.size; refine Wo_nil ?_; refine ⟨(((E6.trans E7).trans E8).trans E9), ?_⟩
          refine Wh_all (rs := [3]) (by kernel_rfl) rfl ?_; refine WhAll_cons rfl ?_ ?_
          refine Wo_call rfl (opc1 (a := .agg _) Try.call55 rfl) (k4 _ _ _ ((Mono.mono ((((((((E1.trans E2).trans E3).trans E4).trans E5).trans E6).trans E7).trans E8).trans E9) h3)) ((Mono.mono ((((((((E1.trans E2).trans E3).trans E4).trans E5).trans E6).trans E7).trans E8).trans E9) h4))) ?_
          rintro _ w10 ⟨u4, q2, rfl, E10, hO2, hQ2, hd2⟩; have icu4 := OwnedB.isC (Owned.toB hO2); have cpu4 := OwnedB.capOk (Owned.toB hO2); have icq2 := OwnedB.isC (Owned.toB hQ2); have cpq2 := OwnedB.capOk (Owned.toB hQ2)
          have hs10 := E10.size; refine Wo_nil ?_; refine ⟨((((E6.trans E7).trans E8).trans E9).trans E10), ?_⟩; refine Wh_all (rs := [6]) (by kernel_rfl) rfl ?_; refine WhAll_cons rfl ?_ ?_
          refine Wo_st2 rfl Try.sizeOf25 rfl rfl (by first | rfl | assumption) (by first | rfl | assumption) (hB4.ext ((E8.trans E9).trans E10)) (by omega) (((((((((E1.trans E2).trans E3).trans E4).trans E5).trans E6).trans E7).trans E8).trans E9).trans E10) ?_
          rintro w11 E11 hB4 K2 hz2
          have E12 := ((((((((E2.trans E3).trans E4).trans E5).trans E6).trans E7).trans E8).trans E9).trans E10).wroteAt (((((((((E1.trans E2).trans E3).trans E4).trans E5).trans E6).trans E7).trans E8).trans E9).trans E10) E11 K2 hz2 (by omega)
          have szE12 := E12.size
          have E13 := (((((((E3.trans E4).trans E5).trans E6).trans E7).trans E8).trans E9).trans E10).wroteAt (((((((((E1.trans E2).trans E3).trans E4).trans E5).trans E6).trans E7).trans E8).trans E9).trans E10) E11 K2 hz2 (by omega)
          have szE13 := E13.size
          have E14 := ((((((E4.trans E5).trans E6).trans E7).trans E8).trans E9).trans E10).wroteAt (((((((((E1.trans E2).trans E3).trans E4).trans E5).trans E6).trans E7).trans E8).trans E9).trans E10) E11 K2 hz2 (by omega)
          have szE14 := E14.size; have E15 := (((((E5.trans E6).trans E7).trans E8).trans E9).trans E10).wroteAt (((((((((E1.trans E2).trans E3).trans E4).trans E5).trans E6).trans E7).trans E8).trans E9).trans E10) E11 K2 hz2 (by omega)
          have szE15 := E15.size; have E16 := ((((E6.trans E7).trans E8).trans E9).trans E10).wroteAt (((((((((E1.trans E2).trans E3).trans E4).trans E5).trans E6).trans E7).trans E8).trans E9).trans E10) E11 K2 hz2 (by omega)
          have szE16 := E16.size; have E17 := (((E7.trans E8).trans E9).trans E10).wroteAt (((((((((E1.trans E2).trans E3).trans E4).trans E5).trans E6).trans E7).trans E8).trans E9).trans E10) E11 K2 hz2 (by omega); have szE17 := E17.size
          have hB1 := (hB1.ext ((((((((E2.trans E3).trans E4).trans E5).trans E6).trans E7).trans E8).trans E9).trans E10)).of_heap (K2 _ (by omega))
          have hB2 := (hB2.ext (((((((E3.trans E4).trans E5).trans E6).trans E7).trans E8).trans E9).trans E10)).of_heap (K2 _ (by omega))
          have hB3 := (hB3.ext ((((((E4.trans E5).trans E6).trans E7).trans E8).trans E9).trans E10)).of_heap (K2 _ (by omega)); have hO1 := (hO1.toB.ext (E9.trans E10)).wrote K2 (by omega)
          have hQ1 := (hQ1.toB.ext (E9.trans E10)).wrote K2 (by omega); have hB5 := (hB5.ext E10).of_heap (K2 _ (by omega)); have hO2 := hO2.toB.wrote K2 (by omega); have hQ2 := hQ2.toB.wrote K2 (by omega); refine Wo_nil ?_; refine ⟨E16, ?_⟩
          refine Wh_all (rs := [7]) (by kernel_rfl) rfl ?_; refine WhAll_cons rfl ?_ ?_; refine Wo_st2 rfl Try.sizeOf25 rfl rfl (by first | rfl | assumption) (by first | rfl | assumption) hB5 (by omega) E11 ?_; rintro w12 E18 hB5 K3 hz3
          have E19 := E12.wroteAt E11 E18 K3 hz3 (by omega); have szE19 := E19.size; have E20 := E13.wroteAt E11 E18 K3 hz3 (by omega); have szE20 := E20.size; have E21 := E14.wroteAt E11 E18 K3 hz3 (by omega); have szE21 := E21.size
          have E22 := E15.wroteAt E11 E18 K3 hz3 (by omega); have szE22 := E22.size; have E23 := E16.wroteAt E11 E18 K3 hz3 (by omega); have szE23 := E23.size; have E24 := E17.wroteAt E11 E18 K3 hz3 (by omega); have szE24 := E24.size
          have hB4 := hB4.of_heap (K3 _ (by omega)); have hB1 := hB1.of_heap (K3 _ (by omega)); have hB2 := hB2.of_heap (K3 _ (by omega)); have hB3 := hB3.of_heap (K3 _ (by omega)); have hO1 := hO1.wrote K3 (by omega)
          have hQ1 := hQ1.wrote K3 (by omega); have hO2 := hO2.wrote K3 (by omega); have hQ2 := hQ2.wrote K3 (by omega); refine Wo_nil ?_; refine ⟨E23, ?_⟩; refine Wh_done (by kernel_rfl) ?_; rotate_left; exact WhAll_nil; exact WhAll_nil
          exact WhAll_nil; exact WhAll_nil; refine WhAll_cons rfl ?_ ?_; refine Wo_alloc2 rfl flat25 ?_; rintro b5 w8 hb7 E8 hB5; have hlb5 := hB5.lt; have hs8 := E8.size; refine Wo_nil ?_; refine ⟨((E6.trans E7).trans E8), ?_⟩
          refine Wh_all (rs := [1]) (by kernel_rfl) rfl ?_; refine WhAll_cons rfl ?_ ?_
          refine Wo_call rfl (opc1 (a := .agg _) Try.call55 rfl) (k3 _ _ _ ((Mono.mono (((((((E1.trans E2).trans E3).trans E4).trans E5).trans E6).trans E7).trans E8) h1)) ((Mono.mono (((((((E1.trans E2).trans E3).trans E4).trans E5).trans E6).trans E7).trans E8) h2))) ?_
          rintro _ w9 ⟨u3, q1, rfl, E9, hO1, hQ1, hd1⟩; have icu3 := OwnedB.isC (Owned.toB hO1); have cpu3 := OwnedB.capOk (Owned.toB hO1); have icq1 := OwnedB.isC (Owned.toB hQ1); have cpq1 := OwnedB.capOk (Owned.toB hQ1)
          have hs9 := E9.size; refine Wo_nil ?_; refine ⟨(((E6.trans E7).trans E8).trans E9), ?_⟩; refine Wh_all (rs := [3]) (by kernel_rfl) rfl ?_; refine WhAll_cons rfl ?_ ?_
          refine Wo_call rfl (opc1 (a := .agg _) Try.call55 rfl) (k4 _ _ _ ((Mono.mono ((((((((E1.trans E2).trans E3).trans E4).trans E5).trans E6).trans E7).trans E8).trans E9) h3)) ((Mono.mono ((((((((E1.trans E2).trans E3).trans E4).trans E5).trans E6).trans E7).trans E8).trans E9) h4))) ?_
          rintro _ w10 ⟨u4, q2, rfl, E10, hO2, hQ2, hd2⟩; have icu4 := OwnedB.isC (Owned.toB hO2); have cpu4 := OwnedB.capOk (Owned.toB hO2); have icq2 := OwnedB.isC (Owned.toB hQ2); have cpq2 := OwnedB.capOk (Owned.toB hQ2)
          have hs10 := E10.size; refine Wo_nil ?_; refine ⟨((((E6.trans E7).trans E8).trans E9).trans E10), ?_⟩; refine Wh_all (rs := [6]) (by kernel_rfl) rfl ?_; refine WhAll_cons rfl ?_ ?_
          refine Wo_st2 rfl Try.sizeOf25 rfl rfl (by first | rfl | assumption) (by first | rfl | assumption) (hB4.ext ((E8.trans E9).trans E10)) (by omega) (((((((((E1.trans E2).trans E3).trans E4).trans E5).trans E6).trans E7).trans E8).trans E9).trans E10) ?_
          rintro w11 E11 hB4 K2 hz2
          have E12 := ((((((((E2.trans E3).trans E4).trans E5).trans E6).trans E7).trans E8).trans E9).trans E10).wroteAt (((((((((E1.trans E2).trans E3).trans E4).trans E5).trans E6).trans E7).trans E8).trans E9).trans E10) E11 K2 hz2 (by omega)
          have szE12 := E12.size
          have E13 := (((((((E3.trans E4).trans E5).trans E6).trans E7).trans E8).trans E9).trans E10).wroteAt (((((((((E1.trans E2).trans E3).trans E4).trans E5).trans E6).trans E7).trans E8).trans E9).trans E10) E11 K2 hz2 (by omega)
          have szE13 := E13.size
          have E14 := ((((((E4.trans E5).trans E6).trans E7).trans E8).trans E9).trans E10).wroteAt (((((((((E1.trans E2).trans E3).trans E4).trans E5).trans E6).trans E7).trans E8).trans E9).trans E10) E11 K2 hz2 (by omega)
          have szE14 := E14.size; have E15 := (((((E5.trans E6).trans E7).trans E8).trans E9).trans E10).wroteAt (((((((((E1.trans E2).trans E3).trans E4).trans E5).trans E6).trans E7).trans E8).trans E9).trans E10) E11 K2 hz2 (by omega)
          have szE15 := E15.size; have E16 := ((((E6.trans E7).trans E8).trans E9).trans E10).wroteAt (((((((((E1.trans E2).trans E3).trans E4).trans E5).trans E6).trans E7).trans E8).trans E9).trans E10) E11 K2 hz2 (by omega)
          have szE16 := E16.size; have E17 := (((E7.trans E8).trans E9).trans E10).wroteAt (((((((((E1.trans E2).trans E3).trans E4).trans E5).trans E6).trans E7).trans E8).trans E9).trans E10) E11 K2 hz2 (by omega); have szE17 := E17.size
          have hB1 := (hB1.ext ((((((((E2.trans E3).trans E4).trans E5).trans E6).trans E7).trans E8).trans E9).trans E10)).of_heap (K2 _ (by omega))
          have hB2 := (hB2.ext (((((((E3.trans E4).trans E5).trans E6).trans E7).trans E8).trans E9).trans E10)).of_heap (K2 _ (by omega))
          have hB3 := (hB3.ext ((((((E4.trans E5).trans E6).trans E7).trans E8).trans E9).trans E10)).of_heap (K2 _ (by omega)); have hB5 := (hB5.ext (E9.trans E10)).of_heap (K2 _ (by omega)); have hO1 := (hO1.toB.ext E10).wrote K2 (by omega)
          have hQ1 := (hQ1.toB.ext E10).wrote K2 (by omega); have hO2 := hO2.toB.wrote K2 (by omega); have hQ2 := hQ2.toB.wrote K2 (by omega); refine Wo_nil ?_; refine ⟨E16, ?_⟩; refine Wh_all (rs := [7]) (by kernel_rfl) rfl ?_
          refine WhAll_cons rfl ?_ ?_; refine Wo_st2 rfl Try.sizeOf25 rfl rfl (by first | rfl | assumption) (by first | rfl | assumption) hB5 (by omega) E11 ?_; rintro w12 E18 hB5 K3 hz3; have E19 := E12.wroteAt E11 E18 K3 hz3 (by omega)
          have szE19 := E19.size; have E20 := E13.wroteAt E11 E18 K3 hz3 (by omega); have szE20 := E20.size; have E21 := E14.wroteAt E11 E18 K3 hz3 (by omega); have szE21 := E21.size; have E22 := E15.wroteAt E11 E18 K3 hz3 (by omega)
          have szE22 := E22.size; have E23 := E16.wroteAt E11 E18 K3 hz3 (by omega); have szE23 := E23.size; have E24 := E17.wroteAt E11 E18 K3 hz3 (by omega); have szE24 := E24.size; have hB4 := hB4.of_heap (K3 _ (by omega))
          have hB1 := hB1.of_heap (K3 _ (by omega)); have hB2 := hB2.of_heap (K3 _ (by omega)); have hB3 := hB3.of_heap (K3 _ (by omega)); have hO1 := hO1.wrote K3 (by omega); have hQ1 := hQ1.wrote K3 (by omega)
          have hO2 := hO2.wrote K3 (by omega); have hQ2 := hQ2.wrote K3 (by omega); refine Wo_nil ?_; refine ⟨E23, ?_⟩; refine Wh_done (by kernel_rfl) ?_; rotate_left; exact WhAll_nil; exact WhAll_nil; exact WhAll_nil; exact WhAll_nil
          exact WhAll_nil; refine WhAll_cons rfl ?_ ?_; refine Wo_alloc2 rfl flat25 ?_; rintro b4 w7 hb6 E7 hB4; have hlb4 := hB4.lt; have hs7 := E7.size; refine Wo_nil ?_; refine ⟨(E6.trans E7), ?_⟩
          refine Wh_all (rs := [1, 4]) (by kernel_rfl) rfl ?_; refine WhAll_cons rfl ?_ ?_
          refine Wo_call rfl (opc1 (a := .agg _) Try.call55 rfl) (k3 _ _ _ ((Mono.mono ((((((E1.trans E2).trans E3).trans E4).trans E5).trans E6).trans E7) h1)) ((Mono.mono ((((((E1.trans E2).trans E3).trans E4).trans E5).trans E6).trans E7) h2))) ?_
          rintro _ w8 ⟨u3, q1, rfl, E8, hO1, hQ1, hd1⟩; have icu3 := OwnedB.isC (Owned.toB hO1); have cpu3 := OwnedB.capOk (Owned.toB hO1); have icq1 := OwnedB.isC (Owned.toB hQ1); have cpq1 := OwnedB.capOk (Owned.toB hQ1)
          have hs8 := E8.size; refine Wo_nil ?_; refine ⟨((E6.trans E7).trans E8), ?_⟩; refine Wh_all (rs := [3, 4]) (by kernel_rfl) rfl ?_; refine WhAll_cons rfl ?_ ?_
          refine Wo_call rfl (opc1 (a := .agg _) Try.call55 rfl) (k4 _ _ _ ((Mono.mono (((((((E1.trans E2).trans E3).trans E4).trans E5).trans E6).trans E7).trans E8) h3)) ((Mono.mono (((((((E1.trans E2).trans E3).trans E4).trans E5).trans E6).trans E7).trans E8) h4))) ?_
          rintro _ w9 ⟨u4, q2, rfl, E9, hO2, hQ2, hd2⟩; have icu4 := OwnedB.isC (Owned.toB hO2); have cpu4 := OwnedB.capOk (Owned.toB hO2); have icq2 := OwnedB.isC (Owned.toB hQ2); have cpq2 := OwnedB.capOk (Owned.toB hQ2)
          have hs9 := E9.size; refine Wo_nil ?_; refine ⟨(((E6.trans E7).trans E8).trans E9), ?_⟩; refine Wh_all (rs := [4]) (by kernel_rfl) rfl ?_; refine WhAll_cons rfl ?_ ?_; refine Wo_alloc2 rfl flat25 ?_; rintro b5 w10 hb7 E10 hB5
          have hlb5 := hB5.lt; have hs10 := E10.size; refine Wo_nil ?_; refine ⟨((((E6.trans E7).trans E8).trans E9).trans E10), ?_⟩; refine Wh_all (rs := [6]) (by kernel_rfl) rfl ?_; refine WhAll_cons rfl ?_ ?_
          refine Wo_st2 rfl Try.sizeOf25 rfl rfl (by first | rfl | assumption) (by first | rfl | assumption) hB5 (by omega) (((((((((E1.trans E2).trans E3).trans E4).trans E5).trans E6).trans E7).trans E8).trans E9).trans E10) ?_
          rintro w11 E11 hB5 K2 hz2
          have E12 := ((((((((E2.trans E3).trans E4).trans E5).trans E6).trans E7).trans E8).trans E9).trans E10).wroteAt (((((((((E1.trans E2).trans E3).trans E4).trans E5).trans E6).trans E7).trans E8).trans E9).trans E10) E11 K2 hz2 (by omega)
          have szE12 := E12.size
          have E13 := (((((((E3.trans E4).trans E5).trans E6).trans E7).trans E8).trans E9).trans E10).wroteAt (((((((((E1.trans E2).trans E3).trans E4).trans E5).trans E6).trans E7).trans E8).trans E9).trans E10) E11 K2 hz2 (by omega)
          have szE13 := E13.size
          have E14 := ((((((E4.trans E5).trans E6).trans E7).trans E8).trans E9).trans E10).wroteAt (((((((((E1.trans E2).trans E3).trans E4).trans E5).trans E6).trans E7).trans E8).trans E9).trans E10) E11 K2 hz2 (by omega)
          have szE14 := E14.size; have E15 := (((((E5.trans E6).trans E7).trans E8).trans E9).trans E10).wroteAt (((((((((E1.trans E2).trans E3).trans E4).trans E5).trans E6).trans E7).trans E8).trans E9).trans E10) E11 K2 hz2 (by omega)
          have szE15 := E15.size; have E16 := ((((E6.trans E7).trans E8).trans E9).trans E10).wroteAt (((((((((E1.trans E2).trans E3).trans E4).trans E5).trans E6).trans E7).trans E8).trans E9).trans E10) E11 K2 hz2 (by omega)
          have szE16 := E16.size; have E17 := (((E7.trans E8).trans E9).trans E10).wroteAt (((((((((E1.trans E2).trans E3).trans E4).trans E5).trans E6).trans E7).trans E8).trans E9).trans E10) E11 K2 hz2 (by omega); have szE17 := E17.size
          have E18 := ((E8.trans E9).trans E10).wroteAt (((((((((E1.trans E2).trans E3).trans E4).trans E5).trans E6).trans E7).trans E8).trans E9).trans E10) E11 K2 hz2 (by omega); have szE18 := E18.size
          have E19 := (E9.trans E10).wroteAt (((((((((E1.trans E2).trans E3).trans E4).trans E5).trans E6).trans E7).trans E8).trans E9).trans E10) E11 K2 hz2 (by omega); have szE19 := E19.size
          have E20 := E10.wroteAt (((((((((E1.trans E2).trans E3).trans E4).trans E5).trans E6).trans E7).trans E8).trans E9).trans E10) E11 K2 hz2 (by omega); have szE20 := E20.size
          have hB1 := (hB1.ext ((((((((E2.trans E3).trans E4).trans E5).trans E6).trans E7).trans E8).trans E9).trans E10)).of_heap (K2 _ (by omega))
          have hB2 := (hB2.ext (((((((E3.trans E4).trans E5).trans E6).trans E7).trans E8).trans E9).trans E10)).of_heap (K2 _ (by omega))
          have hB3 := (hB3.ext ((((((E4.trans E5).trans E6).trans E7).trans E8).trans E9).trans E10)).of_heap (K2 _ (by omega)); have hB4 := (hB4.ext ((E8.trans E9).trans E10)).of_heap (K2 _ (by omega))
          have hO1 := (hO1.toB.ext (E9.trans E10)).wrote K2 (by omega); have hQ1 := (hQ1.toB.ext (E9.trans E10)).wrote K2 (by omega); have hO2 := (hO2.toB.ext E10).wrote K2 (by omega); have hQ2 := (hQ2.toB.ext E10).wrote K2 (by omega)
          refine Wo_nil ?_; refine ⟨E16, ?_⟩; refine Wh_all (rs := [7]) (by kernel_rfl) rfl ?_; refine WhAll_cons rfl ?_ ?_
          refine Wo_st2 rfl Try.sizeOf25 rfl rfl (by first | rfl | assumption) (by first | rfl | assumption) hB4 (by omega) E11 ?_; rintro w12 E21 hB4 K3 hz3; have E22 := E12.wroteAt E11 E21 K3 hz3 (by omega); have szE22 := E22.size
          have E23 := E13.wroteAt E11 E21 K3 hz3 (by omega); have szE23 := E23.size; have E24 := E14.wroteAt E11 E21 K3 hz3 (by omega); have szE24 := E24.size; have E25 := E15.wroteAt E11 E21 K3 hz3 (by omega); have szE25 := E25.size
          have E26 := E16.wroteAt E11 E21 K3 hz3 (by omega); have szE26 := E26.size; have E27 := E17.wroteAt E11 E21 K3 hz3 (by omega); have szE27 := E27.size; have hB5 := hB5.of_heap (K3 _ (by omega))
          have hB1 := hB1.of_heap (K3 _ (by omega)); have hB2 := hB2.of_heap (K3 _ (by omega)); have hB3 := hB3.of_heap (K3 _ (by omega)); have hO1 := hO1.wrote K3 (by omega); have hQ1 := hQ1.wrote K3 (by omega)
          have hO2 := hO2.wrote K3 (by omega); have hQ2 := hQ2.wrote K3 (by omega); refine Wo_nil ?_; refine ⟨E26, ?_⟩; refine Wh_done (by kernel_rfl) ?_; rotate_left; exact WhAll_nil; exact WhAll_nil; exact WhAll_nil
          refine WhAll_cons rfl ?_ ?_; refine Wo_alloc2 rfl flat25 ?_; rintro b5 w9 hb7 E9 hB5; have hlb5 := hB5.lt; have hs9 := E9.size; refine Wo_nil ?_; refine ⟨(((E6.trans E7).trans E8).trans E9), ?_⟩
          refine Wh_all (rs := [3]) (by kernel_rfl) rfl ?_; refine WhAll_cons rfl ?_ ?_
          refine Wo_call rfl (opc1 (a := .agg _) Try.call55 rfl) (k4 _ _ _ ((Mono.mono ((((((((E1.trans E2).trans E3).trans E4).trans E5).trans E6).trans E7).trans E8).trans E9) h3)) ((Mono.mono ((((((((E1.trans E2).trans E3).trans E4).trans E5).trans E6).trans E7).trans E8).trans E9) h4))) ?_
          rintro _ w10 ⟨u4, q2, rfl, E10, hO2, hQ2, hd2⟩; have icu4 := OwnedB.isC (Owned.toB hO2); have cpu4 := OwnedB.capOk (Owned.toB hO2); have icq2 := OwnedB.isC (Owned.toB hQ2); have cpq2 := OwnedB.capOk (Owned.toB hQ2)
          have hs10 := E10.size; refine Wo_nil ?_; refine ⟨((((E6.trans E7).trans E8).trans E9).trans E10), ?_⟩; refine Wh_all (rs := [6]) (by kernel_rfl) rfl ?_; refine WhAll_cons rfl ?_ ?_
          refine Wo_st2 rfl Try.sizeOf25 rfl rfl (by first | rfl | assumption) (by first | rfl | assumption) (hB5.ext E10) (by omega) (((((((((E1.trans E2).trans E3).trans E4).trans E5).trans E6).trans E7).trans E8).trans E9).trans E10) ?_
          rintro w11 E11 hB5 K2 hz2
          have E12 := ((((((((E2.trans E3).trans E4).trans E5).trans E6).trans E7).trans E8).trans E9).trans E10).wroteAt (((((((((E1.trans E2).trans E3).trans E4).trans E5).trans E6).trans E7).trans E8).trans E9).trans E10) E11 K2 hz2 (by omega)
          have szE12 := E12.size
          have E13 := (((((((E3.trans E4).trans E5).trans E6).trans E7).trans E8).trans E9).trans E10).wroteAt (((((((((E1.trans E2).trans E3).trans E4).trans E5).trans E6).trans E7).trans E8).trans E9).trans E10) E11 K2 hz2 (by omega)
          have szE13 := E13.size
          have E14 := ((((((E4.trans E5).trans E6).trans E7).trans E8).trans E9).trans E10).wroteAt (((((((((E1.trans E2).trans E3).trans E4).trans E5).trans E6).trans E7).trans E8).trans E9).trans E10) E11 K2 hz2 (by omega)
          have szE14 := E14.size; have E15 := (((((E5.trans E6).trans E7).trans E8).trans E9).trans E10).wroteAt (((((((((E1.trans E2).trans E3).trans E4).trans E5).trans E6).trans E7).trans E8).trans E9).trans E10) E11 K2 hz2 (by omega)
          have szE15 := E15.size; have E16 := ((((E6.trans E7).trans E8).trans E9).trans E10).wroteAt (((((((((E1.trans E2).trans E3).trans E4).trans E5).trans E6).trans E7).trans E8).trans E9).trans E10) E11 K2 hz2 (by omega)
          have szE16 := E16.size; have E17 := (((E7.trans E8).trans E9).trans E10).wroteAt (((((((((E1.trans E2).trans E3).trans E4).trans E5).trans E6).trans E7).trans E8).trans E9).trans E10) E11 K2 hz2 (by omega); have szE17 := E17.size
          have E18 := ((E8.trans E9).trans E10).wroteAt (((((((((E1.trans E2).trans E3).trans E4).trans E5).trans E6).trans E7).trans E8).trans E9).trans E10) E11 K2 hz2 (by omega); have szE18 := E18.size
          have E19 := (E9.trans E10).wroteAt (((((((((E1.trans E2).trans E3).trans E4).trans E5).trans E6).trans E7).trans E8).trans E9).trans E10) E11 K2 hz2 (by omega); have szE19 := E19.size
          have hB1 := (hB1.ext ((((((((E2.trans E3).trans E4).trans E5).trans E6).trans E7).trans E8).trans E9).trans E10)).of_heap (K2 _ (by omega))
          have hB2 := (hB2.ext (((((((E3.trans E4).trans E5).trans E6).trans E7).trans E8).trans E9).trans E10)).of_heap (K2 _ (by omega))
          have hB3 := (hB3.ext ((((((E4.trans E5).trans E6).trans E7).trans E8).trans E9).trans E10)).of_heap (K2 _ (by omega)); have hB4 := (hB4.ext ((E8.trans E9).trans E10)).of_heap (K2 _ (by omega))
          have hO1 := (hO1.toB.ext (E9.trans E10)).wrote K2 (by omega); have hQ1 := (hQ1.toB.ext (E9.trans E10)).wrote K2 (by omega); have hO2 := hO2.toB.wrote K2 (by omega); have hQ2 := hQ2.toB.wrote K2 (by omega); refine Wo_nil ?_
          refine ⟨E16, ?_⟩; refine Wh_all (rs := [7]) (by kernel_rfl) rfl ?_; refine WhAll_cons rfl ?_ ?_; refine Wo_st2 rfl Try.sizeOf25 rfl rfl (by first | rfl | assumption) (by first | rfl | assumption) hB4 (by omega) E11 ?_
          rintro w12 E20 hB4 K3 hz3; have E21 := E12.wroteAt E11 E20 K3 hz3 (by omega); have szE21 := E21.size; have E22 := E13.wroteAt E11 E20 K3 hz3 (by omega); have szE22 := E22.size; have E23 := E14.wroteAt E11 E20 K3 hz3 (by omega)
          have szE23 := E23.size; have E24 := E15.wroteAt E11 E20 K3 hz3 (by omega); have szE24 := E24.size; have E25 := E16.wroteAt E11 E20 K3 hz3 (by omega); have szE25 := E25.size; have E26 := E17.wroteAt E11 E20 K3 hz3 (by omega)
          have szE26 := E26.size; have hB5 := hB5.of_heap (K3 _ (by omega)); have hB1 := hB1.of_heap (K3 _ (by omega)); have hB2 := hB2.of_heap (K3 _ (by omega)); have hB3 := hB3.of_heap (K3 _ (by omega)); have hO1 := hO1.wrote K3 (by omega)
          have hQ1 := hQ1.wrote K3 (by omega); have hO2 := hO2.wrote K3 (by omega); have hQ2 := hQ2.wrote K3 (by omega); refine Wo_nil ?_; refine ⟨E25, ?_⟩; refine Wh_done (by kernel_rfl) ?_; rotate_left; exact WhAll_nil; exact WhAll_nil
          exact WhAll_nil; exact WhAll_nil; refine WhAll_cons rfl ?_ ?_; refine Wo_alloc2 rfl flat25 ?_; rintro b5 w8 hb7 E8 hB5; have hlb5 := hB5.lt; have hs8 := E8.size; refine Wo_nil ?_; refine ⟨((E6.trans E7).trans E8), ?_⟩
          refine Wh_all (rs := [1]) (by kernel_rfl) rfl ?_; refine WhAll_cons rfl ?_ ?_
          refine Wo_call rfl (opc1 (a := .agg _) Try.call55 rfl) (k3 _ _ _ ((Mono.mono (((((((E1.trans E2).trans E3).trans E4).trans E5).trans E6).trans E7).trans E8) h1)) ((Mono.mono (((((((E1.trans E2).trans E3).trans E4).trans E5).trans E6).trans E7).trans E8) h2))) ?_
          rintro _ w9 ⟨u3, q1, rfl, E9, hO1, hQ1, hd1⟩; have icu3 := OwnedB.isC (Owned.toB hO1); have cpu3 := OwnedB.capOk (Owned.toB hO1); have icq1 := OwnedB.isC (Owned.toB hQ1); have cpq1 := OwnedB.capOk (Owned.toB hQ1)
          have hs9 := E9.size; refine Wo_nil ?_; refine ⟨(((E6.trans E7).trans E8).trans E9), ?_⟩; refine Wh_all (rs := [3]) (by kernel_rfl) rfl ?_; refine WhAll_cons rfl ?_ ?_
          refine Wo_call rfl (opc1 (a := .agg _) Try.call55 rfl) (k4 _ _ _ ((Mono.mono ((((((((E1.trans E2).trans E3).trans E4).trans E5).trans E6).trans E7).trans E8).trans E9) h3)) ((Mono.mono ((((((((E1.trans E2).trans E3).trans E4).trans E5).trans E6).trans E7).trans E8).trans E9) h4))) ?_
          rintro _ w10 ⟨u4, q2, rfl, E10, hO2, hQ2, hd2⟩; have icu4 := OwnedB.isC (Owned.toB hO2); have cpu4 := OwnedB.capOk (Owned.toB hO2); have icq2 := OwnedB.isC (Owned.toB hQ2); have cpq2 := OwnedB.capOk (Owned.toB hQ2)
          have hs10 := E10.size; refine Wo_nil ?_; refine ⟨((((E6.trans E7).trans E8).trans E9).trans E10), ?_⟩; refine Wh_all (rs := [6]) (by kernel_rfl) rfl ?_; refine WhAll_cons rfl ?_ ?_
          refine Wo_st2 rfl Try.sizeOf25 rfl rfl (by first | rfl | assumption) (by first | rfl | assumption) (hB5.ext (E9.trans E10)) (by omega) (((((((((E1.trans E2).trans E3).trans E4).trans E5).trans E6).trans E7).trans E8).trans E9).trans E10) ?_
          rintro w11 E11 hB5 K2 hz2
          have E12 := ((((((((E2.trans E3).trans E4).trans E5).trans E6).trans E7).trans E8).trans E9).trans E10).wroteAt (((((((((E1.trans E2).trans E3).trans E4).trans E5).trans E6).trans E7).trans E8).trans E9).trans E10) E11 K2 hz2 (by omega)
          have szE12 := E12.size
          have E13 := (((((((E3.trans E4).trans E5).trans E6).trans E7).trans E8).trans E9).trans E10).wroteAt (((((((((E1.trans E2).trans E3).trans E4).trans E5).trans E6).trans E7).trans E8).trans E9).trans E10) E11 K2 hz2 (by omega)
          have szE13 := E13.size
          have E14 := ((((((E4.trans E5).trans E6).trans E7).trans E8).trans E9).trans E10).wroteAt (((((((((E1.trans E2).trans E3).trans E4).trans E5).trans E6).trans E7).trans E8).trans E9).trans E10) E11 K2 hz2 (by omega)
          have szE14 := E14.size; have E15 := (((((E5.trans E6).trans E7).trans E8).trans E9).trans E10).wroteAt (((((((((E1.trans E2).trans E3).trans E4).trans E5).trans E6).trans E7).trans E8).trans E9).trans E10) E11 K2 hz2 (by omega)
          have szE15 := E15.size; have E16 := ((((E6.trans E7).trans E8).trans E9).trans E10).wroteAt (((((((((E1.trans E2).trans E3).trans E4).trans E5).trans E6).trans E7).trans E8).trans E9).trans E10) E11 K2 hz2 (by omega)
          have szE16 := E16.size; have E17 := (((E7.trans E8).trans E9).trans E10).wroteAt (((((((((E1.trans E2).trans E3).trans E4).trans E5).trans E6).trans E7).trans E8).trans E9).trans E10) E11 K2 hz2 (by omega); have szE17 := E17.size
          have E18 := ((E8.trans E9).trans E10).wroteAt (((((((((E1.trans E2).trans E3).trans E4).trans E5).trans E6).trans E7).trans E8).trans E9).trans E10) E11 K2 hz2 (by omega); have szE18 := E18.size
          have hB1 := (hB1.ext ((((((((E2.trans E3).trans E4).trans E5).trans E6).trans E7).trans E8).trans E9).trans E10)).of_heap (K2 _ (by omega))
          have hB2 := (hB2.ext (((((((E3.trans E4).trans E5).trans E6).trans E7).trans E8).trans E9).trans E10)).of_heap (K2 _ (by omega))
          have hB3 := (hB3.ext ((((((E4.trans E5).trans E6).trans E7).trans E8).trans E9).trans E10)).of_heap (K2 _ (by omega)); have hB4 := (hB4.ext ((E8.trans E9).trans E10)).of_heap (K2 _ (by omega))
          have hO1 := (hO1.toB.ext E10).wrote K2 (by omega); have hQ1 := (hQ1.toB.ext E10).wrote K2 (by omega); have hO2 := hO2.toB.wrote K2 (by omega); have hQ2 := hQ2.toB.wrote K2 (by omega); refine Wo_nil ?_; refine ⟨E16, ?_⟩
          refine Wh_all (rs := [7]) (by kernel_rfl) rfl ?_; refine WhAll_cons rfl ?_ ?_; refine Wo_st2 rfl Try.sizeOf25 rfl rfl (by first | rfl | assumption) (by first | rfl | assumption) hB4 (by omega) E11 ?_; rintro w12 E19 hB4 K3 hz3
          have E20 := E12.wroteAt E11 E19 K3 hz3 (by omega); have szE20 := E20.size; have E21 := E13.wroteAt E11 E19 K3 hz3 (by omega); have szE21 := E21.size; have E22 := E14.wroteAt E11 E19 K3 hz3 (by omega); have szE22 := E22.size
          have E23 := E15.wroteAt E11 E19 K3 hz3 (by omega); have szE23 := E23.size; have E24 := E16.wroteAt E11 E19 K3 hz3 (by omega); have szE24 := E24.size; have E25 := E17.wroteAt E11 E19 K3 hz3 (by omega); have szE25 := E25.size
          have hB5 := hB5.of_heap (K3 _ (by omega)); have hB1 := hB1.of_heap (K3 _ (by omega)); have hB2 := hB2.of_heap (K3 _ (by omega)); have hB3 := hB3.of_heap (K3 _ (by omega)); have hO1 := hO1.wrote K3 (by omega)
          have hQ1 := hQ1.wrote K3 (by omega); have hO2 := hO2.wrote K3 (by omega); have hQ2 := hQ2.wrote K3 (by omega); refine Wo_nil ?_; refine ⟨E24, ?_⟩; refine Wh_done (by kernel_rfl) ?_; rotate_left; exact WhAll_nil; exact WhAll_nil
          exact WhAll_nil; exact WhAll_nil; exact WhAll_nil; exact WhAll_nil
        all_goals
          first
          | refine ⟨(b4, b5, u3, q1, u4, q2), ⟨rfl, rfl, trivial⟩, by repeat (first | with_reducible exact Same.refl | refine Same.upd rfl ?_ | refine Same.upds rfl ?_ | refine Same.mix rfl ?_), ?_⟩
          | refine ⟨(b5, b4, u3, q1, u4, q2), ⟨rfl, rfl, trivial⟩, by repeat (first | with_reducible exact Same.refl | refine Same.upd rfl ?_ | refine Same.upds rfl ?_ | refine Same.mix rfl ?_), ?_⟩
          exact ⟨by assumption, by assumption, by assumption, hO1.read, hQ1.read, hO2.read, hQ2.read⟩
      clear heldS k3 k4
      rintro ⟨b6, b7, x1, x2, y1, y2⟩ ρy w20 ⟨E20, hB6, hB7, i1, i2, i3, i4⟩
      by_cases hc : (shL f).length ≤ 1 ∧ (shL g).length ≤ 1 ∧ L ≤ 5
      · rw [if_pos hc]
        by_cases hnm : (shR f).length = (shR g).length
        · have hL' : L = (shR f).length := by rw [← hL]; exact if_pos hnm
          have hnm' : ((shR f).length : Int) = ((shR g).length : Int) := by omega
          focus
            have szE20 := E20.size; have szE5 := E5.size; have szE4 := E4.size; have szE3 := E3.size; have szE2 := E2.size; have szE1 := E1.size; refine W_seq ?_; refine W_draw mixed (by kernel_rfl) rfl ?_
            refine Wq_o rfl (fun _ _ => opv_fieldAddr Try.underlying25 rfl rfl Try.sizeOf23 rfl) ?_; refine Wq_o (v := x2) rfl (fun w' hw' => opv_load Try.isAgg23 rfl ((hB6.ext hw').cell rfl)) ?_
            refine Wq_o rfl (fun _ _ => opv_len Try.underlying23 rfl i2) ?_; refine Wq_o rfl (fun _ _ => opv_fieldAddr Try.underlying25 rfl rfl Try.sizeOf23 rfl) ?_
            refine Wq_o (v := y2) rfl (fun w' hw' => opv_load Try.isAgg23 rfl ((hB7.ext hw').cell rfl)) ?_; refine Wq_o rfl (fun _ _ => opv_len Try.underlying23 rfl i4) ?_; refine Wq_o rfl (fun _ _ => opv_assign (v := .int _ _) rfl) ?_
            refine Wq_o rfl (fun _ _ => opv_assign (v := .int _ _) rfl) ?_; refine Wq_nil (fun w6 E6 => ?_); have hs6 := E6.size; refine W_seq ?_; refine W_region rfl ?_; refine Wo rfl (opv_move (v := .int _ _) rfl) ?_
            refine Wo rfl (opv_move (v := .int _ _) rfl) ?_; refine Wo rfl (opv_mul rfl rfl (by omega)) ?_; refine Wo rfl (opv_assign (v := .int _ _) rfl) ?_; refine Wo_nil ?_; refine W_seq ?_; refine W_seq ?_; refine W_region rfl ?_
            refine Wo rfl (opv_move (v := .int _ _) rfl) ?_; refine Wo rfl (opv_move (v := .int _ _) rfl) ?_; refine Wo rfl (opv_eql rfl rfl) ?_; refine Wo_nil ?_; refine W_cond_dec rfl (fun h7 => ?_) (fun h7 => ?_); refine W_region rfl ?_
            refine Wo rfl (opv_move (v := .int _ _) rfl) ?_; refine Wo rfl (opv_assign (v := .int _ _) rfl) ?_; refine Wo_nil ?_; refine W_seq ?_; refine W_seq ?_; refine W_region rfl ?_
            refine Wo rfl (opv_fieldAddr Try.underlying25 rfl rfl Try.sizeOf23 rfl) ?_; refine Wo (v := x1) rfl (opv_load Try.isAgg23 rfl ((hB6.ext E6).cell rfl)) ?_; refine Wo rfl (opv_len Try.underlying23 rfl i1) ?_
            refine Wo rfl (opv_gtr rfl rfl) ?_; refine Wo_split_dec rfl (opv_move (v := .bool _) rfl) (fun h8 => ?_) (fun h8 => ?_); (exfalso; omega); refine Wo rfl (opv_fieldAddr Try.underlying25 rfl rfl Try.sizeOf23 rfl) ?_
            refine Wo (v := y1) rfl (opv_load Try.isAgg23 rfl ((hB7.ext E6).cell rfl)) ?_; refine Wo rfl (opv_len Try.underlying23 rfl i3) ?_; refine Wo rfl (opv_gtr rfl rfl) ?_; refine Wo rfl (opv_pick_f (v := .bool _) rfl rfl) ?_
            refine Wo_split_dec rfl (opv_move (v := .bool _) rfl) (fun h9 => ?_) (fun h9 => ?_); (exfalso; omega); refine Wo rfl (opv_move (v := .int _ _) rfl) ?_; refine Wo rfl (opv_gtr rfl rfl) ?_
            refine Wo rfl (opv_pick_f (v := .bool _) rfl rfl) ?_; refine Wo_nil ?_; refine W_cond_dec rfl (fun h10 => ?_) (fun h10 => ?_); (exfalso; omega); refine W_skip ?_; refine W_seq ?_; refine W_region rfl ?_
            refine Wo rfl (opv_fieldAddr Try.underlying25 rfl rfl Try.sizeOf23 rfl) ?_; refine Wo (v := x1) rfl (opv_load Try.isAgg23 rfl ((hB6.ext E6).cell rfl)) ?_; refine Wo rfl (opv_len Try.underlying23 rfl i1) ?_
            refine Wo rfl (opv_fieldAddr Try.underlying25 rfl rfl Try.sizeOf23 rfl) ?_; refine Wo (v := y1) rfl (opv_load Try.isAgg23 rfl ((hB7.ext E6).cell rfl)) ?_; refine Wo rfl (opv_len Try.underlying23 rfl i3) ?_
            refine Wo rfl (opv_max rfl rfl) ?_; refine Wo rfl (opv_mul rfl rfl (by omega)) ?_; refine Wo rfl (opv_move (v := .int _ _) rfl) ?_; refine Wo rfl (opv_mul rfl rfl (by omega)) ?_; refine Wo rfl (opv_makeFunc rfl rfl) ?_
            refine Wo_call rfl (opc3 (a := .int _ _) (b := .int _ _) (c := .func _ _ _) Try.call61 rfl rfl rfl) (hsb3 _ _ _ _ _ _ _ _ _ ((hB6.ext E6)) ((hB7.ext E6)) ((Mono.mono E6 i1)) ((Mono.mono E6 i2)) ((Mono.mono E6 i3)) ((Mono.mono E6 i4)) (by omega) (by omega) (by omega)) ?_
            rintro _ w7 ⟨u3, q1, rfl, E7, hO1, hQ1, hd1⟩; have icu3 := OwnedB.isC (Owned.toB hO1); have cpu3 := OwnedB.capOk (Owned.toB hO1); have icq1 := OwnedB.isC (Owned.toB hQ1); have cpq1 := OwnedB.capOk (Owned.toB hQ1)
            have hs7 := E7.size
            refine Wo_st2 rfl Try.sizeOf25 rfl rfl (by first | rfl | assumption) (by first | rfl | assumption) (hB3.ext ((((E4.trans E5).trans E20).trans E6).trans E7)) (by omega) (((((((E1.trans E2).trans E3).trans E4).trans E5).trans E20).trans E6).trans E7) ?_
            rintro w8 E8 hB3 K1 hz1; have E9 := ((((((E2.trans E3).trans E4).trans E5).trans E20).trans E6).trans E7).wroteAt (((((((E1.trans E2).trans E3).trans E4).trans E5).trans E20).trans E6).trans E7) E8 K1 hz1 (by omega)
            have szE9 := E9.size; have E10 := (((((E3.trans E4).trans E5).trans E20).trans E6).trans E7).wroteAt (((((((E1.trans E2).trans E3).trans E4).trans E5).trans E20).trans E6).trans E7) E8 K1 hz1 (by omega); have szE10 := E10.size
            have hB1 := (hB1.ext ((((((E2.trans E3).trans E4).trans E5).trans E20).trans E6).trans E7)).of_heap (K1 _ (by omega)); have hB2 := (hB2.ext (((((E3.trans E4).trans E5).trans E20).trans E6).trans E7)).of_heap (K1 _ (by omega))
            have hO1 := hO1.toB.wrote K1 (by omega); have hQ1 := hQ1.toB.wrote K1 (by omega); refine Wo rfl (opv_assign (v := .bool _) rfl) ?_; refine Wo_nil ?_; refine W_ret ?_; rotate_left; contradiction
          all_goals exact ⟨_, _, _, rfl, by assumption, _, _, rfl, by assumption, hO1.o.mono (by omega), hQ1.o.mono (by omega), hd1⟩
        · have hL' : L = (shR f).length * (shR g).length := by rw [← hL]; exact if_neg hnm
          have hnm' : ¬ ((shR f).length : Int) = ((shR g).length : Int) := by omega
          focus
            have szE20 := E20.size; have szE5 := E5.size; have szE4 := E4.size; have szE3 := E3.size; have szE2 := E2.size; have szE1 := E1.size; refine W_seq ?_; refine W_draw mixed (by kernel_rfl) rfl ?_
            refine Wq_o rfl (fun _ _ => opv_fieldAddr Try.underlying25 rfl rfl Try.sizeOf23 rfl) ?_; refine Wq_o (v := x2) rfl (fun w' hw' => opv_load Try.isAgg23 rfl ((hB6.ext hw').cell rfl)) ?_
            refine Wq_o rfl (fun _ _ => opv_len Try.underlying23 rfl i2) ?_; refine Wq_o rfl (fun _ _ => opv_fieldAddr Try.underlying25 rfl rfl Try.sizeOf23 rfl) ?_
            refine Wq_o (v := y2) rfl (fun w' hw' => opv_load Try.isAgg23 rfl ((hB7.ext hw').cell rfl)) ?_; refine Wq_o rfl (fun _ _ => opv_len Try.underlying23 rfl i4) ?_; refine Wq_o rfl (fun _ _ => opv_assign (v := .int _ _) rfl) ?_
            refine Wq_o rfl (fun _ _ => opv_assign (v := .int _ _) rfl) ?_; refine Wq_nil (fun w6 E6 => ?_); have hs6 := E6.size; refine W_seq ?_; refine W_region rfl ?_; refine Wo rfl (opv_move (v := .int _ _) rfl) ?_
            refine Wo rfl (opv_move (v := .int _ _) rfl) ?_; refine Wo rfl (opv_mul rfl rfl (by omega)) ?_; refine Wo rfl (opv_assign (v := .int _ _) rfl) ?_; refine Wo_nil ?_; refine W_seq ?_; refine W_seq ?_; refine W_region rfl ?_
            refine Wo rfl (opv_move (v := .int _ _) rfl) ?_; refine Wo rfl (opv_move (v := .int _ _) rfl) ?_; refine Wo rfl (opv_eql rfl rfl) ?_; refine Wo_nil ?_; refine W_cond_dec rfl (fun h7 => ?_) (fun h7 => ?_); contradiction
            refine W_skip ?_; refine W_seq ?_; refine W_seq ?_; refine W_region rfl ?_; refine Wo rfl (opv_fieldAddr Try.underlying25 rfl rfl Try.sizeOf23 rfl) ?_; refine Wo (v := x1) rfl (opv_load Try.isAgg23 rfl ((hB6.ext E6).cell rfl)) ?_
            refine Wo rfl (opv_len Try.underlying23 rfl i1) ?_; refine Wo rfl (opv_gtr rfl rfl) ?_; refine Wo_split_dec rfl (opv_move (v := .bool _) rfl) (fun h8 => ?_) (fun h8 => ?_); (exfalso; omega)
            refine Wo rfl (opv_fieldAddr Try.underlying25 rfl rfl Try.sizeOf23 rfl) ?_; refine Wo (v := y1) rfl (opv_load Try.isAgg23 rfl ((hB7.ext E6).cell rfl)) ?_; refine Wo rfl (opv_len Try.underlying23 rfl i3) ?_
            refine Wo rfl (opv_gtr rfl rfl) ?_; refine Wo rfl (opv_pick_f (v := .bool _) rfl rfl) ?_; refine Wo_split_dec rfl (opv_move (v := .bool _) rfl) (fun h9 => ?_) (fun h9 => ?_); (exfalso; omega)
            refine Wo rfl (opv_move (v := .int _ _) rfl) ?_; refine Wo rfl (opv_gtr rfl rfl) ?_; refine Wo rfl (opv_pick_f (v := .bool _) rfl rfl) ?_; refine Wo_nil ?_; refine W_cond_dec rfl (fun h10 => ?_) (fun h10 => ?_); (exfalso; omega)
            refine W_skip ?_; refine W_seq ?_; refine W_region rfl ?_; refine Wo rfl (opv_fieldAddr Try.underlying25 rfl rfl Try.sizeOf23 rfl) ?_; refine Wo (v := x1) rfl (opv_load Try.isAgg23 rfl ((hB6.ext E6).cell rfl)) ?_
            refine Wo rfl (opv_len Try.underlying23 rfl i1) ?_; refine Wo rfl (opv_fieldAddr Try.underlying25 rfl rfl Try.sizeOf23 rfl) ?_; refine Wo (v := y1) rfl (opv_load Try.isAgg23 rfl ((hB7.ext E6).cell rfl)) ?_
            refine Wo rfl (opv_len Try.underlying23 rfl i3) ?_; refine Wo rfl (opv_max rfl rfl) ?_; refine Wo rfl (opv_mul rfl rfl (by omega)) ?_; refine Wo rfl (opv_move (v := .int _ _) rfl) ?_; refine Wo rfl (opv_mul rfl rfl (by omega)) ?_
            refine Wo rfl (opv_makeFunc rfl rfl) ?_
            refine Wo_call rfl (opc3 (a := .int _ _) (b := .int _ _) (c := .func _ _ _) Try.call61 rfl rfl rfl) (hsb3 _ _ _ _ _ _ _ _ _ ((hB6.ext E6)) ((hB7.ext E6)) ((Mono.mono E6 i1)) ((Mono.mono E6 i2)) ((Mono.mono E6 i3)) ((Mono.mono E6 i4)) (by omega) (by omega) (by omega)) ?_
            rintro _ w7 ⟨u3, q1, rfl, E7, hO1, hQ1, hd1⟩; have icu3 := OwnedB.isC (Owned.toB hO1); have cpu3 := OwnedB.capOk (Owned.toB hO1); have icq1 := OwnedB.isC (Owned.toB hQ1); have cpq1 := OwnedB.capOk (Owned.toB hQ1)
            have hs7 := E7.size
            refine Wo_st2 rfl Try.sizeOf25 rfl rfl (by first | rfl | assumption) (by first | rfl | assumption) (hB3.ext ((((E4.trans E5).trans E20).trans E6).trans E7)) (by omega) (((((((E1.trans E2).trans E3).trans E4).trans E5).trans E20).trans E6).trans E7) ?_
            rintro w8 E8 hB3 K1 hz1; have E9 := ((((((E2.trans E3).trans E4).trans E5).trans E20).trans E6).trans E7).wroteAt (((((((E1.trans E2).trans E3).trans E4).trans E5).trans E20).trans E6).trans E7) E8 K1 hz1 (by omega)
            have szE9 := E9.size; have E10 := (((((E3.trans E4).trans E5).trans E20).trans E6).trans E7).wroteAt (((((((E1.trans E2).trans E3).trans E4).trans E5).trans E20).trans E6).trans E7) E8 K1 hz1 (by omega); have szE10 := E10.size
            have hB1 := (hB1.ext ((((((E2.trans E3).trans E4).trans E5).trans E20).trans E6).trans E7)).of_heap (K1 _ (by omega)); have hB2 := (hB2.ext (((((E3.trans E4).trans E5).trans E20).trans E6).trans E7)).of_heap (K1 _ (by omega))
            have hO1 := hO1.toB.wrote K1 (by omega); have hQ1 := hQ1.toB.wrote K1 (by omega); refine Wo rfl (opv_assign (v := .bool _) rfl) ?_; refine Wo_nil ?_; refine W_ret ?_
          all_goals exact ⟨_, _, _, rfl, by assumption, _, _, rfl, by assumption, hO1.o.mono (by omega), hQ1.o.mono (by omega), hd1⟩
      · rw [if_neg hc]
        clear hsb3
        by_cases hnm : (shR f).length = (shR g).length
        · have hL' : L = (shR f).length := by rw [← hL]; exact if_pos hnm
          have hnm' : ((shR f).length : Int) = ((shR g).length : Int) := by omega
          focus
            have szE20 := E20.size; have szE5 := E5.size; have szE4 := E4.size; have szE3 := E3.size; have szE2 := E2.size; have szE1 := E1.size; refine W_seq ?_; refine W_draw mixed (by kernel_rfl) rfl ?_
            refine Wq_o rfl (fun _ _ => opv_fieldAddr Try.underlying25 rfl rfl Try.sizeOf23 rfl) ?_; refine Wq_o (v := x2) rfl (fun w' hw' => opv_load Try.isAgg23 rfl ((hB6.ext hw').cell rfl)) ?_
            refine Wq_o rfl (fun _ _ => opv_len Try.underlying23 rfl i2) ?_; refine Wq_o rfl (fun _ _ => opv_fieldAddr Try.underlying25 rfl rfl Try.sizeOf23 rfl) ?_
            refine Wq_o (v := y2) rfl (fun w' hw' => opv_load Try.isAgg23 rfl ((hB7.ext hw').cell rfl)) ?_; refine Wq_o rfl (fun _ _ => opv_len Try.underlying23 rfl i4) ?_; refine Wq_o rfl (fun _ _ => opv_assign (v := .int _ _) rfl) ?_
            refine Wq_o rfl (fun _ _ => opv_assign (v := .int _ _) rfl) ?_; refine Wq_nil (fun w6 E6 => ?_); have hs6 := E6.size; refine W_seq ?_; refine W_region rfl ?_; refine Wo rfl (opv_move (v := .int _ _) rfl) ?_
            refine Wo rfl (opv_move (v := .int _ _) rfl) ?_; refine Wo rfl (opv_mul rfl rfl (by omega)) ?_; refine Wo rfl (opv_assign (v := .int _ _) rfl) ?_; refine Wo_nil ?_; refine W_seq ?_; refine W_seq ?_; refine W_region rfl ?_
            refine Wo rfl (opv_move (v := .int _ _) rfl) ?_; refine Wo rfl (opv_move (v := .int _ _) rfl) ?_; refine Wo rfl (opv_eql rfl rfl) ?_; refine Wo_nil ?_; refine W_cond_dec rfl (fun h7 => ?_) (fun h7 => ?_); refine W_region rfl ?_
            refine Wo rfl (opv_move (v := .int _ _) rfl) ?_; refine Wo rfl (opv_assign (v := .int _ _) rfl) ?_; refine Wo_nil ?_; refine W_seq ?_; refine W_seq ?_; refine W_region rfl ?_
            refine Wo rfl (opv_fieldAddr Try.underlying25 rfl rfl Try.sizeOf23 rfl) ?_; refine Wo (v := x1) rfl (opv_load Try.isAgg23 rfl ((hB6.ext E6).cell rfl)) ?_; refine Wo rfl (opv_len Try.underlying23 rfl i1) ?_
            refine Wo rfl (opv_gtr rfl rfl) ?_; refine Wo_split_dec rfl (opv_move (v := .bool _) rfl) (fun h8 => ?_) (fun h8 => ?_); refine Wo_skip rfl ?_; refine Wo_skip rfl ?_; refine Wo_skip rfl ?_; refine Wo_skip rfl ?_
            refine Wo rfl (opv_pick_t (v := .bool _) rfl rfl) ?_; refine Wo rfl (opv_move (v := .bool _) rfl) ?_; refine Wo_skip rfl ?_; refine Wo_skip rfl ?_; refine Wo rfl (opv_pick_t (v := .bool _) rfl rfl) ?_; refine Wo_nil ?_
            refine W_cond_true rfl ?_; refine W_seq ?_; refine W_region rfl ?_; refine Wo rfl (opv_build (ps := []) (cs := [_, _]) flat25 rfl rfl) ?_
            refine Wo_st2 rfl Try.sizeOf25 rfl rfl (by first | rfl | assumption) (by first | rfl | assumption) (hB3.ext (((E4.trans E5).trans E20).trans E6)) (by omega) ((((((E1.trans E2).trans E3).trans E4).trans E5).trans E20).trans E6) ?_
            rintro w7 E7 hB3 K1 hz1; have E8 := (((((E2.trans E3).trans E4).trans E5).trans E20).trans E6).wroteAt ((((((E1.trans E2).trans E3).trans E4).trans E5).trans E20).trans E6) E7 K1 hz1 (by omega); have szE8 := E8.size
            have E9 := ((((E3.trans E4).trans E5).trans E20).trans E6).wroteAt ((((((E1.trans E2).trans E3).trans E4).trans E5).trans E20).trans E6) E7 K1 hz1 (by omega); have szE9 := E9.size
            have hB1 := (hB1.ext (((((E2.trans E3).trans E4).trans E5).trans E20).trans E6)).of_heap (K1 _ (by omega)); have hB2 := (hB2.ext ((((E3.trans E4).trans E5).trans E20).trans E6)).of_heap (K1 _ (by omega))
            refine Wo rfl (opv_assign (v := .bool _) rfl) ?_; refine Wo_nil ?_; refine W_ret ?_; rotate_left; refine Wo rfl (opv_fieldAddr Try.underlying25 rfl rfl Try.sizeOf23 rfl) ?_
            refine Wo (v := y1) rfl (opv_load Try.isAgg23 rfl ((hB7.ext E6).cell rfl)) ?_; refine Wo rfl (opv_len Try.underlying23 rfl i3) ?_; refine Wo rfl (opv_gtr rfl rfl) ?_; refine Wo rfl (opv_pick_f (v := .bool _) rfl rfl) ?_
            refine Wo_split_dec rfl (opv_move (v := .bool _) rfl) (fun h9 => ?_) (fun h9 => ?_); refine Wo_skip rfl ?_; refine Wo_skip rfl ?_; refine Wo rfl (opv_pick_t (v := .bool _) rfl rfl) ?_; refine Wo_nil ?_; refine W_cond_true rfl ?_
            refine W_seq ?_; refine W_region rfl ?_; refine Wo rfl (opv_build (ps := []) (cs := [_, _]) flat25 rfl rfl) ?_
            refine Wo_st2 rfl Try.sizeOf25 rfl rfl (by first | rfl | assumption) (by first | rfl | assumption) (hB3.ext (((E4.trans E5).trans E20).trans E6)) (by omega) ((((((E1.trans E2).trans E3).trans E4).trans E5).trans E20).trans E6) ?_
            rintro w7 E7 hB3 K1 hz1; have E8 := (((((E2.trans E3).trans E4).trans E5).trans E20).trans E6).wroteAt ((((((E1.trans E2).trans E3).trans E4).trans E5).trans E20).trans E6) E7 K1 hz1 (by omega); have szE8 := E8.size
            have E9 := ((((E3.trans E4).trans E5).trans E20).trans E6).wroteAt ((((((E1.trans E2).trans E3).trans E4).trans E5).trans E20).trans E6) E7 K1 hz1 (by omega); have szE9 := E9.size
            have hB1 := (hB1.ext (((((E2.trans E3).trans E4).trans E5).trans E20).trans E6)).of_heap (K1 _ (by omega)); have hB2 := (hB2.ext ((((E3.trans E4).trans E5).trans E20).trans E6)).of_heap (K1 _ (by omega))
            refine Wo rfl (opv_assign (v := .bool _) rfl) ?_; refine Wo_nil ?_; refine W_ret ?_; rotate_left; refine Wo rfl (opv_move (v := .int _ _) rfl) ?_; refine Wo rfl (opv_gtr rfl rfl) ?_
            refine Wo rfl (opv_pick_f (v := .bool _) rfl rfl) ?_; refine Wo_nil ?_; refine W_cond_dec rfl (fun h10 => ?_) (fun h10 => ?_); refine W_seq ?_; refine W_region rfl ?_
            refine Wo rfl (opv_build (ps := []) (cs := [_, _]) flat25 rfl rfl) ?_
            refine Wo_st2 rfl Try.sizeOf25 rfl rfl (by first | rfl | assumption) (by first | rfl | assumption) (hB3.ext (((E4.trans E5).trans E20).trans E6)) (by omega) ((((((E1.trans E2).trans E3).trans E4).trans E5).trans E20).trans E6) ?_
            rintro w7 E7 hB3 K1 hz1; have E8 := (((((E2.trans E3).trans E4).trans E5).trans E20).trans E6).wroteAt ((((((E1.trans E2).trans E3).trans E4).trans E5).trans E20).trans E6) E7 K1 hz1 (by omega); have szE8 := E8.size
            have E9 := ((((E3.trans E4).trans E5).trans E20).trans E6).wroteAt ((((((E1.trans E2).trans E3).trans E4).trans E5).trans E20).trans E6) E7 K1 hz1 (by omega); have szE9 := E9.size
            have hB1 := (hB1.ext (((((E2.trans E3).trans E4).trans E5).trans E20).trans E6)).of_heap (K1 _ (by omega)); have hB2 := (hB2.ext ((((E3.trans E4).trans E5).trans E20).trans E6)).of_heap (K1 _ (by omega))
            refine Wo rfl (opv_assign (v := .bool _) rfl) ?_; refine Wo_nil ?_; refine W_ret ?_; rotate_left; (exfalso; omega); contradiction
          all_goals exact ⟨_, _, _, rfl, by assumption, _, _, rfl, by assumption, Owned.nil, Owned.nil, .inr rfl⟩
        · have hL' : L = (shR f).length * (shR g).length := by rw [← hL]; exact if_neg hnm
          have hnm' : ¬ ((shR f).length : Int) = ((shR g).length : Int) := by omega
          focus
            have szE20 := E20.size; have szE5 := E5.size; have szE4 := E4.size; have szE3 := E3.size; have szE2 := E2.size; have szE1 := E1.size; refine W_seq ?_; refine W_draw mixed (by kernel_rfl) rfl ?_
            refine Wq_o rfl (fun _ _ => opv_fieldAddr Try.underlying25 rfl rfl Try.sizeOf23 rfl) ?_; refine Wq_o (v := x2) rfl (fun w' hw' => opv_load Try.isAgg23 rfl ((hB6.ext hw').cell rfl)) ?_
            refine Wq_o rfl (fun _ _ => opv_len Try.underlying23 rfl i2) ?_; refine Wq_o rfl (fun _ _ => opv_fieldAddr Try.underlying25 rfl rfl Try.sizeOf23 rfl) ?_
            refine Wq_o (v := y2) rfl (fun w' hw' => opv_load Try.isAgg23 rfl ((hB7.ext hw').cell rfl)) ?_; refine Wq_o rfl (fun _ _ => opv_len Try.underlying23 rfl i4) ?_; refine Wq_o rfl (fun _ _ => opv_assign (v := .int _ _) rfl) ?_
            refine Wq_o rfl (fun _ _ => opv_assign (v := .int _ _) rfl) ?_; refine Wq_nil (fun w6 E6 => ?_); have hs6 := E6.size; refine W_seq ?_; refine W_region rfl ?_; refine Wo rfl (opv_move (v := .int _ _) rfl) ?_
            refine Wo rfl (opv_move (v := .int _ _) rfl) ?_; refine Wo rfl (opv_mul rfl rfl (by omega)) ?_; refine Wo rfl (opv_assign (v := .int _ _) rfl) ?_; refine Wo_nil ?_; refine W_seq ?_; refine W_seq ?_; refine W_region rfl ?_
            refine Wo rfl (opv_move (v := .int _ _) rfl) ?_; refine Wo rfl (opv_move (v := .int _ _) rfl) ?_; refine Wo rfl (opv_eql rfl rfl) ?_; refine Wo_nil ?_; refine W_cond_dec rfl (fun h7 => ?_) (fun h7 => ?_); contradiction
            refine W_skip ?_; refine W_seq ?_; refine W_seq ?_; refine W_region rfl ?_; refine Wo rfl (opv_fieldAddr Try.underlying25 rfl rfl Try.sizeOf23 rfl) ?_; refine Wo (v := x1) rfl (opv_load Try.isAgg23 rfl ((hB6.ext E6).cell rfl)) ?_
            refine Wo rfl (opv_len Try.underlying23 rfl i1) ?_; refine Wo rfl (opv_gtr rfl rfl) ?_; refine Wo_split_dec rfl (opv_move (v := .bool _) rfl) (fun h8 => ?_) (fun h8 => ?_); refine Wo_skip rfl ?_; refine Wo_skip rfl ?_
            refine Wo_skip rfl ?_; refine Wo_skip rfl ?_; refine Wo rfl (opv_pick_t (v := .bool _) rfl rfl) ?_; refine Wo rfl (opv_move (v := .bool _) rfl) ?_; refine Wo_skip rfl ?_; refine Wo_skip rfl ?_
            refine Wo rfl (opv_pick_t (v := .bool _) rfl rfl) ?_; refine Wo_nil ?_; refine W_cond_true rfl ?_; refine W_seq ?_; refine W_region rfl ?_; refine Wo rfl (opv_build (ps := []) (cs := [_, _]) flat25 rfl rfl) ?_
            refine Wo_st2 rfl Try.sizeOf25 rfl rfl (by first | rfl | assumption) (by first | rfl | assumption) (hB3.ext (((E4.trans E5).trans E20).trans E6)) (by omega) ((((((E1.trans E2).trans E3).trans E4).trans E5).trans E20).trans E6) ?_
            rintro w7 E7 hB3 K1 hz1; have E8 := (((((E2.trans E3).trans E4).trans E5).trans E20).trans E6).wroteAt ((((((E1.trans E2).trans E3).trans E4).trans E5).trans E20).trans E6) E7 K1 hz1 (by omega); have szE8 := E8.size
            have E9 := ((((E3.trans E4).trans E5).trans E20).trans E6).wroteAt ((((((E1.trans E2).trans E3).trans E4).trans E5).trans E20).trans E6) E7 K1 hz1 (by omega); have szE9 := E9.size
            have hB1 := (hB1.ext (((((E2.trans E3).trans E4).trans E5).trans E20).trans E6)).of_heap (K1 _ (by omega)); have hB2 := (hB2.ext ((((E3.trans E4).trans E5).trans E20).trans E6)).of_heap (K1 _ (by omega))
            refine Wo rfl (opv_assign (v := .bool _) rfl) ?_; refine Wo_nil ?_; refine W_ret ?_; rotate_left; refine Wo rfl (opv_fieldAddr Try.underlying25 rfl rfl Try.sizeOf23 rfl) ?_
            refine Wo (v := y1) rfl (opv_load Try.isAgg23 rfl ((hB7.ext E6).cell rfl)) ?_; refine Wo rfl (opv_len Try.underlying23 rfl i3) ?_; refine Wo rfl (opv_gtr rfl rfl) ?_; refine Wo rfl (opv_pick_f (v := .bool _) rfl rfl) ?_
            refine Wo_split_dec rfl (opv_move (v := .bool _) rfl) (fun h9 => ?_) (fun h9 => ?_); refine Wo_skip rfl ?_; refine Wo_skip rfl ?_; refine Wo rfl (opv_pick_t (v := .bool _) rfl rfl) ?_; refine Wo_nil ?_; refine W_cond_true rfl ?_
            refine W_seq ?_; refine W_region rfl ?_; refine Wo rfl (opv_build (ps := []) (cs := [_, _]) flat25 rfl rfl) ?_
            refine Wo_st2 rfl Try.sizeOf25 rfl rfl (by first | rfl | assumption) (by first | rfl | assumption) (hB3.ext (((E4.trans E5).trans E20).trans E6)) (by omega) ((((((E1.trans E2).trans E3).trans E4).trans E5).trans E20).trans E6) ?_
            rintro w7 E7 hB3 K1 hz1; have E8 := (((((E2.trans E3).trans E4).trans E5).trans E20).trans E6).wroteAt ((((((E1.trans E2).trans E3).trans E4).trans E5).trans E20).trans E6) E7 K1 hz1 (by omega); have szE8 := E8.size
            have E9 := ((((E3.trans E4).trans E5).trans E20).trans E6).wroteAt ((((((E1.trans E2).trans E3).trans E4).trans E5).trans E20).trans E6) E7 K1 hz1 (by omega); have szE9 := E9.size
            have hB1 := (hB1.ext (((((E2.trans E3).trans E4).trans E5).trans E20).trans E6)).of_heap (K1 _ (by omega)); have hB2 := (hB2.ext ((((E3.trans E4).trans E5).trans E20).trans E6)).of_heap (K1 _ (by omega))
            refine Wo rfl (opv_assign (v := .bool _) rfl) ?_; refine Wo_nil ?_; refine W_ret ?_; rotate_left; refine Wo rfl (opv_move (v := .int _ _) rfl) ?_; refine Wo rfl (opv_gtr rfl rfl) ?_
            refine Wo rfl (opv_pick_f (v := .bool _) rfl rfl) ?_; refine Wo_nil ?_; refine W_cond_dec rfl (fun h10 => ?_) (fun h10 => ?_); refine W_seq ?_; refine W_region rfl ?_
            refine Wo rfl (opv_build (ps := []) (cs := [_, _]) flat25 rfl rfl) ?_
            refine Wo_st2 rfl Try.sizeOf25 rfl rfl (by first | rfl | assumption) (by first | rfl | assumption) (hB3.ext (((E4.trans E5).trans E20).trans E6)) (by omega) ((((((E1.trans E2).trans E3).trans E4).trans E5).trans E20).trans E6) ?_
            rintro w7 E7 hB3 K1 hz1; have E8 := (((((E2.trans E3).trans E4).trans E5).trans E20).trans E6).wroteAt ((((((E1.trans E2).trans E3).trans E4).trans E5).trans E20).trans E6) E7 K1 hz1 (by omega); have szE8 := E8.size
            have E9 := ((((E3.trans E4).trans E5).trans E20).trans E6).wroteAt ((((((E1.trans E2).trans E3).trans E4).trans E5).trans E20).trans E6) E7 K1 hz1 (by omega); have szE9 := E9.size
            have hB1 := (hB1.ext (((((E2.trans E3).trans E4).trans E5).trans E20).trans E6)).of_heap (K1 _ (by omega)); have hB2 := (hB2.ext ((((E3.trans E4).trans E5).trans E20).trans E6)).of_heap (K1 _ (by omega))
            refine Wo rfl (opv_assign (v := .bool _) rfl) ?_; refine Wo_nil ?_; refine W_ret ?_; rotate_left; (exfalso; omega)
          all_goals exact ⟨_, _, _, rfl, by assumption, _, _, rfl, by assumption, Owned.nil, Owned.nil, .inr rfl⟩
    · have k2 := hok A' B' false hA' hB' (decide_eq_false hs')
      have e0 : lbV A B A' B' = ([], [], false) := if_neg (fun h => hs' h.2.1)
      rw [e0]
      clear hok
      refine fn_of_Wct Try.func36 rfl Try.results36 Try.ntmps36 rfl Try.isAgg25 Try.sizeOf25 ?_
      focus
        refine W_seq ?_; refine W_region rfl ?_; refine Wo_box rfl rfl rfl ?_; rintro b1 w1 hb1 E1 hB1; have hlb1 := hB1.lt; have hs1 := E1.size; refine Wo_box rfl rfl rfl ?_; rintro b2 w2 hb2 E2 hB2; have hlb2 := hB2.lt
        have hs2 := E2.size; refine Wo_alloc2 rfl flat25 ?_; rintro b3 w3 hb3 E3 hB3; have hlb3 := hB3.lt; have hs3 := E3.size; refine Wo rfl (opv_assign (v := .bool _) rfl) ?_; refine Wo_nil ?_; refine W_seq ?_; refine W_seq ?_
        refine W_region rfl ?_; refine Wo (v := .agg _) rfl (opv_load2 Try.isAgg25 Try.sizeOf25 rfl (hB1.ext (E2.trans E3))) ?_
        refine Wo_call rfl (opc1 (a := .agg _) Try.call54 rfl) (k1 _ _ _ ((Mono.mono ((E1.trans E2).trans E3) h1)) ((Mono.mono ((E1.trans E2).trans E3) h2))) ?_; rintro _ w4 ⟨rfl, E4⟩; have hs4 := E4.size; refine Wo rfl (opv_not rfl) ?_
        refine Wo_split rfl (opv_move (v := .bool _) rfl) (fun h5 => ?_) (fun h5 => ?_); contradiction; refine Wo (v := .agg _) rfl (opv_load2 Try.isAgg25 Try.sizeOf25 rfl (hB2.ext (E3.trans E4))) ?_
        refine Wo_call rfl (opc1 (a := .agg _) Try.call54 rfl) (k2 _ _ _ ((Mono.mono (((E1.trans E2).trans E3).trans E4) h3)) ((Mono.mono (((E1.trans E2).trans E3).trans E4) h4))) ?_; rintro _ w5 ⟨rfl, E5⟩; have hs5 := E5.size
        refine Wo rfl (opv_not rfl) ?_; refine Wo rfl (opv_pick_f (v := .bool _) rfl rfl) ?_; refine Wo_nil ?_; refine W_cond rfl (fun h6 => ?_) (fun h6 => ?_); refine W_seq ?_; refine W_region rfl ?_
        refine Wo rfl (opv_build (ps := []) (cs := [_, _]) flat25 rfl rfl) ?_
        refine Wo_st2 rfl Try.sizeOf25 rfl rfl (by first | rfl | assumption) (by first | rfl | assumption) (hB3.ext (E4.trans E5)) (by omega) ((((E1.trans E2).trans E3).trans E4).trans E5) ?_; rintro w6 E6 hB3 K1 hz1
        have E7 := (((E2.trans E3).trans E4).trans E5).wroteAt ((((E1.trans E2).trans E3).trans E4).trans E5) E6 K1 hz1 (by omega); have szE7 := E7.size
        have E8 := ((E3.trans E4).trans E5).wroteAt ((((E1.trans E2).trans E3).trans E4).trans E5) E6 K1 hz1 (by omega); have szE8 := E8.size; have hB1 := (hB1.ext (((E2.trans E3).trans E4).trans E5)).of_heap (K1 _ (by omega))
        have hB2 := (hB2.ext ((E3.trans E4).trans E5)).of_heap (K1 _ (by omega)); refine Wo rfl (opv_assign (v := .bool _) rfl) ?_; refine Wo_nil ?_; refine W_ret ?_; rotate_left; contradiction
      all_goals exact ⟨_, _, _, rfl, by assumption, _, _, rfl, by assumption, Owned.nil, Owned.nil, .inr rfl⟩
  · have k1 := hok A B false hA hB (decide_eq_false hs)
    have e0 : lbV A B A' B' = ([], [], false) := if_neg (fun h => hs h.1)
    rw [e0]
    clear hok
    refine fn_of_Wct Try.func36 rfl Try.results36 Try.ntmps36 rfl Try.isAgg25 Try.sizeOf25 ?_
    focus
      refine W_seq ?_; refine W_region rfl ?_; refine Wo_box rfl rfl rfl ?_; rintro b1 w1 hb1 E1 hB1; have hlb1 := hB1.lt; have hs1 := E1.size; refine Wo_box rfl rfl rfl ?_; rintro b2 w2 hb2 E2 hB2; have hlb2 := hB2.lt
      have hs2 := E2.size; refine Wo_alloc2 rfl flat25 ?_; rintro b3 w3 hb3 E3 hB3; have hlb3 := hB3.lt; have hs3 := E3.size; refine Wo rfl (opv_assign (v := .bool _) rfl) ?_; refine Wo_nil ?_; refine W_seq ?_; refine W_seq ?_
      refine W_region rfl ?_; refine Wo (v := .agg _) rfl (opv_load2 Try.isAgg25 Try.sizeOf25 rfl (hB1.ext (E2.trans E3))) ?_
      refine Wo_call rfl (opc1 (a := .agg _) Try.call54 rfl) (k1 _ _ _ ((Mono.mono ((E1.trans E2).trans E3) h1)) ((Mono.mono ((E1.trans E2).trans E3) h2))) ?_; rintro _ w4 ⟨rfl, E4⟩; have hs4 := E4.size; refine Wo rfl (opv_not rfl) ?_
      refine Wo_split rfl (opv_move (v := .bool _) rfl) (fun h5 => ?_) (fun h5 => ?_); refine Wo_skip rfl ?_; refine Wo_skip rfl ?_; refine Wo_skip rfl ?_; refine Wo rfl (opv_pick_t (v := .bool _) rfl rfl) ?_; refine Wo_nil ?_
      refine W_cond_true rfl ?_; refine W_seq ?_; refine W_region rfl ?_; refine Wo rfl (opv_build (ps := []) (cs := [_, _]) flat25 rfl rfl) ?_
      refine Wo_st2 rfl Try.sizeOf25 rfl rfl (by first | rfl | assumption) (by first | rfl | assumption) (hB3.ext E4) (by omega) (((E1.trans E2).trans E3).trans E4) ?_; rintro w5 E5 hB3 K1 hz1
      have E6 := ((E2.trans E3).trans E4).wroteAt (((E1.trans E2).trans E3).trans E4) E5 K1 hz1 (by omega); have szE6 := E6.size; have E7 := (E3.trans E4).wroteAt (((E1.trans E2).trans E3).trans E4) E5 K1 hz1 (by omega)
      have szE7 := E7.size; have hB1 := (hB1.ext ((E2.trans E3).trans E4)).of_heap (K1 _ (by omega)); have hB2 := (hB2.ext (E3.trans E4)).of_heap (K1 _ (by omega)); refine Wo rfl (opv_assign (v := .bool _) rfl) ?_; refine Wo_nil ?_
      refine W_ret ?_; rotate_left; contradiction
    all_goals exact ⟨_, _, _, rfl, by assumption, _, _, rfl, by assumption, Owned.nil, Owned.nil, .inr rfl⟩

end Go.Proofs.Ytlalfmialbolhaa
