/- Lemmas for FnExactDeskLine. -/
import Derived.Test.YtbgpppaljpngmaaGreatDoorMFnExactDeskLine7
import Derived.LaidSub
namespace Go.Proofs.YtbgpppaljpngmaaGreatDoor
open Go.Hs
set_option maxRecDepth 10000
set_option maxHeartbeats 4000000
set_option linter.unusedVariables false
set_option linter.unusedSimpArgs false
open Go.Lib (decDigits)
theorem enc_no (f : Fm) : (32 : UInt8) ∉ f.enc := by
  induction f <;> simp_all [Fm.enc]
theorem ask2_no {p : List (List Int)} {a r : List UInt8} (h : (32 : UInt8) ∈ r) : ask2 p a r = [119, 104, 97, 116] := by
  have h1 : okF r = false := by
    unfold okF
    cases hf : theF r with
    | none => rfl
    | some f => have := (theF_some.1 hf).1; subst this; exact absurd h (enc_no f)
  have h2 : (rdP r).isSome = false := by
    cases hq : rdP r with
    | none => rfl
    | some q => have := Rz hq; rw [← this.2] at h; exact absurd h (txt_no this.1.gr Kc)
  unfold ask2; rw [h1, h2]; simp
theorem ask_words (p : List (List Int)) (s : List UInt8) :
    (∃ ps, cutB 32 s = ps ∧ ps.length ≠ 2 ∧ (if (cutF 32 s).2.2 then ask2 p (cutF 32 s).1 (cutF 32 s).2.1 else [119, 104, 97, 116]) = [119, 104, 97, 116])
    ∨ ∃ a r, cutB 32 s = [a, r] ∧ r.length ≤ s.length ∧ (if (cutF 32 s).2.2 then ask2 p (cutF 32 s).1 (cutF 32 s).2.1 else [119, 104, 97, 116]) = ask2 p a r := by
  rcases byte_ind 32 s with h | ⟨a, r, rfl, h⟩
  · left
    exact ⟨_, rfl, by rw [Te h]; simp, by rw [cutF_no h]; rfl⟩
  · rw [cutF_at h, Ty h]
    by_cases hr : (32 : UInt8) ∈ r
    · left
      refine ⟨_, rfl, ?_, by rw [if_pos rfl]; exact ask2_no hr⟩
      have := List.count_pos_iff.2 hr
      rw [List.length_cons, cutB_len]; omega
    · right
      exact ⟨a, r, by rw [Te hr], by simp; omega, by rw [if_pos rfl]⟩
open Classical in
theorem spec_DeskLine_ok (w : World) (u1 u2 : Value) (d : Dsk) (h1 : ESl Ints w u1 d.now) (h2 : ESl (ESl Ints) w u2 d.past) (s : List UInt8) (hs : s.length ≤ 1048576) :
    Does Tryz.prog 14 [.agg #[u1, u2], str s] w (RetDkRT w (dlV d s).1.now (dlV d s).1.past (dlV d s).2) := by
  have icu1 : isCell u1 = true := Uw h1
  have icu2 : isCell u2 = true := Uw h2
  have nil1 : ∀ (w w' : World), w.heap.size ≤ w'.heap.size → OwnedB w.heap.size w'.heap.size (XRd (ESl Ints)) w' (.slice none 0 0) [] := fun w w' h => (OwnedB.nil (e := 0) (X := XSl 0 XInt)).rd
  have nil2 : ∀ (w w' : World), w.heap.size ≤ w'.heap.size → OwnedB w.heap.size w'.heap.size (XRd (ESl (ESl Ints))) w' (.slice none 0 0) [] := fun w w' h => (OwnedB.nil (e := 0) (X := XSl 0 (XSl 0 XInt))).rd
  refine Ts Tryz.func14 rfl Tryz.results14 Tryz.ntmps14 rfl Ks Kp ?_
  by_cases hd : DkOk d
  · rw [show dlV d s = lnV d s from if_pos hd]
    have bnd : ∀ q, Pic q → q.length ≤ 100 ∧ ∀ r ∈ q, r.length ≤ 100 := fun q hq => ⟨by have := hq.2.1; omega, fun r hr => by rw [(hq.2.2 r hr).1]; have := hq.2.1; omega⟩
    have hppl := hd.2.1
    have hp := hd.1.1
    have k0 : ∀ w, ESl Ints w u1 d.now → ESl (ESl Ints) w u2 d.past → Does Tryz.prog 16 [.agg #[u1, u2]] w (Ret w (.bool true)) := fun w h1 h2 => by
      have := Sj w u1 u2 d h1 h2; rwa [decide_eq_true hd] at this
    have k1 : ∀ w, ESl Ints w u1 d.now → ESl (ESl Ints) w u2 d.past → Does Tryz.prog 60 [.agg #[u1, u2]] w (RetDk w 23 88 3 d.now d.past) := fun w h1 h2 => l11Copy_ok w u1 u2 d.now d.past h1 h2 (bnd _ hd.1.1) Ka (fun q hq => bnd q (hd.2.2 q hq).1)
    cases ha : rdD s with
    | some a =>
      rw [show lnV d s = ((doV d a).1, okV (doV d a).2) by unfold lnV; rw [ha]]
      have hat : a.text.length ≤ 1048576 := rdD_text ha hs
      have k2 : ∀ (w : World), Does Tryz.prog 61 [str s] w (Ret w (.tuple #[.agg #[.int .i64 a.kind, str a.text, .int .i64 a.node], .bool true])) := fun w => by
        have := Nk w s hs
        rw [ha] at this; exact this
      have k3 : ∀ (w : World), ESl Ints w u1 d.now → ESl (ESl Ints) w u2 d.past → Does Tryz.prog 37 [.agg #[u1, u2], .agg #[.int .i64 a.kind, str a.text, .int .i64 a.node]] w (RetDkRB w (doV d a).1.now (doV d a).1.past (doV d a).2) := fun w h1 h2 => by
        have := (spec_DeskDo_ok w u1 u2 d h1 h2 a.kind a.node a.text hat).mono fun _ _ h => h.r
        rwa [if_pos hd, if_pos hd, decide_eq_true hd, Bool.true_and] at this
      cases hb : (doV d a).2 with
      | true =>
        rw [hb] at k3
        focus
          refine Zo<|Yk rfl rfl rfl ?_; rintro b1 w1 hb1 E1 hB1; have hlb1 := hB1.lt; refine Ys rfl Xi ?_; rintro b2 w2 hb2 E2 hB2; have hlb2 := hB2.lt; refine Yi rfl<|Zm<|Zp<|Zo<|Xe Ks Kp (hB1.ext E2) rfl<|Zq rfl (Vw (a := .agg _) Gk rfl) (k0 _ ((Mono.mono exq h1)) ((Mono.mono exq h2))) ?_; rintro _ w3 ⟨rfl, E3⟩; have hs3 := E3.size; refine Yl rfl<|Zm<|Yz rfl fun h3 => ?_; refine Zu<|Zo<|Xe Ks Kp (hB1.ext exq) rfl<|Zq rfl (Vw (a := .agg _) Gp rfl) (k1 _ ((Mono.mono exq h1)) ((Mono.mono exq h2))) ?_; rintro _ w4 ⟨u3, q1, m1, rfl, E4, hO1, hQ1, hm1, hn1⟩; have icu3 := OwnedB.isC hO1; have icq1 := OwnedB.isC (Owned.toB hQ1); have hs4 := E4.size; refine Ys rfl Xi ?_; rintro b3 w5 hb3 E5 hB3; have hlb3 := hB3.lt
          refine Xk rfl Kp rfl rfl Ke Ke hB3 Ka ((((E1.trans E2).trans E3).trans E4).trans E5) ?_; rintro w6 E6 hB3 K1 hz1; have E7 := (((E2.trans E3).trans E4).trans E5).wroteAt exq E6 K1 hz1 Ka; have E8 := ((E3.trans E4).trans E5).wroteAt exq E6 K1 hz1 Ka; have E9 := (E4.trans E5).wroteAt exq E6 K1 hz1 Ka; have E10 := E5.wroteAt exq E6 K1 hz1 Ka; have hB1 := (hB1.ext exq).of_heap (K1 _ Ka); have hB2 := (hB2.ext exq).of_heap (K1 _ Ka); have hO1 := (hO1.ext E5).wrote K1 Ka; have hQ1 := (hQ1.toB.ext E5).wrote K1 Ka; refine Zm<|Zo<|Vn rfl<|Zq rfl (Vw (a := .string _) Tryz.call61 rfl) (k2 _) ?_; rintro _ w7 ⟨rfl, E11⟩; have hs6 := E11.size; refine Xj rfl<|WsxA rfl<|Xr rfl<|Rs rfl Yv ?_; rintro b4 w8 hb4 E12 hB4
          have hlb4 := hB4.lt; refine Ql Kw hB4 rfl ((E6.trans E11).trans E12) ?_; rintro w9 E13 hB4 K2 hz2; have E14 := ((E7.trans E11).trans E12).wroteAt exq E13 K2 hz2 Ka; have szE14 := E14.size; have E15 := ((E8.trans E11).trans E12).wroteAt exq E13 K2 hz2 Ka; have szE15 := E15.size; have hB1 := (hB1.ext exq).of_heap (K2 _ Ka); have hB2 := (hB2.ext exq).of_heap (K2 _ Ka); refine Zx rfl<|Zm<|Zp<|Zo<|Yf rfl<|Zm<|Vu rfl ?_; refine Zo<|Xe Ks Kp hB1 rfl<|Qq Jd Kw hB4 rfl<|Zq rfl (Yh (a := .agg _) (b := .agg _) Tryz.call37 rfl rfl) (k3 _ ((Mono.mono E13 h1)) ((Mono.mono E13 h2))) ?_; rintro _ w10 ⟨u4, q2, rfl, E20, hA1, hC1, icu4, icq2, gwu4⟩; refine Xj rfl<|WsxA rfl<|Xr rfl<|Ys rfl Xi ?_; rintro b5 w11 hb5 E21 hB5; have hs9 := E21.size
          refine Ul Kp hB5 rfl ((E13.trans E20).trans E21) ?_; rintro w12 E22 hB5 K3 hz3; have hB2 := (hB2.ext exq).of_heap (K3 _ Ka); have hA1 := (hA1.ext E21).wrote K3 Ka; have hC1 := (hC1.ext E21).wrote K3 Ka; refine Zx rfl<|Zm<|Zp<|Zo<|Yf rfl<|Yl rfl<|Zm<|Yz rfl fun h4 => ?_; refine Zu<|Zo<|Xe Ks Kp hB5 rfl<|Ul Kp hB2 rfl E22 ?_; rintro w13 E31 hB2 K4 hz4; have hA1 := hA1.wrote K4 Ka; have hC1 := hC1.wrote K4 Ka; refine Yi rfl<|Zm<|Zy ?_
        exact ⟨b2, u4, q2, rfl, hB2, u4, q2, rfl, by exact E31, hA1.wide Ka Ka, hC1.wide Ka Ka, icu4, icq2⟩
      | false =>
        rw [hb] at k3
        focus
          refine Zo<|Yk rfl rfl rfl ?_; rintro b1 w1 hb1 E1 hB1; have hlb1 := hB1.lt; refine Ys rfl Xi ?_; rintro b2 w2 hb2 E2 hB2; have hlb2 := hB2.lt; refine Yi rfl<|Zm<|Zp<|Zo<|Xe Ks Kp (hB1.ext E2) rfl<|Zq rfl (Vw (a := .agg _) Gk rfl) (k0 _ ((Mono.mono exq h1)) ((Mono.mono exq h2))) ?_; rintro _ w3 ⟨rfl, E3⟩; have hs3 := E3.size; refine Yl rfl<|Zm<|Yz rfl fun h3 => ?_; refine Zu<|Zo<|Xe Ks Kp (hB1.ext exq) rfl<|Zq rfl (Vw (a := .agg _) Gp rfl) (k1 _ ((Mono.mono exq h1)) ((Mono.mono exq h2))) ?_; rintro _ w4 ⟨u3, q1, m1, rfl, E4, hO1, hQ1, hm1, hn1⟩; have icu3 := OwnedB.isC hO1; have icq1 := OwnedB.isC (Owned.toB hQ1); have hs4 := E4.size; refine Ys rfl Xi ?_; rintro b3 w5 hb3 E5 hB3; have hlb3 := hB3.lt
          refine Xk rfl Kp rfl rfl Ke Ke hB3 Ka ((((E1.trans E2).trans E3).trans E4).trans E5) ?_; rintro w6 E6 hB3 K1 hz1; have E7 := (((E2.trans E3).trans E4).trans E5).wroteAt exq E6 K1 hz1 Ka; have E8 := ((E3.trans E4).trans E5).wroteAt exq E6 K1 hz1 Ka; have E9 := (E4.trans E5).wroteAt exq E6 K1 hz1 Ka; have E10 := E5.wroteAt exq E6 K1 hz1 Ka; have hB1 := (hB1.ext exq).of_heap (K1 _ Ka); have hB2 := (hB2.ext exq).of_heap (K1 _ Ka); have hO1 := (hO1.ext E5).wrote K1 Ka; have hQ1 := (hQ1.toB.ext E5).wrote K1 Ka; refine Zm<|Zo<|Vn rfl<|Zq rfl (Vw (a := .string _) Tryz.call61 rfl) (k2 _) ?_; rintro _ w7 ⟨rfl, E11⟩; have hs6 := E11.size; refine Xj rfl<|WsxA rfl<|Xr rfl<|Rs rfl Yv ?_; rintro b4 w8 hb4 E12 hB4
          have hlb4 := hB4.lt; refine Ql Kw hB4 rfl ((E6.trans E11).trans E12) ?_; rintro w9 E13 hB4 K2 hz2; have E14 := ((E7.trans E11).trans E12).wroteAt exq E13 K2 hz2 Ka; have szE14 := E14.size; have E15 := ((E8.trans E11).trans E12).wroteAt exq E13 K2 hz2 Ka; have szE15 := E15.size; have hB1 := (hB1.ext exq).of_heap (K2 _ Ka); have hB2 := (hB2.ext exq).of_heap (K2 _ Ka); refine Zx rfl<|Zm<|Zp<|Zo<|Yf rfl<|Zm<|Vu rfl ?_; refine Zo<|Xe Ks Kp hB1 rfl<|Qq Jd Kw hB4 rfl<|Zq rfl (Yh (a := .agg _) (b := .agg _) Tryz.call37 rfl rfl) (k3 _ ((Mono.mono E13 h1)) ((Mono.mono E13 h2))) ?_; rintro _ w10 ⟨u4, q2, rfl, E20, hA1, hC1, icu4, icq2, gwu4⟩; refine Xj rfl<|WsxA rfl<|Xr rfl<|Ys rfl Xi ?_; rintro b5 w11 hb5 E21 hB5; have hs9 := E21.size
          refine Ul Kp hB5 rfl ((E13.trans E20).trans E21) ?_; rintro w12 E22 hB5 K3 hz3; have hB2 := (hB2.ext exq).of_heap (K3 _ Ka); have hA1 := (hA1.ext E21).wrote K3 Ka; have hC1 := (hC1.ext E21).wrote K3 Ka; refine Zx rfl<|Zm<|Zp<|Zo<|Yf rfl<|Yl rfl<|Zm<|Xd rfl (fun h4 => ?_) (fun h4 => ?_); refine Zo<|Xe Ks Kp hB5 rfl<|Ul Kp hB2 rfl E22 ?_; rintro w13 E31 hB2 K4 hz4; have hA1 := hA1.wrote K4 Ka; have hC1 := hC1.wrote K4 Ka; refine Yi rfl<|Zm<|Zy ?_; rotate_left; contradiction
        exact ⟨b2, u4, q2, rfl, hB2, u4, q2, rfl, by exact E31, hA1.wide Ka Ka, hC1.wide Ka Ka, icu4, icq2⟩
    | none =>
      rw [show lnV d s = (d, askV d.now s) by unfold lnV; rw [ha]]
      have k2 : ∀ (w : World), Does Tryz.prog 61 [str s] w (Ret w (.tuple #[.agg #[.int .i64 0, str [], .int .i64 0], .bool false])) := fun w => by
        have := Nk w s hs
        rw [ha] at this; exact this
      have hp1 := hp.1
      have hp5 := hp.2.1
      have htx := txt_len hp.gr
      have hfl := faV_le d.now
      have hml := manyV_le d.now 0
      have yn := l11Yes_ok
      have c1 : ∀ (w : World) (v : Value), ESl Ints w v d.now → Does Tryz.prog 62 [v] w (Ret w (str (txt d.now))) := fun w v h => by
        have := Uk w v d.now h; rwa [if_pos hp] at this
      have c2 : ∀ (w : World) (v : Value), ESl Ints w v d.now → Does Tryz.prog 63 [v, .int .i64 0] w (Ret w (.tuple #[.int .i64 (codeV d.now 0).1, .bool (codeV d.now 0).2])) := fun w v h => spec_CodeAt_ok w v d.now h hp
      have c3 : ∀ (w : World) (v : Value), ESl Ints w v d.now → Does Tryz.prog 65 [v, .int .i64 0] w (Ret w (.int .i64 (manyV d.now 0 : Int))) := fun w v h => spec_ManyIn_ok w v d.now h hp
      have c4 : ∀ (w : World) (v u : Value), ESl Ints w v d.now → ESl Ints w u d.now → Does Tryz.prog 67 [v, .int .i64 0, u, .int .i64 0] w (Ret w (.bool (hasV d.now 0 d.now 0))) := fun w v u h h' => spec_HasSet_ok w v u d.now d.now h h' hp hp
      have c5 : ∀ (w : World) (v : Value), ESl Ints w v d.now → Does Tryz.prog 68 [v, .int .i64 0] w (Ret w (.int .i64 (deepAtV d.now 0))) := fun w v h => spec_DeepAt_ok w v d.now h 0
      have c6 : ∀ (w : World) (v : Value), ESl Ints w v d.now → Does Tryz.prog 69 [v] w (RetO w XI (ints (faV d.now))) := fun w v h => spec_FoundedAll_ok w v d.now h
      have cI : ∀ (w : World) (n : Nat), n ≤ 1000000 → Does Tryz.prog 64 [.int .i64 (n : Int)] w (Ret w (str (decDigits n))) := fun w n hn => l1Num_ok n n (Nat.le_refl _) hn w
      have cF : ∀ (w : World), Does Tryz.prog 64 [.int .i64 ((ints (faV d.now)).length : Int)] w (Ret w (str (decDigits (faV d.now).length))) := fun w => by
        rw [Yx] at hfl ⊢
        exact cI w _ Ka
      have cM : ∀ (w : World), Does Tryz.prog 64 [.int .i64 (manyV d.now 0 : Int)] w (Ret w (str (decDigits (manyV d.now 0)))) := fun w => cI w _ Ka
      have c7 : ∀ (w : World), Does Tryz.prog 70 [str s, .int .u8 32] w (RetO w XS (cutB 32 s)) := fun w => l1Cut_ok w s 32 hs
      have stop10 : True := trivial
      focus
        refine Zo<|Yk rfl rfl rfl ?_; rintro b1 w1 hb1 E1 hB1; have hlb1 := hB1.lt; have hs1 := E1.size; refine Ys rfl Xi ?_; rintro b2 w2 hb2 E2 hB2; have hlb2 := hB2.lt; have hs2 := E2.size; refine Yi rfl<|Zm<|Zp<|Zo<|Xe Ks Kp (hB1.ext E2) rfl<|Zq rfl (Vw (a := .agg _) Gk rfl) (k0 _ ((Mono.mono exq h1)) ((Mono.mono exq h2))) ?_; rintro _ w3 ⟨rfl, E3⟩; have hs3 := E3.size; refine Yl rfl<|Zm<|Yz rfl fun h3 => ?_; refine Zu<|Zo<|Xe Ks Kp (hB1.ext exq) rfl<|Zq rfl (Vw (a := .agg _) Gp rfl) (k1 _ ((Mono.mono exq h1)) ((Mono.mono exq h2))) ?_; rintro _ w4 ⟨u3, q1, m1, rfl, E4, hO1, hQ1, hm1, hn1⟩; have icu3 := OwnedB.isC hO1; have cpu3 := OwnedB.capOk hO1; have icq1 := OwnedB.isC (Owned.toB hQ1); have cpq1 := OwnedB.capOk (Owned.toB hQ1); have hs4 := E4.size
        refine Ys rfl Xi ?_; rintro b3 w5 hb3 E5 hB3; have hlb3 := hB3.lt; have hs5 := E5.size; refine Xk rfl Kp rfl rfl Ke Ke hB3 Ka ((((E1.trans E2).trans E3).trans E4).trans E5) ?_; rintro w6 E6 hB3 K1 hz1; have E7 := (((E2.trans E3).trans E4).trans E5).wroteAt exq E6 K1 hz1 Ka; have szE7 := E7.size; have E8 := ((E3.trans E4).trans E5).wroteAt exq E6 K1 hz1 Ka; have szE8 := E8.size; have E9 := (E4.trans E5).wroteAt exq E6 K1 hz1 Ka; have szE9 := E9.size; have E10 := E5.wroteAt exq E6 K1 hz1 Ka; have szE10 := E10.size; have hB1 := (hB1.ext exq).of_heap (K1 _ Ka); have hB2 := (hB2.ext exq).of_heap (K1 _ Ka); have hO1 := (hO1.ext E5).wrote K1 Ka; have hQ1 := (hQ1.toB.ext E5).wrote K1 Ka
        refine Zm<|Zo<|Vn rfl<|Zq rfl (Vw (a := .string _) Tryz.call61 rfl) (k2 _) ?_; rintro _ w7 ⟨rfl, E11⟩; have hs6 := E11.size; refine Xj rfl<|WsxA rfl<|Xr rfl<|Rs rfl Yv ?_; rintro b4 w8 hb4 E12 hB4; have hlb4 := hB4.lt; have hs7 := E12.size; refine Ql Kw hB4 rfl ((E6.trans E11).trans E12) ?_; rintro w9 E13 hB4 K2 hz2; have E14 := ((E7.trans E11).trans E12).wroteAt exq E13 K2 hz2 Ka; have szE14 := E14.size; have E15 := ((E8.trans E11).trans E12).wroteAt exq E13 K2 hz2 Ka; have szE15 := E15.size; have E16 := ((E9.trans E11).trans E12).wroteAt exq E13 K2 hz2 Ka; have szE16 := E16.size; have E17 := ((E10.trans E11).trans E12).wroteAt exq E13 K2 hz2 Ka; have szE17 := E17.size; have E18 := (E11.trans E12).wroteAt exq E13 K2 hz2 Ka; have szE18 := E18.size
        have E19 := E12.wroteAt exq E13 K2 hz2 Ka; have szE19 := E19.size; have hB3 := (hB3.ext exq).of_heap (K2 _ Ka); have hB1 := (hB1.ext exq).of_heap (K2 _ Ka); have hB2 := (hB2.ext exq).of_heap (K2 _ Ka); have hO1 := (hO1.ext exq).wrote K2 Ka; have hQ1 := (hQ1.ext exq).wrote K2 Ka; refine Zx rfl<|Zm<|Zp<|Zo<|Yf rfl<|Zm<|Zv rfl ?_; refine Zu<|Zp<|Zp ?_
      clear stop10 k0 k1 k2
      focus
        have Ew1 := E13; clear E1; clear E2; clear E3; clear E4; clear E5; clear E6; clear E7; clear szE7; clear E8; clear szE8; clear E9; clear szE9; clear E10; clear szE10; clear E11; clear E12; clear E13; clear E14; clear szE14; clear E15; clear szE15; clear E16; clear szE16; clear E17; clear szE17; clear E18; clear szE18; clear E19; clear szE19
      have heldS : w = w := rfl
      by_cases g1 : s = [112, 105, 99, 116, 117, 114, 101]
      · have ea : askV d.now s = [58] ++ txt d.now := by unfold askV; rw [if_pos g1]; rfl
        rw [ea]
        focus
          refine Ve<|Vn rfl<|Zm<|Zw<|Zo<|Wo rfl (Vb rfl rfl)<|Zx rfl<|Zm<|Zr rfl (fun h4 => ?_) (fun h4 => ?_); refine Zp<|Rg (fun w' => Ext w w') Xt rfl Kb ?_; intro w10 E1 K3 hz3; refine Sq 1 Ky Ja rfl rfl exq<|Wha [0, 2]<|Vs rfl ?_ ?_; refine Xe Ks Kp (hB3.ext E1) rfl<|Wnx exq<|Wha [2]<|Wh1 rfl<|Yr u1 Ku (hB1.ext E1) rfl<|Wnx exq<|Wha [3]<|Wh1 rfl<|Zq rfl (Vw (a := u1) Jx rfl) (c1 _ _ ((Mono.mono exq h1))) ?_; rintro _ w11 ⟨rfl, E2⟩; have hs9 := E2.size; refine Wnx exq<|Yn 4 rfl Kb Kb rfl (fun _ _ => Ub rfl rfl (by simp <;> omega)) exq ?_; refine Wha [5]<|Wh1 rfl<|Ul Kp (hB2.ext (E1.trans E2)) rfl ((Ew1.trans E1).trans E2) ?_; rintro w12 E3 hB2 K4 hz4
          have hO1 := (hO1.ext exq).wrote K4 Ka; have hQ1 := (hQ1.ext exq).wrote K4 Ka; refine Wnx E3<|Up 6 rfl rfl E3<|Yg Kb ?_; refine Zy ?_; rotate_left; refine Wh1 rfl<|Yr u1 Ku (hB1.ext E1) rfl<|Wnx exq<|Wha [0, 3]<|Vs rfl ?_ ?_; refine Xe Ks Kp (hB3.ext E1) rfl<|Wnx exq<|Wha [3]<|Wh1 rfl<|Zq rfl (Vw (a := u1) Jx rfl) (c1 _ _ ((Mono.mono exq h1))) ?_; rintro _ w11 ⟨rfl, E2⟩; have hs9 := E2.size; refine Wnx exq<|Yn 4 rfl Kb Kb rfl (fun _ _ => Ub rfl rfl (by simp <;> omega)) exq ?_; refine Wha [5]<|Wh1 rfl<|Ul Kp (hB2.ext (E1.trans E2)) rfl ((Ew1.trans E1).trans E2) ?_; rintro w12 E3 hB2 K4 hz4; have hO1 := (hO1.ext exq).wrote K4 Ka; have hQ1 := (hQ1.ext exq).wrote K4 Ka
          refine Wnx E3<|Up 6 rfl rfl E3<|Yg Kb ?_; refine Zy ?_; rotate_left; refine Wh1 rfl<|Zq rfl (Vw (a := u1) Jx rfl) (c1 _ _ ((Mono.mono exq h1))) ?_; rintro _ w11 ⟨rfl, E2⟩; have hs9 := E2.size; refine Wnx exq<|Yn 4 rfl Kb Kb rfl (fun _ _ => Ub rfl rfl (by simp <;> omega)) exq ?_; refine Wha [0]<|Wh1 rfl<|Xe Ks Kp (hB3.ext exq) rfl<|Wnx exq<|Wha [5]<|Wh1 rfl<|Ul Kp (hB2.ext (E1.trans E2)) rfl ((Ew1.trans E1).trans E2) ?_; rintro w12 E3 hB2 K4 hz4; have hO1 := (hO1.ext exq).wrote K4 Ka; have hQ1 := (hQ1.ext exq).wrote K4 Ka; refine Wnx E3<|Up 6 rfl rfl E3<|Yg Kb ?_; refine Zy ?_; rotate_left; contradiction
        all_goals exact ⟨b2, u3, q1, rfl, hB2, u3, q1, rfl, by repeat (first | assumption | refine Ext.trans Kd ?_), hO1.rd.wide Ka Ka, hQ1.rd.wide Ka Ka, icu3, icq1⟩
      by_cases g2 : s = [99, 111, 100, 101]
      · have ea : askV d.now s = if (codeV d.now 0).2 then decDigits (codeV d.now 0).1.toNat else [110, 111, 110, 101] := by
          unfold askV; rw [if_neg g1, if_pos g2]
        rw [ea]
        rcases codeV_nat d.now 0 with ⟨c, hc, e⟩ | e
        · rw [e] at c2 ⊢
          have cC := fun w => cI w c Ka
          focus
            refine Ve<|Vn rfl<|Zm<|Zw<|Zo<|Wo rfl (Vb rfl rfl)<|Zx rfl<|Zm<|Vj rfl fun h4 => ?_; refine Zo<|Wo rfl (Vb rfl rfl)<|Zx rfl<|Zm<|Zr rfl (fun h5 => ?_) (fun h5 => ?_); refine Zo<|Vk Ky Ja rfl<|Yr u1 Ku hB1 rfl<|Zq rfl (Yh (a := u1) (b := .int _ _) Tryz.call63 rfl rfl) (c2 _ _ ((Mono.mono Ew1 h1))) ?_; rintro _ w10 ⟨rfl, E1⟩; have hs8 := E1.size; refine Xj rfl<|WsxI rfl<|Xr rfl<|Vg rfl<|Zx rfl<|Zm<|Zp<|Zo<|Yf rfl<|Yl rfl<|Zm<|Yz rfl fun h6 => ?_; refine Zu<|Zp<|Rg (fun w' => Ext w w') Xt rfl Kb ?_; intro w11 E2 K3 hz3; refine WtmI 1 rfl rfl exq<|Wha [0, 2]<|Vs rfl ?_ ?_
            refine Xe Ks Kp (hB3.ext exq) rfl<|Wnx exq<|Wha [2]<|Wh1 rfl<|Zq rfl (Vw (a := .int _ _) Jo rfl) (cC _) ?_; rintro _ w12 ⟨rfl, E3⟩; have hs10 := E3.size; refine Wnx exq<|Wha [3]<|Wh1 rfl<|Xk rfl Kp rfl rfl Ke Ke (hB2.ext ((E1.trans E2).trans E3)) Ka (((Ew1.trans E1).trans E2).trans E3) ?_; rintro w13 E4 hB2 K4 hz4; have hO1 := (hO1.ext exq).wrote K4 Ka; have hQ1 := (hQ1.ext exq).wrote K4 Ka; refine Wnx E4<|Up 4 rfl rfl E4<|Yg Kb ?_; refine Zy ?_; rotate_left; refine Wh1 rfl<|Zq rfl (Vw (a := .int _ _) Jo rfl) (cC _) ?_; rintro _ w12 ⟨rfl, E3⟩; have hs10 := E3.size
            refine Wnx exq<|Wha [0]<|Wh1 rfl<|Xe Ks Kp (hB3.ext exq) rfl<|Wnx exq<|Wha [3]<|Wh1 rfl<|Xk rfl Kp rfl rfl Ke Ke (hB2.ext ((E1.trans E2).trans E3)) Ka (((Ew1.trans E1).trans E2).trans E3) ?_; rintro w13 E4 hB2 K4 hz4; have hO1 := (hO1.ext exq).wrote K4 Ka; have hQ1 := (hQ1.ext exq).wrote K4 Ka; refine Wnx E4<|Up 4 rfl rfl E4<|Yg Kb ?_; refine Zy ?_; rotate_left; contradiction
          all_goals exact ⟨b2, u3, q1, rfl, hB2, u3, q1, rfl, by repeat (first | assumption | refine Ext.trans Kd ?_), hO1.rd.wide Ka Ka, hQ1.rd.wide Ka Ka, icu3, icq1⟩
        · rw [e] at c2 ⊢
          focus
            refine Ve<|Vn rfl<|Zm<|Zw<|Zo<|Wo rfl (Vb rfl rfl)<|Zx rfl<|Zm<|Vj rfl fun h4 => ?_; refine Zo<|Wo rfl (Vb rfl rfl)<|Zx rfl<|Zm<|Zr rfl (fun h5 => ?_) (fun h5 => ?_); refine Zo<|Vk Ky Ja rfl<|Yr u1 Ku hB1 rfl<|Zq rfl (Yh (a := u1) (b := .int _ _) Tryz.call63 rfl rfl) (c2 _ _ ((Mono.mono Ew1 h1))) ?_; rintro _ w10 ⟨rfl, E1⟩; have hs8 := E1.size; refine Xj rfl<|WsxI rfl<|Xr rfl<|Vg rfl<|Zx rfl<|Zm<|Zp<|Zo<|Yf rfl<|Yl rfl<|Zm<|Xd rfl (fun h6 => ?_) (fun h6 => ?_); refine Zp<|Ve<|Xe Ks Kp (hB3.ext E1) rfl<|Ul Kp (hB2.ext E1) rfl (Ew1.trans E1) ?_; rintro w11 E2 hB2 K3 hz3; have hO1 := (hO1.ext E1).wrote K3 Ka
            have hQ1 := (hQ1.ext E1).wrote K3 Ka; refine Yi rfl<|Zm<|Zy ?_; rotate_left; contradiction; contradiction
          all_goals exact ⟨b2, u3, q1, rfl, hB2, u3, q1, rfl, by repeat (first | assumption | refine Ext.trans Kd ?_), hO1.rd.wide Ka Ka, hQ1.rd.wide Ka Ka, icu3, icq1⟩
      by_cases g3 : s = [109, 97, 110, 121]
      · have ea : askV d.now s = decDigits (manyV d.now 0) := by unfold askV; rw [if_neg g1, if_neg g2, if_pos g3]
        rw [ea]
        focus
          refine Ve<|Vn rfl<|Zm<|Zw<|Zo<|Wo rfl (Vb rfl rfl)<|Zx rfl<|Zm<|Vj rfl fun h4 => ?_; refine Zo<|Wo rfl (Vb rfl rfl)<|Zx rfl<|Zm<|Vj rfl fun h5 => ?_; refine Zo<|Wo rfl (Vb rfl rfl)<|Zx rfl<|Zm<|Zr rfl (fun h6 => ?_) (fun h6 => ?_); refine Zp<|Rg (fun w' => Ext w w') Xt rfl Kb ?_; intro w10 E1 K3 hz3; refine Sq 1 Ky Ja rfl rfl exq<|Wha [0, 2]<|Vs rfl ?_ ?_; refine Xe Ks Kp (hB3.ext E1) rfl<|Wnx exq<|Wha [2]<|Wh1 rfl<|Yr u1 Ku (hB1.ext E1) rfl<|Wnx exq<|Wha [3]<|Wh1 rfl<|Zq rfl (Yh (a := u1) (b := .int _ _) Tryz.call65 rfl rfl) (c3 _ _ ((Mono.mono exq h1))) ?_; rintro _ w11 ⟨rfl, E2⟩; have hs9 := E2.size
          refine Wnx exq<|Wha [4]<|Wh1 rfl<|Zq rfl (Vw (a := .int _ _) Jo rfl) (cM _) ?_; rintro _ w12 ⟨rfl, E3⟩; have hs10 := E3.size; refine Wnx exq<|Wha [5]<|Wh1 rfl<|Xk rfl Kp rfl rfl Ke Ke (hB2.ext ((E1.trans E2).trans E3)) Ka (((Ew1.trans E1).trans E2).trans E3) ?_; rintro w13 E4 hB2 K4 hz4; have hO1 := (hO1.ext exq).wrote K4 Ka; have hQ1 := (hQ1.ext exq).wrote K4 Ka; refine Wnx E4<|Up 6 rfl rfl E4<|Yg Kb ?_; refine Zy ?_; rotate_left; refine Wh1 rfl<|Yr u1 Ku (hB1.ext E1) rfl<|Wnx exq<|Wha [0, 3]<|Vs rfl ?_ ?_; refine Xe Ks Kp (hB3.ext E1) rfl<|Wnx exq<|Wha [3]<|Wh1 rfl<|Zq rfl (Yh (a := u1) (b := .int _ _) Tryz.call65 rfl rfl) (c3 _ _ ((Mono.mono exq h1))) ?_
          rintro _ w11 ⟨rfl, E2⟩; have hs9 := E2.size; refine Wnx exq<|Wha [4]<|Wh1 rfl<|Zq rfl (Vw (a := .int _ _) Jo rfl) (cM _) ?_; rintro _ w12 ⟨rfl, E3⟩; have hs10 := E3.size; refine Wnx exq<|Wha [5]<|Wh1 rfl<|Xk rfl Kp rfl rfl Ke Ke (hB2.ext ((E1.trans E2).trans E3)) Ka (((Ew1.trans E1).trans E2).trans E3) ?_; rintro w13 E4 hB2 K4 hz4; have hO1 := (hO1.ext exq).wrote K4 Ka; have hQ1 := (hQ1.ext exq).wrote K4 Ka; refine Wnx E4<|Up 6 rfl rfl E4<|Yg Kb ?_; refine Zy ?_; rotate_left; refine Wh1 rfl<|Zq rfl (Yh (a := u1) (b := .int _ _) Tryz.call65 rfl rfl) (c3 _ _ ((Mono.mono exq h1))) ?_; rintro _ w11 ⟨rfl, E2⟩; have hs9 := E2.size; refine Wnx exq<|Wha [0, 4]<|Vs rfl ?_ ?_
          refine Xe Ks Kp (hB3.ext exq) rfl<|Wnx exq<|Wha [4]<|Wh1 rfl<|Zq rfl (Vw (a := .int _ _) Jo rfl) (cM _) ?_; rintro _ w12 ⟨rfl, E3⟩; have hs10 := E3.size; refine Wnx exq<|Wha [5]<|Wh1 rfl<|Xk rfl Kp rfl rfl Ke Ke (hB2.ext ((E1.trans E2).trans E3)) Ka (((Ew1.trans E1).trans E2).trans E3) ?_; rintro w13 E4 hB2 K4 hz4; have hO1 := (hO1.ext exq).wrote K4 Ka; have hQ1 := (hQ1.ext exq).wrote K4 Ka; refine Wnx E4<|Up 6 rfl rfl E4<|Yg Kb ?_; refine Zy ?_; rotate_left; refine Wh1 rfl<|Zq rfl (Vw (a := .int _ _) Jo rfl) (cM _) ?_; rintro _ w12 ⟨rfl, E3⟩; have hs10 := E3.size
          refine Wnx exq<|Wha [0]<|Wh1 rfl<|Xe Ks Kp (hB3.ext exq) rfl<|Wnx exq<|Wha [5]<|Wh1 rfl<|Xk rfl Kp rfl rfl Ke Ke (hB2.ext ((E1.trans E2).trans E3)) Ka (((Ew1.trans E1).trans E2).trans E3) ?_; rintro w13 E4 hB2 K4 hz4; have hO1 := (hO1.ext exq).wrote K4 Ka; have hQ1 := (hQ1.ext exq).wrote K4 Ka; refine Wnx E4<|Up 6 rfl rfl E4<|Yg Kb ?_; refine Zy ?_; rotate_left; contradiction
        all_goals exact ⟨b2, u3, q1, rfl, hB2, u3, q1, rfl, by repeat (first | assumption | refine Ext.trans Kd ?_), hO1.rd.wide Ka Ka, hQ1.rd.wide Ka Ka, icu3, icq1⟩
      by_cases g4 : s = [111, 119, 110]
      · have ea : askV d.now s = ynV (hasV d.now 0 d.now 0) := by unfold askV; rw [if_neg g1, if_neg g2, if_neg g3, if_pos g4]
        rw [ea]
        focus
          refine Ve<|Vn rfl<|Zm<|Zw<|Zo<|Wo rfl (Vb rfl rfl)<|Zx rfl<|Zm<|Vj rfl fun h4 => ?_; refine Zo<|Wo rfl (Vb rfl rfl)<|Zx rfl<|Zm<|Vj rfl fun h5 => ?_; refine Zo<|Wo rfl (Vb rfl rfl)<|Zx rfl<|Zm<|Vj rfl fun h6 => ?_; refine Zo<|Wo rfl (Vb rfl rfl)<|Zx rfl<|Zm<|Zr rfl (fun h7 => ?_) (fun h7 => ?_); refine Zp<|Rg (fun w' => Ext w w') Xt rfl Kb ?_; intro w10 E1 K3 hz3; refine Sq 1 Ky Ja rfl rfl exq<|Sq 3 Ky Ja rfl rfl exq<|Wha [0, 2, 4]<|Vs rfl ?_ ?_; refine Xe Ks Kp (hB3.ext E1) rfl<|Wnx exq<|Wha [2, 4]<|Vs rfl ?_ ?_
          refine Yr u1 Ku (hB1.ext E1) rfl<|Wnx exq<|Wha [4]<|Wh1 rfl<|Yr u1 Ku (hB1.ext E1) rfl<|Wnx exq<|Wha [5]<|Wh1 rfl<|Zq rfl (Qy (a := u1) (b := .int _ _) (c := u1) (d := .int _ _) Gi rfl rfl rfl rfl) (c4 _ _ _ ((Mono.mono exq h1)) ((Mono.mono exq h1))) ?_; rintro _ w11 ⟨rfl, E2⟩; have hs9 := E2.size; refine Wnx exq<|Wha [6]<|Wh1 rfl<|Zq rfl (Vw (a := .bool _) Jq rfl) (yn _ _) ?_; rintro _ w12 ⟨rfl, E3⟩; have hs10 := E3.size; refine Wnx exq<|Wha [7]<|Wh1 rfl<|Xk rfl Kp rfl rfl Ke Ke (hB2.ext ((E1.trans E2).trans E3)) Ka (((Ew1.trans E1).trans E2).trans E3) ?_; rintro w13 E4 hB2 K4 hz4; have hO1 := (hO1.ext exq).wrote K4 Ka; have hQ1 := (hQ1.ext exq).wrote K4 Ka
          refine Wnx E4<|Up 8 rfl rfl E4<|Yg Kb ?_; refine Zy ?_; rotate_left; refine Wh1 rfl<|Yr u1 Ku (hB1.ext E1) rfl<|Wnx exq<|Wha [2]<|Wh1 rfl<|Yr u1 Ku (hB1.ext E1) rfl<|Wnx exq<|Wha [5]<|Wh1 rfl<|Zq rfl (Qy (a := u1) (b := .int _ _) (c := u1) (d := .int _ _) Gi rfl rfl rfl rfl) (c4 _ _ _ ((Mono.mono exq h1)) ((Mono.mono exq h1))) ?_; rintro _ w11 ⟨rfl, E2⟩; have hs9 := E2.size; refine Wnx exq<|Wha [6]<|Wh1 rfl<|Zq rfl (Vw (a := .bool _) Jq rfl) (yn _ _) ?_; rintro _ w12 ⟨rfl, E3⟩; have hs10 := E3.size; refine Wnx exq<|Wha [7]<|Wh1 rfl<|Xk rfl Kp rfl rfl Ke Ke (hB2.ext ((E1.trans E2).trans E3)) Ka (((Ew1.trans E1).trans E2).trans E3) ?_; rintro w13 E4 hB2 K4 hz4
          have hO1 := (hO1.ext exq).wrote K4 Ka; have hQ1 := (hQ1.ext exq).wrote K4 Ka; refine Wnx E4<|Up 8 rfl rfl E4<|Yg Kb ?_; refine Zy ?_; rotate_left; refine Vs rfl ?_ ?_; refine Yr u1 Ku (hB1.ext E1) rfl<|Wnx exq<|Wha [0, 4]<|Vs rfl ?_ ?_; refine Xe Ks Kp (hB3.ext E1) rfl<|Wnx exq<|Wha [4]<|Wh1 rfl<|Yr u1 Ku (hB1.ext E1) rfl<|Wnx exq<|Wha [5]<|Wh1 rfl<|Zq rfl (Qy (a := u1) (b := .int _ _) (c := u1) (d := .int _ _) Gi rfl rfl rfl rfl) (c4 _ _ _ ((Mono.mono exq h1)) ((Mono.mono exq h1))) ?_; rintro _ w11 ⟨rfl, E2⟩; have hs9 := E2.size; refine Wnx exq<|Wha [6]<|Wh1 rfl<|Zq rfl (Vw (a := .bool _) Jq rfl) (yn _ _) ?_; rintro _ w12 ⟨rfl, E3⟩; have hs10 := E3.size
          refine Wnx exq<|Wha [7]<|Wh1 rfl<|Xk rfl Kp rfl rfl Ke Ke (hB2.ext ((E1.trans E2).trans E3)) Ka (((Ew1.trans E1).trans E2).trans E3) ?_; rintro w13 E4 hB2 K4 hz4; have hO1 := (hO1.ext exq).wrote K4 Ka; have hQ1 := (hQ1.ext exq).wrote K4 Ka; refine Wnx E4<|Up 8 rfl rfl E4<|Yg Kb ?_; refine Zy ?_; rotate_left; refine Wh1 rfl<|Yr u1 Ku (hB1.ext E1) rfl<|Wnx exq<|Wha [0, 5]<|Vs rfl ?_ ?_; refine Xe Ks Kp (hB3.ext E1) rfl<|Wnx exq<|Wha [5]<|Wh1 rfl<|Zq rfl (Qy (a := u1) (b := .int _ _) (c := u1) (d := .int _ _) Gi rfl rfl rfl rfl) (c4 _ _ _ ((Mono.mono exq h1)) ((Mono.mono exq h1))) ?_; rintro _ w11 ⟨rfl, E2⟩; have hs9 := E2.size
          refine Wnx exq<|Wha [6]<|Wh1 rfl<|Zq rfl (Vw (a := .bool _) Jq rfl) (yn _ _) ?_; rintro _ w12 ⟨rfl, E3⟩; have hs10 := E3.size; refine Wnx exq<|Wha [7]<|Wh1 rfl<|Xk rfl Kp rfl rfl Ke Ke (hB2.ext ((E1.trans E2).trans E3)) Ka (((Ew1.trans E1).trans E2).trans E3) ?_; rintro w13 E4 hB2 K4 hz4; have hO1 := (hO1.ext exq).wrote K4 Ka; have hQ1 := (hQ1.ext exq).wrote K4 Ka; refine Wnx E4<|Up 8 rfl rfl E4<|Yg Kb ?_; refine Zy ?_; rotate_left; refine Wh1 rfl<|Zq rfl (Qy (a := u1) (b := .int _ _) (c := u1) (d := .int _ _) Gi rfl rfl rfl rfl) (c4 _ _ _ ((Mono.mono exq h1)) ((Mono.mono exq h1))) ?_; rintro _ w11 ⟨rfl, E2⟩; have hs9 := E2.size; refine Wnx exq<|Wha [0, 6]<|Vs rfl ?_ ?_
          refine Xe Ks Kp (hB3.ext exq) rfl<|Wnx exq<|Wha [6]<|Wh1 rfl<|Zq rfl (Vw (a := .bool _) Jq rfl) (yn _ _) ?_; rintro _ w12 ⟨rfl, E3⟩; have hs10 := E3.size; refine Wnx exq<|Wha [7]<|Wh1 rfl<|Xk rfl Kp rfl rfl Ke Ke (hB2.ext ((E1.trans E2).trans E3)) Ka (((Ew1.trans E1).trans E2).trans E3) ?_; rintro w13 E4 hB2 K4 hz4; have hO1 := (hO1.ext exq).wrote K4 Ka; have hQ1 := (hQ1.ext exq).wrote K4 Ka; refine Wnx E4<|Up 8 rfl rfl E4<|Yg Kb ?_; refine Zy ?_; rotate_left; refine Wh1 rfl<|Zq rfl (Vw (a := .bool _) Jq rfl) (yn _ _) ?_; rintro _ w12 ⟨rfl, E3⟩; have hs10 := E3.size
          refine Wnx exq<|Wha [0]<|Wh1 rfl<|Xe Ks Kp (hB3.ext exq) rfl<|Wnx exq<|Wha [7]<|Wh1 rfl<|Xk rfl Kp rfl rfl Ke Ke (hB2.ext ((E1.trans E2).trans E3)) Ka (((Ew1.trans E1).trans E2).trans E3) ?_; rintro w13 E4 hB2 K4 hz4; have hO1 := (hO1.ext exq).wrote K4 Ka; have hQ1 := (hQ1.ext exq).wrote K4 Ka; refine Wnx E4<|Up 8 rfl rfl E4<|Yg Kb ?_; refine Zy ?_; rotate_left; refine Wh1 rfl<|Yr u1 Ku (hB1.ext E1) rfl<|Wnx exq<|Wha [0, 2]<|Vs rfl ?_ ?_
          refine Xe Ks Kp (hB3.ext E1) rfl<|Wnx exq<|Wha [2]<|Wh1 rfl<|Yr u1 Ku (hB1.ext E1) rfl<|Wnx exq<|Wha [5]<|Wh1 rfl<|Zq rfl (Qy (a := u1) (b := .int _ _) (c := u1) (d := .int _ _) Gi rfl rfl rfl rfl) (c4 _ _ _ ((Mono.mono exq h1)) ((Mono.mono exq h1))) ?_; rintro _ w11 ⟨rfl, E2⟩; have hs9 := E2.size; refine Wnx exq<|Wha [6]<|Wh1 rfl<|Zq rfl (Vw (a := .bool _) Jq rfl) (yn _ _) ?_; rintro _ w12 ⟨rfl, E3⟩; have hs10 := E3.size; refine Wnx exq<|Wha [7]<|Wh1 rfl<|Xk rfl Kp rfl rfl Ke Ke (hB2.ext ((E1.trans E2).trans E3)) Ka (((Ew1.trans E1).trans E2).trans E3) ?_; rintro w13 E4 hB2 K4 hz4; have hO1 := (hO1.ext exq).wrote K4 Ka; have hQ1 := (hQ1.ext exq).wrote K4 Ka
          refine Wnx E4<|Up 8 rfl rfl E4<|Yg Kb ?_; refine Zy ?_; rotate_left; refine Wh1 rfl<|Yr u1 Ku (hB1.ext E1) rfl<|Wnx exq<|Wha [0, 5]<|Vs rfl ?_ ?_; refine Xe Ks Kp (hB3.ext E1) rfl<|Wnx exq<|Wha [5]<|Wh1 rfl<|Zq rfl (Qy (a := u1) (b := .int _ _) (c := u1) (d := .int _ _) Gi rfl rfl rfl rfl) (c4 _ _ _ ((Mono.mono exq h1)) ((Mono.mono exq h1))) ?_; rintro _ w11 ⟨rfl, E2⟩; have hs9 := E2.size; refine Wnx exq<|Wha [6]<|Wh1 rfl<|Zq rfl (Vw (a := .bool _) Jq rfl) (yn _ _) ?_; rintro _ w12 ⟨rfl, E3⟩; have hs10 := E3.size; refine Wnx exq<|Wha [7]<|Wh1 rfl<|Xk rfl Kp rfl rfl Ke Ke (hB2.ext ((E1.trans E2).trans E3)) Ka (((Ew1.trans E1).trans E2).trans E3) ?_; rintro w13 E4 hB2 K4 hz4
          have hO1 := (hO1.ext exq).wrote K4 Ka; have hQ1 := (hQ1.ext exq).wrote K4 Ka; refine Wnx E4<|Up 8 rfl rfl E4<|Yg Kb ?_; refine Zy ?_; rotate_left; refine Wh1 rfl<|Zq rfl (Qy (a := u1) (b := .int _ _) (c := u1) (d := .int _ _) Gi rfl rfl rfl rfl) (c4 _ _ _ ((Mono.mono exq h1)) ((Mono.mono exq h1))) ?_; rintro _ w11 ⟨rfl, E2⟩; have hs9 := E2.size; refine Wnx exq<|Wha [0, 6]<|Vs rfl ?_ ?_; refine Xe Ks Kp (hB3.ext exq) rfl<|Wnx exq<|Wha [6]<|Wh1 rfl<|Zq rfl (Vw (a := .bool _) Jq rfl) (yn _ _) ?_; rintro _ w12 ⟨rfl, E3⟩; have hs10 := E3.size; refine Wnx exq<|Wha [7]<|Wh1 rfl<|Xk rfl Kp rfl rfl Ke Ke (hB2.ext ((E1.trans E2).trans E3)) Ka (((Ew1.trans E1).trans E2).trans E3) ?_
          rintro w13 E4 hB2 K4 hz4; have hO1 := (hO1.ext exq).wrote K4 Ka; have hQ1 := (hQ1.ext exq).wrote K4 Ka; refine Wnx E4<|Up 8 rfl rfl E4<|Yg Kb ?_; refine Zy ?_; rotate_left; refine Wh1 rfl<|Zq rfl (Vw (a := .bool _) Jq rfl) (yn _ _) ?_; rintro _ w12 ⟨rfl, E3⟩; have hs10 := E3.size; refine Wnx exq<|Wha [0]<|Wh1 rfl<|Xe Ks Kp (hB3.ext exq) rfl<|Wnx exq<|Wha [7]<|Wh1 rfl<|Xk rfl Kp rfl rfl Ke Ke (hB2.ext ((E1.trans E2).trans E3)) Ka (((Ew1.trans E1).trans E2).trans E3) ?_; rintro w13 E4 hB2 K4 hz4; have hO1 := (hO1.ext exq).wrote K4 Ka; have hQ1 := (hQ1.ext exq).wrote K4 Ka; refine Wnx E4<|Up 8 rfl rfl E4<|Yg Kb ?_; refine Zy ?_; rotate_left; contradiction
        all_goals exact ⟨b2, u3, q1, rfl, hB2, u3, q1, rfl, by repeat (first | assumption | refine Ext.trans Kd ?_), hO1.rd.wide Ka Ka, hQ1.rd.wide Ka Ka, icu3, icq1⟩
      by_cases g5 : s = [100, 101, 101, 112]
      · have ea : askV d.now s = if 0 ≤ deepAtV d.now 0 then decDigits (deepAtV d.now 0).toNat else [110, 111, 110, 101] := by
          unfold askV; rw [if_neg g1, if_neg g2, if_neg g3, if_neg g4, if_pos g5]
        rw [ea]
        rcases deepAtV_nat hp 0 with ⟨c, hc, e⟩ | e
        · rw [e] at c5 ⊢
          rw [if_pos Ka]
          have cC := fun w => cI w c Ka
          focus
            refine Ve<|Vn rfl<|Zm<|Zw<|Zo<|Wo rfl (Vb rfl rfl)<|Zx rfl<|Zm<|Vj rfl fun h4 => ?_; refine Zo<|Wo rfl (Vb rfl rfl)<|Zx rfl<|Zm<|Vj rfl fun h5 => ?_; refine Zo<|Wo rfl (Vb rfl rfl)<|Zx rfl<|Zm<|Vj rfl fun h6 => ?_; refine Zo<|Wo rfl (Vb rfl rfl)<|Zx rfl<|Zm<|Vj rfl fun h7 => ?_; refine Zo<|Wo rfl (Vb rfl rfl)<|Zx rfl<|Zm<|Zr rfl (fun h8 => ?_) (fun h8 => ?_); refine Zp<|Zo<|Vk Ky Ja rfl<|Yr u1 Ku hB1 rfl<|Zq rfl (Yh (a := u1) (b := .int _ _) Zd rfl rfl) (c5 _ _ ((Mono.mono Ew1 h1))) ?_; rintro _ w10 ⟨rfl, E1⟩; have hs8 := E1.size; refine Vl rfl<|Zm<|Vj rfl fun h9 => ?_
            refine Zu<|Zp<|Rg (fun w' => Ext w w') Xt rfl Kb ?_; intro w11 E2 K3 hz3; refine Sq 1 Ky Ja rfl rfl exq<|Wha [0, 2]<|Vs rfl ?_ ?_; refine Xe Ks Kp (hB3.ext exq) rfl<|Wnx exq<|Wha [2]<|Wh1 rfl<|Yr u1 Ku (hB1.ext exq) rfl<|Wnx exq<|Wha [3]<|Wh1 rfl<|Zq rfl (Yh (a := u1) (b := .int _ _) Zd rfl rfl) (c5 _ _ ((Mono.mono exq h1))) ?_; rintro _ w12 ⟨rfl, E3⟩; have hs10 := E3.size; refine Wnx exq<|Wha [4]<|Wh1 rfl<|Zq rfl (Vw (a := .int _ _) Jo rfl) (cC _) ?_; rintro _ w13 ⟨rfl, E4⟩; have hs11 := E4.size
            refine Wnx exq<|Wha [5]<|Wh1 rfl<|Xk rfl Kp rfl rfl Ke Ke (hB2.ext (((E1.trans E2).trans E3).trans E4)) Ka ((((Ew1.trans E1).trans E2).trans E3).trans E4) ?_; rintro w14 E5 hB2 K4 hz4; have hO1 := (hO1.ext exq).wrote K4 Ka; have hQ1 := (hQ1.ext exq).wrote K4 Ka; refine Wnx E5<|Up 6 rfl rfl E5<|Yg Kb ?_; refine Zy ?_; rotate_left; refine Wh1 rfl<|Yr u1 Ku (hB1.ext exq) rfl<|Wnx exq<|Wha [0, 3]<|Vs rfl ?_ ?_; refine Xe Ks Kp (hB3.ext exq) rfl<|Wnx exq<|Wha [3]<|Wh1 rfl<|Zq rfl (Yh (a := u1) (b := .int _ _) Zd rfl rfl) (c5 _ _ ((Mono.mono exq h1))) ?_; rintro _ w12 ⟨rfl, E3⟩; have hs10 := E3.size
            refine Wnx exq<|Wha [4]<|Wh1 rfl<|Zq rfl (Vw (a := .int _ _) Jo rfl) (cC _) ?_; rintro _ w13 ⟨rfl, E4⟩; have hs11 := E4.size; refine Wnx exq<|Wha [5]<|Wh1 rfl<|Xk rfl Kp rfl rfl Ke Ke (hB2.ext (((E1.trans E2).trans E3).trans E4)) Ka ((((Ew1.trans E1).trans E2).trans E3).trans E4) ?_; rintro w14 E5 hB2 K4 hz4; have hO1 := (hO1.ext exq).wrote K4 Ka; have hQ1 := (hQ1.ext exq).wrote K4 Ka; refine Wnx E5<|Up 6 rfl rfl E5<|Yg Kb ?_; refine Zy ?_; rotate_left; refine Wh1 rfl<|Zq rfl (Yh (a := u1) (b := .int _ _) Zd rfl rfl) (c5 _ _ ((Mono.mono exq h1))) ?_; rintro _ w12 ⟨rfl, E3⟩; have hs10 := E3.size; refine Wnx exq<|Wha [0, 4]<|Vs rfl ?_ ?_
            refine Xe Ks Kp (hB3.ext exq) rfl<|Wnx exq<|Wha [4]<|Wh1 rfl<|Zq rfl (Vw (a := .int _ _) Jo rfl) (cC _) ?_; rintro _ w13 ⟨rfl, E4⟩; have hs11 := E4.size; refine Wnx exq<|Wha [5]<|Wh1 rfl<|Xk rfl Kp rfl rfl Ke Ke (hB2.ext (((E1.trans E2).trans E3).trans E4)) Ka ((((Ew1.trans E1).trans E2).trans E3).trans E4) ?_; rintro w14 E5 hB2 K4 hz4; have hO1 := (hO1.ext exq).wrote K4 Ka; have hQ1 := (hQ1.ext exq).wrote K4 Ka; refine Wnx E5<|Up 6 rfl rfl E5<|Yg Kb ?_; refine Zy ?_; rotate_left; refine Wh1 rfl<|Zq rfl (Vw (a := .int _ _) Jo rfl) (cC _) ?_; rintro _ w13 ⟨rfl, E4⟩; have hs11 := E4.size
            refine Wnx exq<|Wha [0]<|Wh1 rfl<|Xe Ks Kp (hB3.ext exq) rfl<|Wnx exq<|Wha [5]<|Wh1 rfl<|Xk rfl Kp rfl rfl Ke Ke (hB2.ext (((E1.trans E2).trans E3).trans E4)) Ka ((((Ew1.trans E1).trans E2).trans E3).trans E4) ?_; rintro w14 E5 hB2 K4 hz4; have hO1 := (hO1.ext exq).wrote K4 Ka; have hQ1 := (hQ1.ext exq).wrote K4 Ka; refine Wnx E5<|Up 6 rfl rfl E5<|Yg Kb ?_; refine Zy ?_; rotate_left; contradiction
          all_goals exact ⟨b2, u3, q1, rfl, hB2, u3, q1, rfl, by repeat (first | assumption | refine Ext.trans Kd ?_), hO1.rd.wide Ka Ka, hQ1.rd.wide Ka Ka, icu3, icq1⟩
        · rw [e] at c5 ⊢
          rw [if_neg Ka]
          focus
            refine Ve<|Vn rfl<|Zm<|Zw<|Zo<|Wo rfl (Vb rfl rfl)<|Zx rfl<|Zm<|Vj rfl fun h4 => ?_; refine Zo<|Wo rfl (Vb rfl rfl)<|Zx rfl<|Zm<|Vj rfl fun h5 => ?_; refine Zo<|Wo rfl (Vb rfl rfl)<|Zx rfl<|Zm<|Vj rfl fun h6 => ?_; refine Zo<|Wo rfl (Vb rfl rfl)<|Zx rfl<|Zm<|Vj rfl fun h7 => ?_; refine Zo<|Wo rfl (Vb rfl rfl)<|Zx rfl<|Zm<|Zr rfl (fun h8 => ?_) (fun h8 => ?_); refine Zp<|Zo<|Vk Ky Ja rfl<|Yr u1 Ku hB1 rfl<|Zq rfl (Yh (a := u1) (b := .int _ _) Zd rfl rfl) (c5 _ _ ((Mono.mono Ew1 h1))) ?_; rintro _ w10 ⟨rfl, E1⟩; have hs8 := E1.size; refine Vl rfl<|Zm<|Zr rfl (fun h9 => ?_) (fun h9 => ?_)
            refine Zo<|Xe Ks Kp (hB3.ext E1) rfl<|Ul Kp (hB2.ext E1) rfl (Ew1.trans E1) ?_; rintro w11 E2 hB2 K3 hz3; have hO1 := (hO1.ext E1).wrote K3 Ka; have hQ1 := (hQ1.ext E1).wrote K3 Ka; refine Yi rfl<|Zm<|Zy ?_; rotate_left; contradiction; contradiction
          all_goals exact ⟨b2, u3, q1, rfl, hB2, u3, q1, rfl, by repeat (first | assumption | refine Ext.trans Kd ?_), hO1.rd.wide Ka Ka, hQ1.rd.wide Ka Ka, icu3, icq1⟩
      by_cases g6 : s = [102, 111, 117, 110, 100, 101, 100]
      · have ea : askV d.now s = decDigits (faV d.now).length := by unfold askV; rw [if_neg g1, if_neg g2, if_neg g3, if_neg g4, if_neg g5, if_pos g6]
        rw [ea]
        focus
          refine Ve<|Vn rfl<|Zm<|Zw<|Zo<|Wo rfl (Vb rfl rfl)<|Zx rfl<|Zm<|Vj rfl fun h4 => ?_; refine Zo<|Wo rfl (Vb rfl rfl)<|Zx rfl<|Zm<|Vj rfl fun h5 => ?_; refine Zo<|Wo rfl (Vb rfl rfl)<|Zx rfl<|Zm<|Vj rfl fun h6 => ?_; refine Zo<|Wo rfl (Vb rfl rfl)<|Zx rfl<|Zm<|Vj rfl fun h7 => ?_; refine Zo<|Wo rfl (Vb rfl rfl)<|Zx rfl<|Zm<|Vj rfl fun h8 => ?_; refine Zo<|Wo rfl (Vb rfl rfl)<|Zx rfl<|Zm<|Zr rfl (fun h9 => ?_) (fun h9 => ?_); refine Zp<|Rg (fun w' => Ext w w') Xt rfl Kb ?_; intro w10 E1 K3 hz3; refine Sq 1 Ky Ja rfl rfl exq<|Wha [0, 2]<|Vs rfl ?_ ?_
          refine Xe Ks Kp (hB3.ext E1) rfl<|Wnx exq<|Wha [2]<|Wh1 rfl<|Yr u1 Ku (hB1.ext E1) rfl<|Wnx exq<|Wha [3]<|Wh1 rfl<|Zq rfl (Vw (a := u1) Tryz.call69 rfl) (c6 _ _ ((Mono.mono exq h1))) ?_; rintro u4 w11 ⟨E2, hO2⟩; have hs9 := E2.size; refine Wnx exq<|Yn 4 rfl Kb Kb rfl (fun _ _ => Rr Kn rfl (Owned.read hO2)) exq ?_; refine Wha [5]<|Wh1 rfl<|Zq rfl (Vw (a := .int _ _) Jo rfl) (cF _) ?_; rintro _ w12 ⟨rfl, E3⟩; have hs10 := E3.size; refine Wnx exq<|Wha [6]<|Wh1 rfl<|Xk rfl Kp rfl rfl Ke Ke (hB2.ext ((E1.trans E2).trans E3)) Ka (((Ew1.trans E1).trans E2).trans E3) ?_; rintro w13 E4 hB2 K4 hz4; have hO1 := (hO1.ext exq).wrote K4 Ka
          have hQ1 := (hQ1.ext exq).wrote K4 Ka; refine Wnx E4<|Up 7 rfl rfl E4<|Yg Kb ?_; refine Zy ?_; rotate_left; refine Wh1 rfl<|Yr u1 Ku (hB1.ext E1) rfl<|Wnx exq<|Wha [0, 3]<|Vs rfl ?_ ?_; refine Xe Ks Kp (hB3.ext E1) rfl<|Wnx exq<|Wha [3]<|Wh1 rfl<|Zq rfl (Vw (a := u1) Tryz.call69 rfl) (c6 _ _ ((Mono.mono exq h1))) ?_; rintro u4 w11 ⟨E2, hO2⟩; have hs9 := E2.size; refine Wnx exq<|Yn 4 rfl Kb Kb rfl (fun _ _ => Rr Kn rfl (Owned.read hO2)) exq ?_; refine Wha [5]<|Wh1 rfl<|Zq rfl (Vw (a := .int _ _) Jo rfl) (cF _) ?_; rintro _ w12 ⟨rfl, E3⟩; have hs10 := E3.size
          refine Wnx exq<|Wha [6]<|Wh1 rfl<|Xk rfl Kp rfl rfl Ke Ke (hB2.ext ((E1.trans E2).trans E3)) Ka (((Ew1.trans E1).trans E2).trans E3) ?_; rintro w13 E4 hB2 K4 hz4; have hO1 := (hO1.ext exq).wrote K4 Ka; have hQ1 := (hQ1.ext exq).wrote K4 Ka; refine Wnx E4<|Up 7 rfl rfl E4<|Yg Kb ?_; refine Zy ?_; rotate_left; refine Wh1 rfl<|Zq rfl (Vw (a := u1) Tryz.call69 rfl) (c6 _ _ ((Mono.mono exq h1))) ?_; rintro u4 w11 ⟨E2, hO2⟩; have hs9 := E2.size; refine Wnx exq<|Yn 4 rfl Kb Kb rfl (fun _ _ => Rr Kn rfl (Owned.read hO2)) exq ?_; refine Wha [0, 5]<|Vs rfl ?_ ?_
          refine Xe Ks Kp (hB3.ext exq) rfl<|Wnx exq<|Wha [5]<|Wh1 rfl<|Zq rfl (Vw (a := .int _ _) Jo rfl) (cF _) ?_; rintro _ w12 ⟨rfl, E3⟩; have hs10 := E3.size; refine Wnx exq<|Wha [6]<|Wh1 rfl<|Xk rfl Kp rfl rfl Ke Ke (hB2.ext ((E1.trans E2).trans E3)) Ka (((Ew1.trans E1).trans E2).trans E3) ?_; rintro w13 E4 hB2 K4 hz4; have hO1 := (hO1.ext exq).wrote K4 Ka; have hQ1 := (hQ1.ext exq).wrote K4 Ka; refine Wnx E4<|Up 7 rfl rfl E4<|Yg Kb ?_; refine Zy ?_; rotate_left; refine Wh1 rfl<|Zq rfl (Vw (a := .int _ _) Jo rfl) (cF _) ?_; rintro _ w12 ⟨rfl, E3⟩; have hs10 := E3.size
          refine Wnx exq<|Wha [0]<|Wh1 rfl<|Xe Ks Kp (hB3.ext exq) rfl<|Wnx exq<|Wha [6]<|Wh1 rfl<|Xk rfl Kp rfl rfl Ke Ke (hB2.ext ((E1.trans E2).trans E3)) Ka (((Ew1.trans E1).trans E2).trans E3) ?_; rintro w13 E4 hB2 K4 hz4; have hO1 := (hO1.ext exq).wrote K4 Ka; have hQ1 := (hQ1.ext exq).wrote K4 Ka; refine Wnx E4<|Up 7 rfl rfl E4<|Yg Kb ?_; refine Zy ?_; rotate_left; contradiction
        all_goals exact ⟨b2, u3, q1, rfl, hB2, u3, q1, rfl, by repeat (first | assumption | refine Ext.trans Kd ?_), hO1.rd.wide Ka Ka, hQ1.rd.wide Ka Ka, icu3, icq1⟩
      have ea : askV d.now s = if (cutF 32 s).2.2 then ask2 d.now (cutF 32 s).1 (cutF 32 s).2.1 else [119, 104, 97, 116] := by
        unfold askV; rw [if_neg g1, if_neg g2, if_neg g3, if_neg g4, if_neg g5, if_neg g6]
      rw [ea]
      rcases ask_words d.now s with ⟨ps, e1, e2, e3⟩ | ⟨a, r, e1, e2, e3⟩
      · rw [e1] at c7
        rw [e3]
        focus
          refine Ve<|Vn rfl<|Zm<|Zw<|Zo<|Wo rfl (Vb rfl rfl)<|Zx rfl<|Zm<|Vj rfl fun h4 => ?_; refine Zo<|Wo rfl (Vb rfl rfl)<|Zx rfl<|Zm<|Vj rfl fun h5 => ?_; refine Zo<|Wo rfl (Vb rfl rfl)<|Zx rfl<|Zm<|Vj rfl fun h6 => ?_; refine Zo<|Wo rfl (Vb rfl rfl)<|Zx rfl<|Zm<|Vj rfl fun h7 => ?_; refine Zo<|Wo rfl (Vb rfl rfl)<|Zx rfl<|Zm<|Vj rfl fun h8 => ?_; refine Zo<|Wo rfl (Vb rfl rfl)<|Zx rfl<|Zm<|Vj rfl fun h9 => ?_; refine Zu<|Zo<|Vn rfl<|Zq rfl (Yh (a := .string _) (b := .int _ _) Tryz.call70 rfl rfl) (c7 _) ?_; rintro u4 w10 ⟨E1, hO2⟩; have hs8 := E1.size
          refine Yp u4 rfl<|Zm<|Zp<|Zo<|Va u4 rfl<|Vm Jg rfl (Owned.read hO2)<|Vi rfl<|Zm<|Zs rfl fun h10 => ?_; refine Zu<|Zo<|Xe Ks Kp (hB3.ext E1) rfl<|Ul Kp (hB2.ext E1) rfl (Ew1.trans E1) ?_; rintro w11 E2 hB2 K3 hz3; have hO1 := (hO1.ext E1).wrote K3 Ka; have hQ1 := (hQ1.ext E1).wrote K3 Ka; refine Yi rfl<|Zm<|Zy ?_
        all_goals exact ⟨b2, u3, q1, rfl, hB2, u3, q1, rfl, by repeat (first | assumption | refine Ext.trans Kd ?_), hO1.rd.wide Ka Ka, hQ1.rd.wide Ka Ka, icu3, icq1⟩
      · rw [e1] at c7
        rw [e3]
        have c8 : ∀ (w : World) (v : Value), ESl Ints w v d.now → Does Tryz.prog 71 [v, str a, str r] w (Ret w (str (ask2 d.now a r))) := fun w v h => l11Ask_ok w v d.now h hp a r Ka
        have stop30 : True := trivial
        focus
          have szEw1 := Ew1.size; refine Ve<|Vn rfl<|Zm<|Zw<|Zo<|Wo rfl (Vb rfl rfl)<|Zx rfl<|Zm<|Vj rfl fun h4 => ?_; refine Zo<|Wo rfl (Vb rfl rfl)<|Zx rfl<|Zm<|Vj rfl fun h5 => ?_; refine Zo<|Wo rfl (Vb rfl rfl)<|Zx rfl<|Zm<|Vj rfl fun h6 => ?_; refine Zo<|Wo rfl (Vb rfl rfl)<|Zx rfl<|Zm<|Vj rfl fun h7 => ?_; refine Zo<|Wo rfl (Vb rfl rfl)<|Zx rfl<|Zm<|Vj rfl fun h8 => ?_; refine Zo<|Wo rfl (Vb rfl rfl)<|Zx rfl<|Zm<|Vj rfl fun h9 => ?_; refine Zu<|Zo<|Vn rfl<|Zq rfl (Yh (a := .string _) (b := .int _ _) Tryz.call70 rfl rfl) (c7 _) ?_; rintro u4 w10 ⟨E1, hO2⟩; have ichO2 := OwnedB.isC (Owned.toB hO2); have hs8 := E1.size
          refine Yp u4 rfl<|Zm<|Zp<|Zo<|Va u4 rfl<|Vm Jg rfl (Owned.read hO2)<|Vi rfl<|Zm<|Zr rfl (fun h10 => ?_) (fun h10 => ?_); refine Zp ?_; rotate_left; contradiction
        clear stop30
        obtain ⟨wb, wc, rfl, _⟩ := hO2.lit Ki
        focus
          have hB3 := (hB3.ext E1); have hB1 := (hB1.ext E1); have hB2 := (hB2.ext E1); have hO1 := (hO1.ext E1); have hQ1 := (hQ1.ext E1); have hO2 := hO2.toB; have Ew2 := (Ew1.trans E1); clear Ew1; clear szEw1; clear E1
        have heldS : w = w := rfl
        focus
          refine Rg (fun w' => Ext w w') Xt rfl Kb ?_; intro w11 E1 K3 hz3; refine Sq 1 Ky Ja rfl rfl exq<|WtmS 3 rfl rfl exq<|Yn 4 rfl Kb Kb rfl (fun _ _ => Yw (k := 0) Jg Kx rfl rfl Ka) exq ?_; refine WtmS 6 rfl rfl exq<|Yn 7 rfl Kb Kb rfl (fun _ _ => Yw (k := 1) Jg Kx rfl rfl Ka) exq ?_; refine Wha [0, 2, 5, 8]<|Vs rfl ?_ ?_; refine Xe Ks Kp (hB3.ext E1) rfl<|Wnx exq<|Wha [2, 5, 8]<|Vs rfl ?_ ?_; refine Yr u1 Ku (hB1.ext E1) rfl<|Wnx exq<|Wha [5, 8]<|Vs rfl ?_ ?_; refine Ua Kv rfl rfl (Mono.mono E1 (OwnedB.read hO2)) Kf ?_; rintro _ ⟨rfl, -⟩
          refine Wnx exq<|Wha [8]<|Wh1 rfl<|Ua Kv rfl rfl (Mono.mono E1 (OwnedB.read hO2)) Kf ?_; rintro _ ⟨rfl, -⟩; refine Wnx exq<|Wha [9]<|Wh1 rfl<|Zq rfl (Uc (a := u1) (b := .string _) (c := .string _) Jh rfl rfl rfl) (c8 _ _ ((Mono.mono exq h1))) ?_; rintro _ w12 ⟨rfl, E2⟩; have hs10 := E2.size; refine Wnx exq<|Wha [10]<|Wh1 rfl<|Ul Kp (hB2.ext (E1.trans E2)) rfl ((Ew2.trans E1).trans E2) ?_; rintro w13 E3 hB2 K4 hz4; have hO1 := (hO1.ext exq).wrote K4 Ka; have hQ1 := (hQ1.ext exq).wrote K4 Ka; refine Wnx E3<|Up 11 rfl rfl E3<|Yg Kb ?_; refine Zy ?_; rotate_left; refine Wh1 rfl<|Ua Kv rfl rfl (Mono.mono E1 (OwnedB.read hO2)) Kf ?_; rintro _ ⟨rfl, -⟩
          refine Wnx exq<|Wha [5]<|Wh1 rfl<|Ua Kv rfl rfl (Mono.mono E1 (OwnedB.read hO2)) Kf ?_; rintro _ ⟨rfl, -⟩; refine Wnx exq<|Wha [9]<|Wh1 rfl<|Zq rfl (Uc (a := u1) (b := .string _) (c := .string _) Jh rfl rfl rfl) (c8 _ _ ((Mono.mono exq h1))) ?_; rintro _ w12 ⟨rfl, E2⟩; have hs10 := E2.size; refine Wnx exq<|Wha [10]<|Wh1 rfl<|Ul Kp (hB2.ext (E1.trans E2)) rfl ((Ew2.trans E1).trans E2) ?_; rintro w13 E3 hB2 K4 hz4; have hO1 := (hO1.ext exq).wrote K4 Ka; have hQ1 := (hQ1.ext exq).wrote K4 Ka; refine Wnx E3<|Up 11 rfl rfl E3<|Yg Kb ?_; refine Zy ?_; rotate_left; refine Vs rfl ?_ ?_; refine Ua Kv rfl rfl (Mono.mono E1 (OwnedB.read hO2)) Kf ?_; rintro _ ⟨rfl, -⟩
          refine Wnx exq<|Wha [2, 8]<|Vs rfl ?_ ?_; refine Yr u1 Ku (hB1.ext E1) rfl<|Wnx exq<|Wha [8]<|Wh1 rfl<|Ua Kv rfl rfl (Mono.mono E1 (OwnedB.read hO2)) Kf ?_; rintro _ ⟨rfl, -⟩; refine Wnx exq<|Wha [9]<|Wh1 rfl<|Zq rfl (Uc (a := u1) (b := .string _) (c := .string _) Jh rfl rfl rfl) (c8 _ _ ((Mono.mono exq h1))) ?_; rintro _ w12 ⟨rfl, E2⟩; have hs10 := E2.size; refine Wnx exq<|Wha [10]<|Wh1 rfl<|Ul Kp (hB2.ext (E1.trans E2)) rfl ((Ew2.trans E1).trans E2) ?_; rintro w13 E3 hB2 K4 hz4; have hO1 := (hO1.ext exq).wrote K4 Ka; have hQ1 := (hQ1.ext exq).wrote K4 Ka; refine Wnx E3<|Up 11 rfl rfl E3<|Yg Kb ?_; refine Zy ?_; rotate_left
          refine Wh1 rfl<|Ua Kv rfl rfl (Mono.mono E1 (OwnedB.read hO2)) Kf ?_; rintro _ ⟨rfl, -⟩; refine Wnx exq<|Wha [2]<|Wh1 rfl<|Yr u1 Ku (hB1.ext E1) rfl<|Wnx exq<|Wha [9]<|Wh1 rfl<|Zq rfl (Uc (a := u1) (b := .string _) (c := .string _) Jh rfl rfl rfl) (c8 _ _ ((Mono.mono exq h1))) ?_; rintro _ w12 ⟨rfl, E2⟩; have hs10 := E2.size; refine Wnx exq<|Wha [10]<|Wh1 rfl<|Ul Kp (hB2.ext (E1.trans E2)) rfl ((Ew2.trans E1).trans E2) ?_; rintro w13 E3 hB2 K4 hz4; have hO1 := (hO1.ext exq).wrote K4 Ka; have hQ1 := (hQ1.ext exq).wrote K4 Ka; refine Wnx E3<|Up 11 rfl rfl E3<|Yg Kb ?_; refine Zy ?_; rotate_left; refine Wh1 rfl<|Ua Kv rfl rfl (Mono.mono E1 (OwnedB.read hO2)) Kf ?_; rintro _ ⟨rfl, -⟩
          refine Wnx exq<|Wha [2, 5]<|Vs rfl ?_ ?_; refine Yr u1 Ku (hB1.ext E1) rfl<|Wnx exq<|Wha [5]<|Wh1 rfl<|Ua Kv rfl rfl (Mono.mono E1 (OwnedB.read hO2)) Kf ?_; rintro _ ⟨rfl, -⟩; refine Wnx exq<|Wha [9]<|Wh1 rfl<|Zq rfl (Uc (a := u1) (b := .string _) (c := .string _) Jh rfl rfl rfl) (c8 _ _ ((Mono.mono exq h1))) ?_; rintro _ w12 ⟨rfl, E2⟩; have hs10 := E2.size; refine Wnx exq<|Wha [10]<|Wh1 rfl<|Ul Kp (hB2.ext (E1.trans E2)) rfl ((Ew2.trans E1).trans E2) ?_; rintro w13 E3 hB2 K4 hz4; have hO1 := (hO1.ext exq).wrote K4 Ka; have hQ1 := (hQ1.ext exq).wrote K4 Ka; refine Wnx E3<|Up 11 rfl rfl E3<|Yg Kb ?_; refine Zy ?_; rotate_left
          refine Wh1 rfl<|Ua Kv rfl rfl (Mono.mono E1 (OwnedB.read hO2)) Kf ?_; rintro _ ⟨rfl, -⟩; refine Wnx exq<|Wha [2]<|Wh1 rfl<|Yr u1 Ku (hB1.ext E1) rfl<|Wnx exq<|Wha [9]<|Wh1 rfl<|Zq rfl (Uc (a := u1) (b := .string _) (c := .string _) Jh rfl rfl rfl) (c8 _ _ ((Mono.mono exq h1))) ?_; rintro _ w12 ⟨rfl, E2⟩; have hs10 := E2.size; refine Wnx exq<|Wha [10]<|Wh1 rfl<|Ul Kp (hB2.ext (E1.trans E2)) rfl ((Ew2.trans E1).trans E2) ?_; rintro w13 E3 hB2 K4 hz4; have hO1 := (hO1.ext exq).wrote K4 Ka; have hQ1 := (hQ1.ext exq).wrote K4 Ka; refine Wnx E3<|Up 11 rfl rfl E3<|Yg Kb ?_; refine Zy ?_; rotate_left; refine Vs rfl ?_ ?_; refine Yr u1 Ku (hB1.ext E1) rfl<|Wnx exq<|Wha [0, 5, 8]<|Vs rfl ?_ ?_
          refine Xe Ks Kp (hB3.ext E1) rfl<|Wnx exq<|Wha [5, 8]<|Vs rfl ?_ ?_; refine Ua Kv rfl rfl (Mono.mono E1 (OwnedB.read hO2)) Kf ?_; rintro _ ⟨rfl, -⟩; refine Wnx exq<|Wha [8]<|Wh1 rfl<|Ua Kv rfl rfl (Mono.mono E1 (OwnedB.read hO2)) Kf ?_; rintro _ ⟨rfl, -⟩; refine Wnx exq<|Wha [9]<|Wh1 rfl<|Zq rfl (Uc (a := u1) (b := .string _) (c := .string _) Jh rfl rfl rfl) (c8 _ _ ((Mono.mono exq h1))) ?_; rintro _ w12 ⟨rfl, E2⟩; have hs10 := E2.size; refine Wnx exq<|Wha [10]<|Wh1 rfl<|Ul Kp (hB2.ext (E1.trans E2)) rfl ((Ew2.trans E1).trans E2) ?_; rintro w13 E3 hB2 K4 hz4; have hO1 := (hO1.ext exq).wrote K4 Ka; have hQ1 := (hQ1.ext exq).wrote K4 Ka
          refine Wnx E3<|Up 11 rfl rfl E3<|Yg Kb ?_; refine Zy ?_; rotate_left; refine Wh1 rfl<|Ua Kv rfl rfl (Mono.mono E1 (OwnedB.read hO2)) Kf ?_; rintro _ ⟨rfl, -⟩; refine Wnx exq<|Wha [5]<|Wh1 rfl<|Ua Kv rfl rfl (Mono.mono E1 (OwnedB.read hO2)) Kf ?_; rintro _ ⟨rfl, -⟩; refine Wnx exq<|Wha [9]<|Wh1 rfl<|Zq rfl (Uc (a := u1) (b := .string _) (c := .string _) Jh rfl rfl rfl) (c8 _ _ ((Mono.mono exq h1))) ?_; rintro _ w12 ⟨rfl, E2⟩; have hs10 := E2.size; refine Wnx exq<|Wha [10]<|Wh1 rfl<|Ul Kp (hB2.ext (E1.trans E2)) rfl ((Ew2.trans E1).trans E2) ?_; rintro w13 E3 hB2 K4 hz4; have hO1 := (hO1.ext exq).wrote K4 Ka; have hQ1 := (hQ1.ext exq).wrote K4 Ka
          refine Wnx E3<|Up 11 rfl rfl E3<|Yg Kb ?_; refine Zy ?_; rotate_left; refine Vs rfl ?_ ?_; refine Ua Kv rfl rfl (Mono.mono E1 (OwnedB.read hO2)) Kf ?_; rintro _ ⟨rfl, -⟩; refine Wnx exq<|Wha [0, 8]<|Vs rfl ?_ ?_; refine Xe Ks Kp (hB3.ext E1) rfl<|Wnx exq<|Wha [8]<|Wh1 rfl<|Ua Kv rfl rfl (Mono.mono E1 (OwnedB.read hO2)) Kf ?_; rintro _ ⟨rfl, -⟩; refine Wnx exq<|Wha [9]<|Wh1 rfl<|Zq rfl (Uc (a := u1) (b := .string _) (c := .string _) Jh rfl rfl rfl) (c8 _ _ ((Mono.mono exq h1))) ?_; rintro _ w12 ⟨rfl, E2⟩; have hs10 := E2.size; refine Wnx exq<|Wha [10]<|Wh1 rfl<|Ul Kp (hB2.ext (E1.trans E2)) rfl ((Ew2.trans E1).trans E2) ?_; rintro w13 E3 hB2 K4 hz4
          have hO1 := (hO1.ext exq).wrote K4 Ka; have hQ1 := (hQ1.ext exq).wrote K4 Ka; refine Wnx E3<|Up 11 rfl rfl E3<|Yg Kb ?_; refine Zy ?_; rotate_left; refine Wh1 rfl<|Ua Kv rfl rfl (Mono.mono E1 (OwnedB.read hO2)) Kf ?_; rintro _ ⟨rfl, -⟩; refine Wnx exq<|Wha [0, 9]<|Vs rfl ?_ ?_; refine Xe Ks Kp (hB3.ext E1) rfl<|Wnx exq<|Wha [9]<|Wh1 rfl<|Zq rfl (Uc (a := u1) (b := .string _) (c := .string _) Jh rfl rfl rfl) (c8 _ _ ((Mono.mono exq h1))) ?_; rintro _ w12 ⟨rfl, E2⟩; have hs10 := E2.size; refine Wnx exq<|Wha [10]<|Wh1 rfl<|Ul Kp (hB2.ext (E1.trans E2)) rfl ((Ew2.trans E1).trans E2) ?_; rintro w13 E3 hB2 K4 hz4; have hO1 := (hO1.ext exq).wrote K4 Ka; have hQ1 := (hQ1.ext exq).wrote K4 Ka
          refine Wnx E3<|Up 11 rfl rfl E3<|Yg Kb ?_; refine Zy ?_; rotate_left; refine Wh1 rfl<|Zq rfl (Uc (a := u1) (b := .string _) (c := .string _) Jh rfl rfl rfl) (c8 _ _ ((Mono.mono exq h1))) ?_; rintro _ w12 ⟨rfl, E2⟩; have hs10 := E2.size; refine Wnx exq<|Wha [0]<|Wh1 rfl<|Xe Ks Kp (hB3.ext exq) rfl<|Wnx exq<|Wha [10]<|Wh1 rfl<|Ul Kp (hB2.ext (E1.trans E2)) rfl ((Ew2.trans E1).trans E2) ?_; rintro w13 E3 hB2 K4 hz4; have hO1 := (hO1.ext exq).wrote K4 Ka; have hQ1 := (hQ1.ext exq).wrote K4 Ka; refine Wnx E3<|Up 11 rfl rfl E3<|Yg Kb ?_; refine Zy ?_; rotate_left; refine Wh1 rfl<|Ua Kv rfl rfl (Mono.mono E1 (OwnedB.read hO2)) Kf ?_; rintro _ ⟨rfl, -⟩; refine Wnx exq<|Wha [0, 5]<|Vs rfl ?_ ?_
          refine Xe Ks Kp (hB3.ext E1) rfl<|Wnx exq<|Wha [5]<|Wh1 rfl<|Ua Kv rfl rfl (Mono.mono E1 (OwnedB.read hO2)) Kf ?_; rintro _ ⟨rfl, -⟩; refine Wnx exq<|Wha [9]<|Wh1 rfl<|Zq rfl (Uc (a := u1) (b := .string _) (c := .string _) Jh rfl rfl rfl) (c8 _ _ ((Mono.mono exq h1))) ?_; rintro _ w12 ⟨rfl, E2⟩; have hs10 := E2.size; refine Wnx exq<|Wha [10]<|Wh1 rfl<|Ul Kp (hB2.ext (E1.trans E2)) rfl ((Ew2.trans E1).trans E2) ?_; rintro w13 E3 hB2 K4 hz4; have hO1 := (hO1.ext exq).wrote K4 Ka; have hQ1 := (hQ1.ext exq).wrote K4 Ka; refine Wnx E3<|Up 11 rfl rfl E3<|Yg Kb ?_; refine Zy ?_; rotate_left; refine Wh1 rfl<|Ua Kv rfl rfl (Mono.mono E1 (OwnedB.read hO2)) Kf ?_; rintro _ ⟨rfl, -⟩
          refine Wnx exq<|Wha [0, 9]<|Vs rfl ?_ ?_; refine Xe Ks Kp (hB3.ext E1) rfl<|Wnx exq<|Wha [9]<|Wh1 rfl<|Zq rfl (Uc (a := u1) (b := .string _) (c := .string _) Jh rfl rfl rfl) (c8 _ _ ((Mono.mono exq h1))) ?_; rintro _ w12 ⟨rfl, E2⟩; have hs10 := E2.size; refine Wnx exq<|Wha [10]<|Wh1 rfl<|Ul Kp (hB2.ext (E1.trans E2)) rfl ((Ew2.trans E1).trans E2) ?_; rintro w13 E3 hB2 K4 hz4; have hO1 := (hO1.ext exq).wrote K4 Ka; have hQ1 := (hQ1.ext exq).wrote K4 Ka; refine Wnx E3<|Up 11 rfl rfl E3<|Yg Kb ?_; refine Zy ?_; rotate_left; refine Wh1 rfl<|Zq rfl (Uc (a := u1) (b := .string _) (c := .string _) Jh rfl rfl rfl) (c8 _ _ ((Mono.mono exq h1))) ?_; rintro _ w12 ⟨rfl, E2⟩; have hs10 := E2.size
          refine Wnx exq<|Wha [0]<|Wh1 rfl<|Xe Ks Kp (hB3.ext exq) rfl<|Wnx exq<|Wha [10]<|Wh1 rfl<|Ul Kp (hB2.ext (E1.trans E2)) rfl ((Ew2.trans E1).trans E2) ?_; rintro w13 E3 hB2 K4 hz4; have hO1 := (hO1.ext exq).wrote K4 Ka; have hQ1 := (hQ1.ext exq).wrote K4 Ka; refine Wnx E3<|Up 11 rfl rfl E3<|Yg Kb ?_; refine Zy ?_; rotate_left; refine Vs rfl ?_ ?_; refine Ua Kv rfl rfl (Mono.mono E1 (OwnedB.read hO2)) Kf ?_; rintro _ ⟨rfl, -⟩; refine Wnx exq<|Wha [0, 2, 8]<|Vs rfl ?_ ?_; refine Xe Ks Kp (hB3.ext E1) rfl<|Wnx exq<|Wha [2, 8]<|Vs rfl ?_ ?_
          refine Yr u1 Ku (hB1.ext E1) rfl<|Wnx exq<|Wha [8]<|Wh1 rfl<|Ua Kv rfl rfl (Mono.mono E1 (OwnedB.read hO2)) Kf ?_; rintro _ ⟨rfl, -⟩; refine Wnx exq<|Wha [9]<|Wh1 rfl<|Zq rfl (Uc (a := u1) (b := .string _) (c := .string _) Jh rfl rfl rfl) (c8 _ _ ((Mono.mono exq h1))) ?_; rintro _ w12 ⟨rfl, E2⟩; have hs10 := E2.size; refine Wnx exq<|Wha [10]<|Wh1 rfl<|Ul Kp (hB2.ext (E1.trans E2)) rfl ((Ew2.trans E1).trans E2) ?_; rintro w13 E3 hB2 K4 hz4; have hO1 := (hO1.ext exq).wrote K4 Ka; have hQ1 := (hQ1.ext exq).wrote K4 Ka; refine Wnx E3<|Up 11 rfl rfl E3<|Yg Kb ?_; refine Zy ?_; rotate_left; refine Wh1 rfl<|Ua Kv rfl rfl (Mono.mono E1 (OwnedB.read hO2)) Kf ?_; rintro _ ⟨rfl, -⟩
          refine Wnx exq<|Wha [2]<|Wh1 rfl<|Yr u1 Ku (hB1.ext E1) rfl<|Wnx exq<|Wha [9]<|Wh1 rfl<|Zq rfl (Uc (a := u1) (b := .string _) (c := .string _) Jh rfl rfl rfl) (c8 _ _ ((Mono.mono exq h1))) ?_; rintro _ w12 ⟨rfl, E2⟩; have hs10 := E2.size; refine Wnx exq<|Wha [10]<|Wh1 rfl<|Ul Kp (hB2.ext (E1.trans E2)) rfl ((Ew2.trans E1).trans E2) ?_; rintro w13 E3 hB2 K4 hz4; have hO1 := (hO1.ext exq).wrote K4 Ka; have hQ1 := (hQ1.ext exq).wrote K4 Ka; refine Wnx E3<|Up 11 rfl rfl E3<|Yg Kb ?_; refine Zy ?_; rotate_left; refine Vs rfl ?_ ?_; refine Yr u1 Ku (hB1.ext E1) rfl<|Wnx exq<|Wha [0, 8]<|Vs rfl ?_ ?_
          refine Xe Ks Kp (hB3.ext E1) rfl<|Wnx exq<|Wha [8]<|Wh1 rfl<|Ua Kv rfl rfl (Mono.mono E1 (OwnedB.read hO2)) Kf ?_; rintro _ ⟨rfl, -⟩; refine Wnx exq<|Wha [9]<|Wh1 rfl<|Zq rfl (Uc (a := u1) (b := .string _) (c := .string _) Jh rfl rfl rfl) (c8 _ _ ((Mono.mono exq h1))) ?_; rintro _ w12 ⟨rfl, E2⟩; have hs10 := E2.size; refine Wnx exq<|Wha [10]<|Wh1 rfl<|Ul Kp (hB2.ext (E1.trans E2)) rfl ((Ew2.trans E1).trans E2) ?_; rintro w13 E3 hB2 K4 hz4; have hO1 := (hO1.ext exq).wrote K4 Ka; have hQ1 := (hQ1.ext exq).wrote K4 Ka; refine Wnx E3<|Up 11 rfl rfl E3<|Yg Kb ?_; refine Zy ?_; rotate_left; refine Wh1 rfl<|Ua Kv rfl rfl (Mono.mono E1 (OwnedB.read hO2)) Kf ?_; rintro _ ⟨rfl, -⟩
          refine Wnx exq<|Wha [0, 9]<|Vs rfl ?_ ?_; refine Xe Ks Kp (hB3.ext E1) rfl<|Wnx exq<|Wha [9]<|Wh1 rfl<|Zq rfl (Uc (a := u1) (b := .string _) (c := .string _) Jh rfl rfl rfl) (c8 _ _ ((Mono.mono exq h1))) ?_; rintro _ w12 ⟨rfl, E2⟩; have hs10 := E2.size; refine Wnx exq<|Wha [10]<|Wh1 rfl<|Ul Kp (hB2.ext (E1.trans E2)) rfl ((Ew2.trans E1).trans E2) ?_; rintro w13 E3 hB2 K4 hz4; have hO1 := (hO1.ext exq).wrote K4 Ka; have hQ1 := (hQ1.ext exq).wrote K4 Ka; refine Wnx E3<|Up 11 rfl rfl E3<|Yg Kb ?_; refine Zy ?_; rotate_left; refine Wh1 rfl<|Zq rfl (Uc (a := u1) (b := .string _) (c := .string _) Jh rfl rfl rfl) (c8 _ _ ((Mono.mono exq h1))) ?_; rintro _ w12 ⟨rfl, E2⟩; have hs10 := E2.size
          refine Wnx exq<|Wha [0]<|Wh1 rfl<|Xe Ks Kp (hB3.ext exq) rfl<|Wnx exq<|Wha [10]<|Wh1 rfl<|Ul Kp (hB2.ext (E1.trans E2)) rfl ((Ew2.trans E1).trans E2) ?_; rintro w13 E3 hB2 K4 hz4; have hO1 := (hO1.ext exq).wrote K4 Ka; have hQ1 := (hQ1.ext exq).wrote K4 Ka; refine Wnx E3<|Up 11 rfl rfl E3<|Yg Kb ?_; refine Zy ?_; rotate_left; refine Wh1 rfl<|Ua Kv rfl rfl (Mono.mono E1 (OwnedB.read hO2)) Kf ?_; rintro _ ⟨rfl, -⟩; refine Wnx exq<|Wha [0, 2]<|Vs rfl ?_ ?_; refine Xe Ks Kp (hB3.ext E1) rfl<|Wnx exq<|Wha [2]<|Wh1 rfl<|Yr u1 Ku (hB1.ext E1) rfl<|Wnx exq<|Wha [9]<|Wh1 rfl<|Zq rfl (Uc (a := u1) (b := .string _) (c := .string _) Jh rfl rfl rfl) (c8 _ _ ((Mono.mono exq h1))) ?_
          rintro _ w12 ⟨rfl, E2⟩; have hs10 := E2.size; refine Wnx exq<|Wha [10]<|Wh1 rfl<|Ul Kp (hB2.ext (E1.trans E2)) rfl ((Ew2.trans E1).trans E2) ?_; rintro w13 E3 hB2 K4 hz4; have hO1 := (hO1.ext exq).wrote K4 Ka; have hQ1 := (hQ1.ext exq).wrote K4 Ka; refine Wnx E3<|Up 11 rfl rfl E3<|Yg Kb ?_; refine Zy ?_; rotate_left; refine Wh1 rfl<|Yr u1 Ku (hB1.ext E1) rfl<|Wnx exq<|Wha [0, 9]<|Vs rfl ?_ ?_; refine Xe Ks Kp (hB3.ext E1) rfl<|Wnx exq<|Wha [9]<|Wh1 rfl<|Zq rfl (Uc (a := u1) (b := .string _) (c := .string _) Jh rfl rfl rfl) (c8 _ _ ((Mono.mono exq h1))) ?_; rintro _ w12 ⟨rfl, E2⟩; have hs10 := E2.size; refine Wnx exq<|Wha [10]<|Wh1 rfl<|Ul Kp (hB2.ext (E1.trans E2)) rfl ((Ew2.trans E1).trans E2) ?_; rintro w13 E3 hB2 K4 hz4
          have hO1 := (hO1.ext exq).wrote K4 Ka; have hQ1 := (hQ1.ext exq).wrote K4 Ka; refine Wnx E3<|Up 11 rfl rfl E3<|Yg Kb ?_; refine Zy ?_; rotate_left; refine Wh1 rfl<|Zq rfl (Uc (a := u1) (b := .string _) (c := .string _) Jh rfl rfl rfl) (c8 _ _ ((Mono.mono exq h1))) ?_; rintro _ w12 ⟨rfl, E2⟩; have hs10 := E2.size; refine Wnx exq<|Wha [0]<|Wh1 rfl<|Xe Ks Kp (hB3.ext exq) rfl<|Wnx exq<|Wha [10]<|Wh1 rfl<|Ul Kp (hB2.ext (E1.trans E2)) rfl ((Ew2.trans E1).trans E2) ?_; rintro w13 E3 hB2 K4 hz4; have hO1 := (hO1.ext exq).wrote K4 Ka; have hQ1 := (hQ1.ext exq).wrote K4 Ka; refine Wnx E3<|Up 11 rfl rfl E3<|Yg Kb ?_; refine Zy ?_; rotate_left
          refine Wh1 rfl<|Ua Kv rfl rfl (Mono.mono E1 (OwnedB.read hO2)) Kf ?_; rintro _ ⟨rfl, -⟩; refine Wnx exq<|Wha [0, 2, 5]<|Vs rfl ?_ ?_; refine Xe Ks Kp (hB3.ext E1) rfl<|Wnx exq<|Wha [2, 5]<|Vs rfl ?_ ?_; refine Yr u1 Ku (hB1.ext E1) rfl<|Wnx exq<|Wha [5]<|Wh1 rfl<|Ua Kv rfl rfl (Mono.mono E1 (OwnedB.read hO2)) Kf ?_; rintro _ ⟨rfl, -⟩; refine Wnx exq<|Wha [9]<|Wh1 rfl<|Zq rfl (Uc (a := u1) (b := .string _) (c := .string _) Jh rfl rfl rfl) (c8 _ _ ((Mono.mono exq h1))) ?_; rintro _ w12 ⟨rfl, E2⟩; have hs10 := E2.size; refine Wnx exq<|Wha [10]<|Wh1 rfl<|Ul Kp (hB2.ext (E1.trans E2)) rfl ((Ew2.trans E1).trans E2) ?_; rintro w13 E3 hB2 K4 hz4
          have hO1 := (hO1.ext exq).wrote K4 Ka; have hQ1 := (hQ1.ext exq).wrote K4 Ka; refine Wnx E3<|Up 11 rfl rfl E3<|Yg Kb ?_; refine Zy ?_; rotate_left; refine Wh1 rfl<|Ua Kv rfl rfl (Mono.mono E1 (OwnedB.read hO2)) Kf ?_; rintro _ ⟨rfl, -⟩; refine Wnx exq<|Wha [2]<|Wh1 rfl<|Yr u1 Ku (hB1.ext E1) rfl<|Wnx exq<|Wha [9]<|Wh1 rfl<|Zq rfl (Uc (a := u1) (b := .string _) (c := .string _) Jh rfl rfl rfl) (c8 _ _ ((Mono.mono exq h1))) ?_; rintro _ w12 ⟨rfl, E2⟩; have hs10 := E2.size; refine Wnx exq<|Wha [10]<|Wh1 rfl<|Ul Kp (hB2.ext (E1.trans E2)) rfl ((Ew2.trans E1).trans E2) ?_; rintro w13 E3 hB2 K4 hz4; have hO1 := (hO1.ext exq).wrote K4 Ka; have hQ1 := (hQ1.ext exq).wrote K4 Ka
          refine Wnx E3<|Up 11 rfl rfl E3<|Yg Kb ?_; refine Zy ?_; rotate_left; refine Vs rfl ?_ ?_; refine Yr u1 Ku (hB1.ext E1) rfl<|Wnx exq<|Wha [0, 5]<|Vs rfl ?_ ?_; refine Xe Ks Kp (hB3.ext E1) rfl<|Wnx exq<|Wha [5]<|Wh1 rfl<|Ua Kv rfl rfl (Mono.mono E1 (OwnedB.read hO2)) Kf ?_; rintro _ ⟨rfl, -⟩; refine Wnx exq<|Wha [9]<|Wh1 rfl<|Zq rfl (Uc (a := u1) (b := .string _) (c := .string _) Jh rfl rfl rfl) (c8 _ _ ((Mono.mono exq h1))) ?_; rintro _ w12 ⟨rfl, E2⟩; have hs10 := E2.size; refine Wnx exq<|Wha [10]<|Wh1 rfl<|Ul Kp (hB2.ext (E1.trans E2)) rfl ((Ew2.trans E1).trans E2) ?_; rintro w13 E3 hB2 K4 hz4; have hO1 := (hO1.ext exq).wrote K4 Ka; have hQ1 := (hQ1.ext exq).wrote K4 Ka
          refine Wnx E3<|Up 11 rfl rfl E3<|Yg Kb ?_; refine Zy ?_; rotate_left; refine Wh1 rfl<|Ua Kv rfl rfl (Mono.mono E1 (OwnedB.read hO2)) Kf ?_; rintro _ ⟨rfl, -⟩; refine Wnx exq<|Wha [0, 9]<|Vs rfl ?_ ?_; refine Xe Ks Kp (hB3.ext E1) rfl<|Wnx exq<|Wha [9]<|Wh1 rfl<|Zq rfl (Uc (a := u1) (b := .string _) (c := .string _) Jh rfl rfl rfl) (c8 _ _ ((Mono.mono exq h1))) ?_; rintro _ w12 ⟨rfl, E2⟩; have hs10 := E2.size; refine Wnx exq<|Wha [10]<|Wh1 rfl<|Ul Kp (hB2.ext (E1.trans E2)) rfl ((Ew2.trans E1).trans E2) ?_; rintro w13 E3 hB2 K4 hz4; have hO1 := (hO1.ext exq).wrote K4 Ka; have hQ1 := (hQ1.ext exq).wrote K4 Ka; refine Wnx E3<|Up 11 rfl rfl E3<|Yg Kb ?_; refine Zy ?_; rotate_left
          refine Wh1 rfl<|Zq rfl (Uc (a := u1) (b := .string _) (c := .string _) Jh rfl rfl rfl) (c8 _ _ ((Mono.mono exq h1))) ?_; rintro _ w12 ⟨rfl, E2⟩; have hs10 := E2.size; refine Wnx exq<|Wha [0]<|Wh1 rfl<|Xe Ks Kp (hB3.ext exq) rfl<|Wnx exq<|Wha [10]<|Wh1 rfl<|Ul Kp (hB2.ext (E1.trans E2)) rfl ((Ew2.trans E1).trans E2) ?_; rintro w13 E3 hB2 K4 hz4; have hO1 := (hO1.ext exq).wrote K4 Ka; have hQ1 := (hQ1.ext exq).wrote K4 Ka; refine Wnx E3<|Up 11 rfl rfl E3<|Yg Kb ?_; refine Zy ?_; rotate_left; refine Wh1 rfl<|Ua Kv rfl rfl (Mono.mono E1 (OwnedB.read hO2)) Kf ?_; rintro _ ⟨rfl, -⟩; refine Wnx exq<|Wha [0, 2]<|Vs rfl ?_ ?_
          refine Xe Ks Kp (hB3.ext E1) rfl<|Wnx exq<|Wha [2]<|Wh1 rfl<|Yr u1 Ku (hB1.ext E1) rfl<|Wnx exq<|Wha [9]<|Wh1 rfl<|Zq rfl (Uc (a := u1) (b := .string _) (c := .string _) Jh rfl rfl rfl) (c8 _ _ ((Mono.mono exq h1))) ?_; rintro _ w12 ⟨rfl, E2⟩; have hs10 := E2.size; refine Wnx exq<|Wha [10]<|Wh1 rfl<|Ul Kp (hB2.ext (E1.trans E2)) rfl ((Ew2.trans E1).trans E2) ?_; rintro w13 E3 hB2 K4 hz4; have hO1 := (hO1.ext exq).wrote K4 Ka; have hQ1 := (hQ1.ext exq).wrote K4 Ka; refine Wnx E3<|Up 11 rfl rfl E3<|Yg Kb ?_; refine Zy ?_; rotate_left; refine Wh1 rfl<|Yr u1 Ku (hB1.ext E1) rfl<|Wnx exq<|Wha [0, 9]<|Vs rfl ?_ ?_
          refine Xe Ks Kp (hB3.ext E1) rfl<|Wnx exq<|Wha [9]<|Wh1 rfl<|Zq rfl (Uc (a := u1) (b := .string _) (c := .string _) Jh rfl rfl rfl) (c8 _ _ ((Mono.mono exq h1))) ?_; rintro _ w12 ⟨rfl, E2⟩; have hs10 := E2.size; refine Wnx exq<|Wha [10]<|Wh1 rfl<|Ul Kp (hB2.ext (E1.trans E2)) rfl ((Ew2.trans E1).trans E2) ?_; rintro w13 E3 hB2 K4 hz4; have hO1 := (hO1.ext exq).wrote K4 Ka; have hQ1 := (hQ1.ext exq).wrote K4 Ka; refine Wnx E3<|Up 11 rfl rfl E3<|Yg Kb ?_; refine Zy ?_; rotate_left; refine Wh1 rfl<|Zq rfl (Uc (a := u1) (b := .string _) (c := .string _) Jh rfl rfl rfl) (c8 _ _ ((Mono.mono exq h1))) ?_; rintro _ w12 ⟨rfl, E2⟩; have hs10 := E2.size
          refine Wnx exq<|Wha [0]<|Wh1 rfl<|Xe Ks Kp (hB3.ext exq) rfl<|Wnx exq<|Wha [10]<|Wh1 rfl<|Ul Kp (hB2.ext (E1.trans E2)) rfl ((Ew2.trans E1).trans E2) ?_; rintro w13 E3 hB2 K4 hz4; have hO1 := (hO1.ext exq).wrote K4 Ka; have hQ1 := (hQ1.ext exq).wrote K4 Ka; refine Wnx E3<|Up 11 rfl rfl E3<|Yg Kb ?_; refine Zy ?_; rotate_left
        all_goals exact ⟨b2, u3, q1, rfl, hB2, u3, q1, rfl, by repeat (first | assumption | refine Ext.trans Kd ?_), hO1.rd.wide Ka Ka, hQ1.rd.wide Ka Ka, icu3, icq1⟩
  · rw [show dlV d s = (⟨[], []⟩, []) from if_neg hd]
    have k0 : ∀ w, ESl Ints w u1 d.now → ESl (ESl Ints) w u2 d.past → Does Tryz.prog 16 [.agg #[u1, u2]] w (Ret w (.bool false)) := fun w h1 h2 => by
      have := Sj w u1 u2 d h1 h2; rwa [decide_eq_false hd] at this
    focus
      refine Zo<|Yk rfl rfl rfl ?_; rintro b1 w1 hb1 E1 hB1; have hlb1 := hB1.lt; refine Ys rfl Xi ?_; rintro b2 w2 hb2 E2 hB2; refine Yi rfl<|Zm<|Zp<|Zo<|Xe Ks Kp (hB1.ext E2) rfl<|Zq rfl (Vw (a := .agg _) Gk rfl) (k0 _ ((Mono.mono exq h1)) ((Mono.mono exq h2))) ?_; rintro _ w3 ⟨rfl, E3⟩; refine Yl rfl<|Zm<|Xd rfl (fun h3 => ?_) (fun h3 => ?_); refine Zo<|Wo rfl (Vt (ps := []) (cs := [_, _]) Xi rfl rfl)<|Ul Kp (hB2.ext E3) rfl ((E1.trans E2).trans E3) ?_; rintro w4 E4 hB2 K1 hz1; have E5 := (E2.trans E3).wroteAt exq E4 K1 hz1 Ka; have szE5 := E5.size; refine Yi rfl<|Zm<|Zy ?_; rotate_left; contradiction
    exact ⟨b2, _, _, rfl, hB2, _, _, rfl, by exact E4, nil1 _ _ Ka, nil2 _ _ Ka, rfl, rfl⟩
end Go.Proofs.YtbgpppaljpngmaaGreatDoor
namespace Go.Proofs.YtbgpppaljpngmaaGreatDoor
open Go.Hs
set_option maxRecDepth 10000
set_option maxHeartbeats 4000000
set_option linter.unusedVariables false
set_option linter.unusedSimpArgs false
theorem szIntSS2_ok (w : World) (v : Value) (p : List (List Int)) (h : ESl Ints w v p) (left : Int) (hl : 0 ≤ left ∧ left ≤ 1048576) :
    Does Tryz.prog 80 [v, .int .i64 left] w (RetX w (Value.int .i64) (fun n _ => n = -1 ∨ (0 ≤ n ∧ n ≤ left - (total p : Nat) ∧ p.length ≤ 1048576 ∧ ∀ r ∈ p, r.length ≤ 1048576))) := by
  have hle := h.le
  refine Vf Tryz.func80 rfl Tryz.results80 Tryz.ntmps80 rfl ?_
  focus
    refine Zo<|Vg rfl<|Zm<|Zo<|Zt rfl<|Va v rfl<|Vm Ko rfl h<|Qp rfl<|Vg rfl<|Zm<|Zp<|Zo<|Zt rfl<|Vl rfl<|Zm<|Zr rfl (fun h1 => ?_) (fun h1 => ?_); refine Zp<|Ve<|Vg rfl<|Zm<|Zy ?_; refine Vd (v := .int _ _) rfl ?_; refine ⟨(Ext.refl _), _, rfl, ?_⟩; (try dsimp only); rotate_left; refine Zu<|Zp<|Zo<|Vg rfl<|Zm<|Zw ?_; rotate_left
  · exact .inl rfl
  refine Vz [1, 4, 5, 12, 13, 14, 15, 16, 17, 18, 19, 20, 21, 22, 23, 24, 25] (fun (k, l) => [(5, .int .i64 (k : Nat)), (1, .int .i64 (l : Int))]) (fun (k, l) w' => Ext w w' ∧ k ≤ p.length ∧ 0 ≤ l ∧ l = left - p.length - (total (p.take k) : Nat)) (fun x => p.length - x.1) (0, left - p.length) Kg ?_ ?_
  · exact ⟨Ext.refl _, Nat.zero_le _, Ka, by simp [total]⟩
  rintro ⟨k, l⟩ ρj w1 ⟨E1, hk, h0, h1⟩
  focus
    refine Zp<|Zo<|Zt rfl<|Va v rfl<|Vm Ko rfl h<|Vl rfl<|Zm<|Zr rfl (fun h2 => ?_) (fun h2 => ?_); refine Zu<|Zp<|Zw<|Zo<|Va v rfl<|Zt rfl<|Yb Ko Kt Kz rfl (fun _ => rfl) rfl h E1 rfl Kf ?_; rintro _ u1 hu1; refine Zt rfl<|Zq rfl (Yh (a := u1) (b := .int _ _) Tryz.call133 rfl rfl) (szIntS_ok _ _ _ ((Mono.mono E1 hu1)) _ Ka) ?_; rintro _ w2 ⟨E2, y1, rfl, hy1⟩; refine Vg rfl<|Zm<|Zo<|Zt rfl<|Vl rfl<|Zm<|Zr rfl (fun h3 => ?_) (fun h3 => ?_); refine Zo<|Vg rfl<|Zm<|Zy ?_; refine Vd (v := .int _ _) rfl ?_; refine ⟨exq, _, rfl, ?_⟩; (try dsimp only); rotate_left; refine Zu<|Ve<|Zt rfl<|Vq rfl<|Vg rfl<|Zm ?_; rotate_left; refine Vv ?_
    refine Vc ?_; refine Zo<|Zt rfl<|Vg rfl<|Zm<|Zy ?_; refine Vd (v := .int _ _) rfl ?_; refine ⟨E1, _, rfl, ?_⟩; (try dsimp only); rotate_left
  · exact .inl rfl
  · refine ⟨((k + 1, y1)), Kg, Kh, ?_, ?_⟩
    · refine ⟨E1.trans E2, Ka, Ka, ?_⟩
      rw [total_ge _ Ka]
      rcases hy1 with h9 | h9
      · omega
      · omega
    · simp only; omega
  · obtain rfl : k = p.length := by omega
    rw [List.take_length] at h1
    exact .inr ⟨Ka, Ka, Ka, fun r hr => by have := len_le_total hr; omega⟩
theorem szIntSSS2_ok (w : World) (v : Value) (p : List (List (List Int))) (h : ESl (ESl Ints) w v p) (left : Int) (hl : 0 ≤ left ∧ left ≤ 1048576) :
    Does Tryz.prog 81 [v, .int .i64 left] w (RetX w (Value.int .i64) (fun n _ => n = -1 ∨ (0 ≤ n ∧ n ≤ left - (total3 p : Nat) ∧ p.length ≤ 1048576 ∧ ∀ q ∈ p, q.length ≤ 1048576 ∧ ∀ r ∈ q, r.length ≤ 1048576))) := by
  have hle := h.le
  refine Vf Tryz.func81 rfl Tryz.results81 Tryz.ntmps81 rfl ?_
  focus
    refine Zo<|Vg rfl<|Zm<|Zo<|Zt rfl<|Va v rfl<|Vm Jc rfl h<|Qp rfl<|Vg rfl<|Zm<|Zp<|Zo<|Zt rfl<|Vl rfl<|Zm<|Zr rfl (fun h1 => ?_) (fun h1 => ?_); refine Zp<|Ve<|Vg rfl<|Zm<|Zy ?_; refine Vd (v := .int _ _) rfl ?_; refine ⟨(Ext.refl _), _, rfl, ?_⟩; (try dsimp only); rotate_left; refine Zu<|Zp<|Zo<|Vg rfl<|Zm<|Zw ?_; rotate_left
  · exact .inl rfl
  refine Vz [1, 4, 5, 12, 13, 14, 15, 16, 17, 18, 19, 20, 21, 22, 23, 24, 25] (fun (k, l) => [(5, .int .i64 (k : Nat)), (1, .int .i64 (l : Int))]) (fun (k, l) w' => Ext w w' ∧ k ≤ p.length ∧ p.length ≤ 1048576 ∧ 0 ≤ l ∧ l ≤ left - (total3 (p.take k) : Nat) ∧ ∀ q ∈ p.take k, q.length ≤ 1048576 ∧ ∀ r ∈ q, r.length ≤ 1048576) (fun x => p.length - x.1) (0, left - p.length) Kg ?_ ?_
  · exact ⟨Ext.refl _, Nat.zero_le _, Ka, Ka, by simp [total3]; omega, Ki⟩
  rintro ⟨k, l⟩ ρj w1 ⟨E1, hk, hp1, h0, h1, h3⟩
  focus
    refine Zp<|Zo<|Zt rfl<|Va v rfl<|Vm Jc rfl h<|Vl rfl<|Zm<|Zr rfl (fun h2 => ?_) (fun h2 => ?_); refine Zu<|Zp<|Zw<|Zo<|Va v rfl<|Zt rfl<|Yb Jc Ja Ku rfl (fun _ => rfl) rfl h E1 rfl Kf ?_; rintro _ u1 hu1; refine Zt rfl<|Zq rfl (Yh (a := u1) (b := .int _ _) Tryz.call80 rfl rfl) (szIntSS2_ok _ _ _ ((Mono.mono E1 hu1)) _ Ka) ?_; rintro _ w2 ⟨E2, y1, rfl, hy1⟩; refine Vg rfl<|Zm<|Zo<|Zt rfl<|Vl rfl<|Zm<|Zr rfl (fun h4 => ?_) (fun h4 => ?_); refine Zo<|Vg rfl<|Zm<|Zy ?_; refine Vd (v := .int _ _) rfl ?_; refine ⟨exq, _, rfl, ?_⟩; (try dsimp only); rotate_left; refine Zu<|Ve<|Zt rfl<|Vq rfl<|Vg rfl<|Zm ?_; rotate_left; refine Vv ?_
    refine Vc ?_; refine Zo<|Zt rfl<|Vg rfl<|Zm<|Zy ?_; refine Vd (v := .int _ _) rfl ?_; refine ⟨E1, _, rfl, ?_⟩; (try dsimp only); rotate_left
  · exact .inl rfl
  · refine ⟨((k + 1, y1)), Kg, Kh, ?_, ?_⟩
    · rcases hy1 with h9 | ⟨h9, h10, h11, h13⟩
      · omega
      · refine ⟨E1.trans E2, Ka, Ka, Ka, ?_, fun q hq => ?_⟩
        · rw [total3_ge _ Ka]; omega
        · rw [Ye _ _ Ka] at hq
          rcases List.mem_append.1 hq with hq | hq
          · exact h3 q hq
          · rw [List.mem_singleton.1 hq]; exact ⟨h11, h13⟩
    · simp only; omega
  · obtain rfl : k = p.length := by omega
    rw [List.take_length] at h1 h3
    exact .inr ⟨Ka, Ka, Ka, h3⟩
theorem szDesk_ok (w : World) (u1 u2 : Value) (p : List (List Int)) (pp : List (List (List Int))) (h1 : ESl Ints w u1 p) (h2 : ESl (ESl Ints) w u2 pp) (left : Int) (hl : 0 ≤ left ∧ left ≤ 1048576) :
    Does Tryz.prog 25 [.agg #[u1, u2], .int .i64 left] w (RetX w (Value.int .i64) (fun z _ => z = -1 ∨ (0 ≤ z ∧ z ≤ left - (total p : Nat) - (total3 pp : Nat) ∧ p.length ≤ 1048576 ∧ (∀ r ∈ p, r.length ≤ 1048576) ∧ pp.length ≤ 1048576 ∧ ∀ q ∈ pp, q.length ≤ 1048576 ∧ ∀ r ∈ q, r.length ≤ 1048576))) := by
  have icu1 : isCell u1 = true := Uw h1
  have icu2 : isCell u2 = true := Uw h2
  refine Vf Tryz.func25 rfl Tryz.results25 Tryz.ntmps25 rfl ?_
  focus
    refine Zo<|Yk rfl rfl rfl ?_; rintro b1 w1 hb1 E1 hB1; refine Vg rfl<|Zm<|Zp<|Ve<|Vk Zl Ja rfl<|Yr u1 Ku hB1 rfl<|Zt rfl<|Zq rfl (Yh (a := u1) (b := .int _ _) Tryz.call80 rfl rfl) (szIntSS2_ok _ _ _ ((Mono.mono E1 h1)) _ Kd) ?_; rintro _ w2 ⟨E2, y1, rfl, hy1⟩; refine Vg rfl<|Zm<|Zp<|Zo<|Zt rfl<|Vl rfl<|Zm<|Zr rfl (fun h3 => ?_) (fun h3 => ?_); refine Zo<|Vg rfl<|Zm<|Zy ?_; refine Vd (v := .int _ _) rfl ?_; refine ⟨exq, _, rfl, ?_⟩; (try dsimp only); rotate_left; refine Zu<|Zo<|Vk Zl Jb rfl<|Yr u2 Je (hB1.ext E2) rfl<|Zt rfl<|Zq rfl (Yh (a := u2) (b := .int _ _) Tryz.call81 rfl rfl) (szIntSSS2_ok _ _ _ ((Mono.mono exq h2)) _ Ka) ?_
    rintro _ w3 ⟨E3, y2, rfl, hy2⟩; refine Vg rfl<|Zm<|Zp<|Zo<|Zt rfl<|Vl rfl<|Zm<|Zr rfl (fun h4 => ?_) (fun h4 => ?_); refine Zo<|Vg rfl<|Zm<|Zy ?_; refine Vd (v := .int _ _) rfl ?_; refine ⟨exq, _, rfl, ?_⟩; (try dsimp only); rotate_left; refine Zu<|Zo<|Zt rfl<|Vg rfl<|Zm<|Zy ?_; refine Vd (v := .int _ _) rfl ?_; refine ⟨exq, _, rfl, ?_⟩; (try dsimp only); rotate_left
  · exact .inl rfl
  · exact .inl rfl
  · rcases hy1 with h9 | ⟨h9, h10, h11, h12⟩
    · omega
    rcases hy2 with h8 | ⟨h8, h13, h14, h15⟩
    · omega
    exact .inr ⟨Ka, Ka, h11, h12, h14, h15⟩
theorem toDesk_ok (w : World) (u1 u2 : Value) (p : List (List Int)) (pp : List (List (List Int))) (h1 : ESl Ints w u1 p) (h2 : ESl (ESl Ints) w u2 pp) (hp : p.length ≤ 1048576 ∧ ∀ r ∈ p, r.length ≤ 1048576) (hl : pp.length ≤ 1048576) (hq : ∀ q ∈ pp, q.length ≤ 1048576 ∧ ∀ r ∈ q, r.length ≤ 1048576) :
    Does Tryz.prog 27 [.agg #[u1, u2]] w (RetDk w 23 88 3 p pp) := by
  have icu1 : isCell u1 = true := Uw h1
  have icu2 : isCell u2 = true := Uw h2
  have k1 := fun (w : World) (h : ESl Ints w u1 p) => toIntSS_ok w u1 p h hp.1 hp.2
  have k2 := fun (w : World) (h : ESl (ESl Ints) w u2 pp) => toIntSSS_ok w u2 pp h hl hq
  refine fn_of_Wc Tryz.func27 rfl Tryz.results27 Tryz.ntmps27 rfl Ks Kp ?_
  focus
    refine Zo<|Yk rfl rfl rfl ?_; rintro b1 w1 hb1 E1 hB1; have hlb1 := hB1.lt; refine Ys rfl Xi ?_; rintro b2 w2 hb2 E2 hB2; have hlb2 := hB2.lt; refine Zm<|Zo<|Ys rfl Xi ?_; rintro b3 w3 hb3 E3 hB3; have hlb3 := hB3.lt; have hs3 := E3.size; refine Zm<|Zp<|Ve<|Vk Zl Ja rfl<|Yr u1 Ku (hB1.ext exq) rfl<|Zq rfl (Vw (a := u1) Tryz.call82 rfl) (k1 _ ((Mono.mono exq h1))) ?_; rintro u3 w4 ⟨E4, hO1⟩; have ichO1 := OwnedB.isC (Owned.toB hO1); have hs4 := E4.size; refine Vk Ky Ja rfl<|Xh (v := u3) rfl Ja rfl rfl (OwnedB.isC hO1.toB) (hB3.ext E4) Kc Ka (((E1.trans E2).trans E3).trans E4) ?_; rintro w5 E5 hB3 K1 hz1; have E6 := ((E2.trans E3).trans E4).wroteAt exq E5 K1 hz1 Ka; have szE6 := E6.size; simp only [List.set] at hB3
    have hB1 := (hB1.ext exq).of_heap (K1 _ Ka); have hB2 := (hB2.ext exq).of_heap (K1 _ Ka); have hO1 := hO1.toB.wrote K1 Ka; refine Zm<|Zo<|Vk Zl Jb rfl<|Yr u2 Je hB1 rfl<|Zq rfl (Vw (a := u2) Tryz.call83 rfl) (k2 _ ((Mono.mono E5 h2))) ?_; rintro u4 w6 ⟨E8, hO2⟩; have ichO2 := OwnedB.isC (Owned.toB hO2); have hs5 := E8.size; refine Vk Ky Jb rfl<|Xh (v := u4) rfl Jb rfl rfl (OwnedB.isC hO2.toB) (hB3.ext E8) Ki Ka (E5.trans E8) ?_; rintro w7 E9 hB3 K2 hz2; simp only [List.set] at hB3; have hB2 := (hB2.ext E8).of_heap (K2 _ Ka); have hO1 := (hO1.ext E8).wrote K2 Ka; have hO2 := hO2.toB.wrote K2 Ka; refine Zm<|Zo<|Xe Ks Kp hB3 rfl<|Ul Kp hB2 rfl E9 ?_; rintro w8 E12 hB2 K3 hz3
    have hO1 := hO1.wrote K3 Ka; have hO2 := hO2.wrote K3 Ka; refine Zm<|Zy ?_
  exact ⟨b2, _, _, rfl, hB2, _, _, w4.heap.size, rfl, by exact E12, hO1.wide Ka (Nat.le_refl _), hO2.o.mono Ka, Ka, Ka⟩
end Go.Proofs.YtbgpppaljpngmaaGreatDoor
namespace Go.Proofs.YtbgpppaljpngmaaGreatDoor
open Go.Hs
set_option maxRecDepth 10000
set_option maxHeartbeats 4000000
set_option linter.unusedVariables false
set_option linter.unusedSimpArgs false
theorem dk_total {d : Dsk} (h : DkOk d) : total d.now ≤ 25 ∧ total3 d.past ≤ 200 ∧ d.now.length ≤ 5 ∧ ∀ q ∈ d.past, q.length ≤ 5 := by
  have h3 : ∀ (l : List (List (List Int))), (∀ q ∈ l, Pic q) → total3 l ≤ l.length * 25 := by
    intro l
    induction l with
    | nil => intro _; simp [total3]
    | cons q l ih =>
      intro h
      have h1 := ih (fun x hx => h x (List.mem_cons_of_mem _ hx))
      have h2 := pic_total (h q (List.mem_cons_self ..))
      simp only [total3, List.length_cons]
      omega
  refine ⟨pic_total h.1.1, ?_, h.1.1.2.1, fun q hq => (h.2.2 q hq).1.2.1⟩
  have := h3 d.past (fun q hq => (h.2.2 q hq).1)
  have := h.2.1
  omega
end Go.Proofs.YtbgpppaljpngmaaGreatDoor
namespace Go.Proofs.YtbgpppaljpngmaaGreatDoor
open Go.Hs
set_option maxRecDepth 10000
set_option maxHeartbeats 4000000
set_option linter.unusedVariables false
set_option linter.unusedSimpArgs false
theorem lnV_ok {d : Dsk} (h : DkOk d) (s : List UInt8) : DkOk (lnV d s).1 := by
  unfold lnV
  split
  · exact doV_ok h
  · exact h
open Classical in
theorem dlV_total (d : Dsk) (s : List UInt8) : total (dlV d s).1.now ≤ 25 ∧ total3 (dlV d s).1.past ≤ 200 ∧ (dlV d s).1.now.length ≤ 5 ∧ (dlV d s).1.past.length ≤ 8 ∧ ∀ q ∈ (dlV d s).1.past, q.length ≤ 5 := by
  unfold dlV
  split
  · rename_i h
    have h1 := lnV_ok h s
    have := dk_total h1
    exact ⟨this.1, this.2.1, this.2.2.1, h1.2.1, this.2.2.2⟩
  · exact ⟨by simp [total], by simp [total3], Ki, Ki, fun q hq => by cases hq⟩
open Classical in
theorem FnExactDeskLine_walk (w : World) (hM : EMx gMx w (.bool true) ()) (hT : ETb w (.bool true) ()) (u1 u2 : Value) (p : List (List Int)) (pp : List (List (List Int))) (h1 : ESl Ints w u1 p) (h2 : ESl (ESl Ints) w u2 pp) (s : List UInt8) (hs : s.length ≤ 9223372036854775807) :
    Does Tryz.prog 11 [.agg #[u1, u2], str s] w (Ret w (.bool true)) := by
  have icu1 : isCell u1 = true := Uw h1
  have icu2 : isCell u2 = true := Uw h2
  by_cases hsl : 1048576 < s.length
  · refine Vf Tryz.func11 rfl Tryz.results11 Tryz.ntmps11 rfl ?_
    focus
      refine Zo<|Yk rfl rfl rfl ?_; rintro b1 w1 hb1 E1 hB1; refine Zx rfl<|Zm<|Zp<|Zo<|Vn rfl<|Wo rfl (Ya Kr rfl)<|Qo rfl<|Zm<|Zr rfl (fun h3 => ?_) (fun h3 => ?_); refine Zo<|Zx rfl<|Zm<|Zy ?_; exact ⟨rfl, E1⟩; (exfalso; omega)
  have hsl' : s.length ≤ 1048576 := Ka
  refine Vf Tryz.func11 rfl Tryz.results11 Tryz.ntmps11 rfl ?_
  have stop5 : True := trivial
  focus
    refine Zo<|Yk rfl rfl rfl ?_; rintro b1 w1 hb1 E1 hB1; have hlb1 := hB1.lt; refine Zx rfl<|Zm<|Zp<|Zo<|Vn rfl<|Wo rfl (Ya Kr rfl)<|Qo rfl<|Zm<|Zs rfl fun h3 => ?_; refine Zu<|Zo<|Vg rfl<|Zm<|Zp<|Ve<|Xe Zf Zg hB1 rfl<|Zt rfl<|Zq rfl (Yh (a := .agg _) (b := .int _ _) Tryz.call25 rfl rfl) (szDesk_ok _ _ _ _ _ ((Mono.mono E1 h1)) ((Mono.mono E1 h2)) _ Ka) ?_; rintro _ w2 ⟨E2, y1, rfl, hy1⟩; have hs2 := E2.size; refine Vg rfl<|Zm<|Zp<|Zp ?_
  clear stop5
  rcases hy1 with h9 | ⟨h9, h10, h11, h12, h13, h14⟩
  · focus
      refine Ve<|Zt rfl<|Vl rfl<|Zm<|Zr rfl (fun h4 => ?_) (fun h4 => ?_); refine Zo<|Zx rfl<|Zm<|Zy ?_; exact ⟨rfl, exq⟩; (exfalso; omega)
  obtain ⟨c, hcd⟩ : ∃ c, c = dlV ⟨p, pp⟩ s := ⟨_, rfl⟩
  obtain ⟨ht25, ht200, hl5, hl8, hq5⟩ := dlV_total ⟨p, pp⟩ s
  have kT : ∀ (w : World), ESl Ints w u1 p → ESl (ESl Ints) w u2 pp → Does Tryz.prog 27 [.agg #[u1, u2]] w (RetDk w 23 88 3 p pp) := fun w h1 h2 => toDesk_ok w u1 u2 p pp h1 h2 ⟨h11, h12⟩ h13 h14
  have kI : ∀ (w : World) (v1 v2 : Value), EMx gMx w (.bool true) () → ETb w (.bool true) () → ESl Ints w v1 p → ESl (ESl Ints) w v2 pp → Does Tryz.prog 13 [.agg #[v1, v2], str s] w (RetDkT w 23 88 3 c.1.now c.1.past c.2) := fun w v1 v2 hM hT h1 h2 => hcd ▸ impl_DeskLine_ok w hM hT v1 v2 ⟨p, pp⟩ h1 h2 s hsl'
  have kS : ∀ (w : World) (v1 v2 : Value), ESl Ints w v1 p → ESl (ESl Ints) w v2 pp → Does Tryz.prog 14 [.agg #[v1, v2], str s] w (RetDkRT w c.1.now c.1.past c.2) := fun w v1 v2 h1 h2 => hcd ▸ spec_DeskLine_ok w v1 v2 ⟨p, pp⟩ h1 h2 s hsl'
  rw [← hcd] at ht25 ht200 hl5 hl8 hq5
  clear hcd
  obtain ⟨⟨now, past⟩, b⟩ := c
  simp only at ht25 ht200 hl5 hl8 hq5 kI kS
  have kE : ∀ (w : World) (v1 v2 t1 t2 : Value), ESl Ints w v1 now → ESl (ESl Ints) w v2 past → ESl Ints w t1 now → ESl (ESl Ints) w t2 past → Does Tryz.prog 29 [.agg #[v1, v2], .agg #[t1, t2]] w (Ret w (.bool true)) := fun w v1 v2 t1 t2 h1 h2 h3 h4 => by
    have := eqDesk_ok w v1 v2 t1 t2 now now past past h1 h2 h3 h4
    rwa [decide_eq_true ⟨rfl, rfl⟩] at this
  have kEp : ∀ (w : World) (v1 v2 t1 t2 : Value), ESl Ints w v1 p → ESl (ESl Ints) w v2 pp → ESl Ints w t1 p → ESl (ESl Ints) w t2 pp → Does Tryz.prog 29 [.agg #[v1, v2], .agg #[t1, t2]] w (Ret w (.bool true)) := fun w v1 v2 t1 t2 h1 h2 h3 h4 => by
    have := eqDesk_ok w v1 v2 t1 t2 p p pp pp h1 h2 h3 h4
    rwa [decide_eq_true ⟨rfl, rfl⟩] at this
  have kM0 : ∀ (w : World) (lo m hi : Nat) (v1 v2 : Value), OwnedB lo m XR w v1 p → OwnedB m hi (XSl 23 XR) w v2 pp → lo ≤ m → m ≤ hi → hi ≤ w.heap.size → Does Tryz.prog 31 [.agg #[v1, v2], .int .i64 1] w (RetS lo hi w (fun _ : Unit => .int .i64 (1 + (total p : Nat) + (total3 pp : Nat))) (fun _ _ => True)) := fun w lo m hi v1 v2 h1 h2 h3 h4 h5 => by
    refine (markDesk_ok w v1 v2 p pp h1 h2 h3 h4 h5 1 Kc h11 Ka h13 (fun q hq => (h14 q hq).1) Ka).mono fun v w' h => ?_
    obtain ⟨z, rfl, hs, rfl, _, _⟩ := h
    exact ⟨(), rfl, hs, trivial⟩
  have kM : ∀ (w : World) (lo m hi : Nat) (v1 v2 : Value), OwnedB lo m XR w v1 now → OwnedB m hi (XSl 23 XR) w v2 past → lo ≤ m → m ≤ hi → hi ≤ w.heap.size → Does Tryz.prog 31 [.agg #[v1, v2], .int .i64 1] w (RetS lo hi w (Value.int .i64) (fun z w' => z = 1 + (total now : Nat) + (total3 past : Nat) ∧ OwnedB lo m XR w' v1 (marksS 1 now) ∧ OwnedB m hi (XSl 23 XR) w' v2 (marks3 (1 + (total now : Nat)) past))) := fun w lo m hi v1 v2 h1 h2 h3 h4 h5 =>
    markDesk_ok w v1 v2 now past h1 h2 h3 h4 h5 1 Kc Ka Ka Ka (fun q hq => by have := hq5 q hq; omega) Ka
  have kH : ∀ (w : World) (v1 v2 : Value), ESl Ints w v1 (marksS 1 now) → ESl (ESl Ints) w v2 (marks3 (1 + (total now : Nat)) past) → Does Tryz.prog 33 [.agg #[v1, v2], .int .i64 1] w (Ret w (.int .i64 (1 + (total now : Nat) + (total3 past : Nat)))) := fun w v1 v2 h1 h2 =>
    heldDesk_ok w v1 v2 now past 1 h1 h2 Kc Ka Ka (fun q hq => by have := hq5 q hq; omega) Ka
  have heldS : w = w := rfl
  have stop7 : True := trivial
  focus
    have szE2 := E2.size; have szE1 := E1.size; refine Ve<|Zt rfl<|Vl rfl<|Zm<|Zs rfl fun h4 => ?_; refine Zu<|Zp ?_
  clear stop7
  focus
    have hB1 := (hB1.ext E2); have Ew1 := (E1.trans E2); clear E1; clear E2; clear szE2; clear szE1
  refine W_mid [25, 26, 27, 28, 24, 29, 30, 6, 7] (fun ((b9, x1, x2, lo, hi) : Nat × Value × Value × Nat × Nat) => [(6, .pointer (some ⟨b9, 0, none⟩)), (7, str b)]) (fun (b9, x1, x2, lo, hi) w' => Ext w2 w' ∧ Blk w' b9 [x1, x2] ∧ OwnedB lo hi (XRd (ESl Ints)) w' x1 now ∧ OwnedB lo hi (XRd (ESl (ESl Ints))) w' x2 past ∧ isCell x1 = true ∧ isCell x2 = true ∧ w2.heap.size ≤ lo ∧ w2.heap.size ≤ b9 ∧ hi ≤ w'.heap.size ∧ b9 < w'.heap.size ∧ (hi ≤ b9 ∨ b9 < lo)) ?_ ?_
  · focus
      refine Ve<|Xe Zf Zg hB1 rfl<|Zq rfl (Vw (a := .agg _) Zh rfl) (kT _ ((Mono.mono Ew1 h1)) ((Mono.mono Ew1 h2))) ?_; rintro _ w3 ⟨u3, q1, m1, rfl, E1, hO1, hQ1, hm1, hn1⟩; have hs3 := E1.size; refine Vn rfl<|Zq rfl (Yh (a := .agg _) (b := .string _) Tryz.call14 rfl rfl) (kS _ _ _ ((OwnedB.read hO1)) ((Owned.read hQ1))) ?_; rintro _ w4 ⟨u4, q2, rfl, E2, hA1, hC1, icu4, icq2⟩; have hs4 := E2.size; refine Xj rfl<|WsxA rfl<|Rm rfl<|Ys rfl Xi ?_; rintro b2 w5 hb2 E3 hB2; have hlb2 := hB2.lt; refine Xk rfl Kp rfl rfl Ke Ke hB2 Ka (((Ew1.trans E1).trans E2).trans E3) ?_; rintro w6 E4 hB2 K1 hz1; have E5 := ((E1.trans E2).trans E3).wroteAt exq E4 K1 hz1 Ka; have E7 := E3.wroteAt exq E4 K1 hz1 Ka; have szE7 := E7.size
      have hA1 := (hA1.ext E3).wrote K1 Ka; have hC1 := (hC1.ext E3).wrote K1 Ka; refine Yi rfl<|Zm ?_
    all_goals exact ⟨(b2, u4, q2, _, _), ⟨rfl, rfl, trivial⟩, Kh, by repeat (first | assumption | refine Ext.trans Kd ?_), hB2, hA1, hC1, icu4, icq2, Ka, Ka, Ka, Ka, Ka⟩
  rintro ⟨b9, x1, x2, lo1, hi1⟩ ρ5 w3 ⟨E5, hB9, hX1, hX2, icx1, icx2, hlo1, hb9, hhi1, hb9', hd1⟩
  have hq5 := E5.size
  have stop9 : True := trivial
  focus
    have szE5 := E5.size; have szEw1 := Ew1.size; refine Zo<|Xe Zf Zg (hB1.ext E5) rfl<|Zq rfl (Vw (a := .agg _) Zh rfl) (kT _ ((Mono.mono exq h1)) ((Mono.mono exq h2))) ?_; rintro _ w4 ⟨u3, q1, m1, rfl, E1, hO1, hQ1, hm1, hn1⟩; have icu3 := OwnedB.isC hO1; have icq1 := OwnedB.isC (Owned.toB hQ1); have hs3 := E1.size; refine Ys rfl Xi ?_; rintro b2 w5 hb2 E2 hB2; have hlb2 := hB2.lt; refine Xk rfl Kp rfl rfl Ke Ke hB2 Ka (((Ew1.trans E5).trans E1).trans E2) ?_; rintro w6 E3 hB2 K1 hz1; have E4 := ((E5.trans E1).trans E2).wroteAt exq E3 K1 hz1 Ka; have szE4 := E4.size; have E6 := (E1.trans E2).wroteAt exq E3 K1 hz1 Ka; have szE6 := E6.size; have E7 := E2.wroteAt exq E3 K1 hz1 Ka; have szE7 := E7.size
    have hB1 := (hB1.ext exq).of_heap (K1 _ Ka); have hB9 := (hB9.ext exq).of_heap (K1 _ Ka); have hX1 := (hX1.ext exq).wrote K1 Ka; have hX2 := (hX2.ext exq).wrote K1 Ka; have hO1 := (hO1.ext E2).wrote K1 Ka; have hQ1 := (hQ1.toB.ext E2).wrote K1 Ka; refine Zm<|Zp ?_
  clear stop9
  focus
    have Ew2 := E3; clear Ew1; clear E5; clear szE5; clear szEw1; clear E1; clear E2; clear E3; clear E4; clear szE4; clear E6; clear szE6; clear E7; clear szE7
  refine W_mid [34, 35, 36, 33, 37, 38, 9, 10] (fun ((b8, y1, y2, lo, m, hi) : Nat × Value × Value × Nat × Nat × Nat) => [(9, .pointer (some ⟨b8, 0, none⟩)), (10, str b)]) (fun (b8, y1, y2, lo, m, hi) w' => Ext w6 w' ∧ Blk w' b8 [y1, y2] ∧ OwnedB lo m XR w' y1 now ∧ OwnedB m hi (XSl 23 XR) w' y2 past ∧ isCell y1 = true ∧ isCell y2 = true ∧ w6.heap.size ≤ lo ∧ lo ≤ m ∧ m ≤ hi ∧ w6.heap.size ≤ b8 ∧ hi ≤ w'.heap.size ∧ b8 < w'.heap.size ∧ (hi ≤ b8 ∨ b8 < lo)) ?_ ?_
  · focus
      refine Ve<|Xe Ks Kp hB2 rfl<|Vn rfl<|Zq rfl (Yh (a := .agg _) (b := .string _) Tryz.call13 rfl rfl) (kI _ _ _ ((Mono.mono Ew2 hM)) ((Mono.mono Ew2 hT)) ((OwnedB.read hO1)) ((OwnedB.read hQ1))) ?_; rintro _ w7 ⟨u4, q2, m2, rfl, E1, hO2, hQ2, hm2, hn2⟩; have icu4 := OwnedB.isC hO2; have icq2 := OwnedB.isC (Owned.toB hQ2); have hs5 := E1.size; refine Xj rfl<|WsxA rfl<|Rm rfl<|Ys rfl Xi ?_; rintro b3 w8 hb3 E2 hB3; have hlb3 := hB3.lt; refine Ul Kp hB3 rfl ((Ew2.trans E1).trans E2) ?_; rintro w9 E3 hB3 K2 hz2; have E4 := (E1.trans E2).wroteAt exq E3 K2 hz2 Ka; have E5 := E2.wroteAt exq E3 K2 hz2 Ka; have szE5 := E5.size; have hO2 := (hO2.ext E2).wrote K2 Ka; have hQ2 := (hQ2.toB.ext E2).wrote K2 Ka; refine Yi rfl<|Zm ?_
    all_goals exact ⟨(b3, u4, q2, _, m2, _), ⟨rfl, rfl, trivial⟩, Kh, by repeat (first | assumption | refine Ext.trans Kd ?_), hB3, hO2, hQ2, icu4, icq2, Ka, Ka, Ka, Ka, Ka, Ka, Ka⟩
  rintro ⟨b8, g1, g2, lo2, m2, hi2⟩ ρ9 w7 ⟨E15, hB8, hG1, hG2, icg1, icg2, hlo2, hm2, hm2', hb8, hhi2, hb8', hd2⟩
  have stop12 : True := trivial
  focus
    have szE15 := E15.size; have szEw2 := Ew2.size; refine Zp<|Zo<|Xe Ks Kp hB8 rfl<|Xe Ks Kp (hB9.ext E15) rfl<|Zq rfl (Yh (a := .agg _) (b := .agg _) Zi rfl rfl) (kE _ _ _ _ _ ((OwnedB.read hG1)) ((OwnedB.read hG2)) ((Mono.mono E15 (OwnedB.read hX1))) ((Mono.mono E15 (OwnedB.read hX2)))) ?_; rintro _ w8 ⟨rfl, E1⟩; have hs5 := E1.size; refine Yl rfl<|Yo rfl (Vp (v := .bool _) rfl) (fun h5 => ?_) (fun h5 => ?_); contradiction; refine Vn rfl<|Vn rfl<|Wo rfl (Yy rfl rfl)<|Vo rfl<|Zm<|Us rfl fun h6 => ?_; refine Zu<|Zp<|Zp ?_
  clear stop12
  focus
    have hB2 := (hB2.ext (E15.trans E1)); have hB1 := (hB1.ext (E15.trans E1)); have hB9 := (hB9.ext (E15.trans E1)); have hX1 := (hX1.ext (E15.trans E1)); have hX2 := (hX2.ext (E15.trans E1)); have hO1 := (hO1.ext (E15.trans E1)); have hQ1 := (hQ1.ext (E15.trans E1)); have hB8 := (hB8.ext E1); have hG1 := (hG1.ext E1); have hG2 := (hG2.ext E1); have Ew1 := ((Ew2.trans E15).trans E1); clear Ew2; clear E15; clear szE15; clear szEw2; clear E1
  refine W_mid [48, 49, 50, 51, 52] (fun _ : Unit => [(52, .bool false)]) (fun _ w' => Ext w8 w') ?_ ?_
  · focus
      refine Rg (fun w' => Ext w w') Xt rfl Kb ?_; intro w9 E1 K2 hz2; refine Wha [0, 1]<|Vs rfl ?_ ?_; refine Xe Ks Kp (hB2.ext E1) rfl<|Wnx exq<|Wha [1]<|Wh1 rfl<|Xe Zf Zg (hB1.ext E1) rfl<|Wnx exq<|Wha [2]<|Wh1 rfl<|Zq rfl (Vw (a := .agg _) Zh rfl) (kT _ ((Mono.mono exq h1)) ((Mono.mono exq h2))) ?_; rintro _ w10 ⟨u4, q2, m3, rfl, E2, hO2, hQ2, hm3, hn2⟩; refine Wnx exq<|Wha [3]<|Wh1 rfl<|Zq rfl (Yh (a := .agg _) (b := .agg _) Zi rfl rfl) (kEp _ _ _ _ _ ((Mono.mono exq (OwnedB.read hO1))) ((Mono.mono exq (OwnedB.read hQ1))) ((OwnedB.read hO2)) ((Owned.read hQ2))) ?_; rintro _ w11 ⟨rfl, E3⟩; refine Wnx exq<|Yn 4 rfl Kb Kb rfl (fun _ _ => Ng rfl) exq ?_; refine Yg Kb ?_; rotate_left
      refine Wh1 rfl<|Xe Zf Zg (hB1.ext E1) rfl<|Wnx exq<|Wha [0, 2]<|Vs rfl ?_ ?_; refine Xe Ks Kp (hB2.ext E1) rfl<|Wnx exq<|Wha [2]<|Wh1 rfl<|Zq rfl (Vw (a := .agg _) Zh rfl) (kT _ ((Mono.mono exq h1)) ((Mono.mono exq h2))) ?_; rintro _ w10 ⟨u4, q2, m3, rfl, E2, hO2, hQ2, hm3, hn2⟩; refine Wnx exq<|Wha [3]<|Wh1 rfl<|Zq rfl (Yh (a := .agg _) (b := .agg _) Zi rfl rfl) (kEp _ _ _ _ _ ((Mono.mono exq (OwnedB.read hO1))) ((Mono.mono exq (OwnedB.read hQ1))) ((OwnedB.read hO2)) ((Owned.read hQ2))) ?_; rintro _ w11 ⟨rfl, E3⟩; refine Wnx exq<|Yn 4 rfl Kb Kb rfl (fun _ _ => Ng rfl) exq ?_; refine Yg Kb ?_; rotate_left; refine Wh1 rfl<|Zq rfl (Vw (a := .agg _) Zh rfl) (kT _ ((Mono.mono exq h1)) ((Mono.mono exq h2))) ?_
      rintro _ w10 ⟨u4, q2, m3, rfl, E2, hO2, hQ2, hm3, hn2⟩; refine Wnx exq<|Wha [0]<|Wh1 rfl<|Xe Ks Kp (hB2.ext exq) rfl<|Wnx exq<|Wha [3]<|Wh1 rfl<|Zq rfl (Yh (a := .agg _) (b := .agg _) Zi rfl rfl) (kEp _ _ _ _ _ ((Mono.mono exq (OwnedB.read hO1))) ((Mono.mono exq (OwnedB.read hQ1))) ((OwnedB.read hO2)) ((Owned.read hQ2))) ?_; rintro _ w11 ⟨rfl, E3⟩; refine Wnx exq<|Yn 4 rfl Kb Kb rfl (fun _ _ => Ng rfl) exq ?_; refine Yg Kb ?_; rotate_left
    all_goals exact ⟨(), ⟨rfl, trivial⟩, Kh, by repeat (first | assumption | refine Ext.trans Kd ?_)⟩
  rintro ⟨⟩ ρ10 w9 E16
  have hq16 := E16.size
  have stop20 : True := trivial
  focus
    have szE16 := E16.size; have szEw1 := Ew1.size; refine Zv rfl ?_; refine Zu<|Zo<|Vg rfl<|Zm<|Zp<|Ve<|Xe Ks Kp (hB2.ext E16) rfl<|Zt rfl<|Zq rfl (Yh (a := .agg _) (b := .int _ _) Tryz.call31 rfl rfl) (kM0 _ _ _ _ _ _ ((hO1.ext E16)) ((hQ1.ext E16)) Kd Kd Ka) ?_; rintro _ w10 ⟨y2, rfl, E1, hy1⟩; have hB2 := (hB2.ext E16).span E1 Ka; have hB1 := (hB1.ext E16).span E1 Ka; have hB9 := (hB9.ext E16).span E1 Ka; have hX1 := (hX1.ext E16).span E1 Ka; have hX2 := (hX2.ext E16).span E1 Ka; have hB8 := (hB8.ext E16).span E1 Ka; have hG1 := (hG1.ext E16).span E1 Ka; have hG2 := (hG2.ext E16).span E1 Ka; have E2 := (Ew1.trans E16).span E1 Ka; have hs6 := E1.size
    refine Vg rfl<|Zm<|Zp<|Zo<|Zt rfl<|Vl rfl<|Yu rfl fun h7 => ?_; refine Xe Ks Kp hB8 rfl<|Xe Ks Kp hB9 rfl<|Zq rfl (Yh (a := .agg _) (b := .agg _) Zi rfl rfl) (kE _ _ _ _ _ ((OwnedB.read hG1)) ((OwnedB.read hG2)) ((OwnedB.read hX1)) ((OwnedB.read hX2))) ?_; rintro _ w11 ⟨rfl, E3⟩; have hs7 := E3.size; refine Yl rfl<|Vo rfl<|Yo rfl (Vp (v := .bool _) rfl) (fun h8 => ?_) (fun h8 => ?_); contradiction; refine Vn rfl<|Vn rfl<|Wo rfl (Yy rfl rfl)<|Vo rfl<|Zm<|Us rfl fun h15 => ?_
    refine Zu<|Zo<|Vg rfl<|Zm<|Zo<|Xe Ks Kp (hB8.ext E3) rfl<|Zt rfl<|Zq rfl (Yh (a := .agg _) (b := .int _ _) Tryz.call31 rfl rfl) (kM _ _ _ _ _ _ ((hG1.ext E3)) ((hG2.ext E3)) Kd Kd Ka) ?_; rintro _ w12 ⟨y3, rfl, E4, hy2⟩; have hB1 := (hB1.ext E3).span E4 Ka; have hB9 := (hB9.ext E3).span E4 Ka; have hX1 := (hX1.ext E3).span E4 Ka; have hX2 := (hX2.ext E3).span E4 Ka; have hB8 := (hB8.ext E3).span E4 Ka; have E5 := (E2.trans E3).span E4 Ka; have hs8 := E4.size; refine Vg rfl<|Zm<|Zp ?_
  clear stop20
  obtain ⟨rfl, hOx, hQx⟩ := hy2
  have stop26 : True := trivial
  focus
    have szE5 := E5.size; have szE3 := E3.size; have szE2 := E2.size; have szE16 := E16.size; have szEw1 := Ew1.size; refine Ve<|Vg rfl<|Zm<|Zp<|Ve<|Xe Ks Kp hB8 rfl<|Zt rfl<|Zq rfl (Yh (a := .agg _) (b := .int _ _) Tryz.call33 rfl rfl) (kH _ _ _ ((OwnedB.read hOx)) ((OwnedB.read hQx))) ?_; rintro _ w13 ⟨rfl, E6⟩; have hs9 := E6.size; refine Vg rfl<|Zm<|Zp<|Zo<|Zt rfl<|Vl rfl<|Zm<|Vj rfl fun h16 => ?_; refine Zu<|Zp<|Zo<|Zt rfl<|Zt rfl<|Xm rfl<|Zm<|Us rfl fun h17 => ?_; refine Zu<|Zp ?_
  clear stop26
  focus
    have hB1 := (hB1.ext E6); have hB9 := (hB9.ext E6); have hX1 := (hX1.ext E6); have hX2 := (hX2.ext E6); have hB8 := (hB8.ext E6); have hOx := (hOx.ext E6); have hQx := (hQx.ext E6); have Ew2 := (E5.trans E6); clear Ew1; clear E16; clear szE16; clear szE16; clear szEw1; clear szEw1; clear E2; clear E3; clear E5; clear szE5; clear szE3; clear szE2; clear E6
  refine W_mid [81, 82, 83, 84, 80, 85, 86, 14, 15] (fun ((b7, z1, z2) : Nat × Value × Value) => [(14, .pointer (some ⟨b7, 0, none⟩)), (15, str b)]) (fun (b7, z1, z2) w' => Ext w13 w' ∧ Blk w' b7 [z1, z2] ∧ ESl Ints w' z1 now ∧ ESl (ESl Ints) w' z2 past ∧ isCell z1 = true ∧ isCell z2 = true) ?_ ?_
  · focus
      refine Ve<|Xe Zf Zg hB1 rfl<|Zq rfl (Vw (a := .agg _) Zh rfl) (kT _ ((Mono.mono Ew2 h1)) ((Mono.mono Ew2 h2))) ?_; rintro _ w14 ⟨u4, q2, m3, rfl, E2, hO2, hQ2, hm3, hn2⟩; have hs10 := E2.size; refine Vn rfl<|Zq rfl (Yh (a := .agg _) (b := .string _) Tryz.call13 rfl rfl) (kI _ _ _ ((Mono.mono exq hM)) ((Mono.mono exq hT)) ((OwnedB.read hO2)) ((Owned.read hQ2))) ?_; rintro _ w15 ⟨u5, q3, m4, rfl, E3, hO3, hQ3, hm4, hn3⟩; have icu5 := OwnedB.isC hO3; have icq3 := OwnedB.isC (Owned.toB hQ3); have hs11 := E3.size; refine Xj rfl<|WsxA rfl<|Rm rfl<|Ys rfl Xi ?_; rintro b3 w16 hb3 E5 hB3; refine Xk rfl Kp rfl rfl Ke Ke hB3 Ka (((Ew2.trans E2).trans E3).trans E5) ?_; rintro w17 E6 hB3 K2 hz2
      have E7 := ((E2.trans E3).trans E5).wroteAt exq E6 K2 hz2 Ka; have hO3 := (hO3.ext E5).wrote K2 Ka; have hQ3 := (hQ3.toB.ext E5).wrote K2 Ka; refine Yi rfl<|Zm ?_
    all_goals exact ⟨(b3, u5, q3), ⟨rfl, rfl, trivial⟩, Kh, by repeat (first | assumption | refine Ext.trans Kd ?_), hB3, hO3.read, hQ3.read, icu5, icq3⟩
  rintro ⟨b7, z1, z2⟩ ρ11 w14 ⟨E40, hB7, hZ1, hZ2, icz1, icz2⟩
  focus
    refine Zp<|Zo<|Xe Ks Kp hB7 rfl<|Xe Ks Kp (hB9.ext E40) rfl<|Zq rfl (Yh (a := .agg _) (b := .agg _) Zi rfl rfl) (kE _ _ _ _ _ (hZ1) (hZ2) ((Mono.mono E40 (OwnedB.read hX1))) ((Mono.mono E40 (OwnedB.read hX2)))) ?_; rintro _ w15 ⟨rfl, E2⟩; refine Yl rfl<|Yo rfl (Vp (v := .bool _) rfl) (fun h18 => ?_) (fun h18 => ?_); contradiction; refine Vn rfl<|Vn rfl<|Wo rfl (Yy rfl rfl)<|Vo rfl<|Zm<|Us rfl fun h19 => ?_; refine Zu<|Zp<|Ve<|Vg rfl<|Zm<|Zo<|Xe Ks Kp (hB8.ext exq) rfl<|Zt rfl<|Zq rfl (Yh (a := .agg _) (b := .int _ _) Tryz.call33 rfl rfl) (kH _ _ _ ((Mono.mono exq (OwnedB.read hOx))) ((Mono.mono exq (OwnedB.read hQx)))) ?_; rintro _ w16 ⟨rfl, E3⟩
    refine Vg rfl<|Zm<|Zp<|Zo<|Zt rfl<|Vl rfl<|Zm<|Vj rfl fun h20 => ?_; refine Zu<|Zp<|Zo<|Zt rfl<|Zt rfl<|Xm rfl<|Zm<|Us rfl fun h21 => ?_; refine Zu<|Zo<|Zx rfl<|Zm<|Zy ?_; exact ⟨rfl, exq⟩
end Go.Proofs.YtbgpppaljpngmaaGreatDoor
namespace Go
variable {H : Type} {enc : TypeId × Value → H}
theorem Tm {a : Assume} {C : Checked} {os : Os} {f : FuncId} {fn : Func} {s : ChangeSpec} {conds : List PathCond} {apart fresh handsOn again : Bool} {X : World → Array Value → Prop}
    (hX : ∀ (w w' : World) (args : Array Value), w.heap = w'.heap → X w args → X w' args)
    (own : ownKnob C.prog.godebug = none) (started : os.Started) (noInit : C.prog.inits.idxOf? f = none) (hfn : C.prog.funcs[f]? = some fn)
    (witness : ∃ (w : World) (tape : Tape) (i : Input), w.os = os ∧ (w.forCall tape i).Shaped C.prog ∧ i.vars = [] ∧ Input.okWide C.prog (w.forCall tape i) .any w.heap.size f i ∧
      ((s.pre enc C.prog fn conds apart (w.forCall tape i).memory i.args ∧ X (w.forCall tape i).memory i.args) ∧ sizedMet enc C.prog fn (OpenSpec.ofChange s) apart (w.forCall tape i).memory i.args) ∧ a.holds C.prog (lone (Frame.enter C.prog f i.args .normal) [] (w.forCall tape i)))
    (contract : ∀ (W : World) (base : Nat) (args : Array Value) (ds gs : List (DataW H)) (before : List MemPlace),
      (∀ (j : Nat) t v, fn.params[j]? = some t → args[j]? = some v → Value.okWide C.prog W .any base t v) →
      DataW.Whole enc C.prog fn.params.toList s.vars apart W args.toList ds gs before → W.ShapedOpen C.prog → X W args →
      Calls C.prog f args W fun e W' => ∃ v, e = .returned v ∧ s.post enc C.prog fn apart fresh handsOn again W args v W') :
    ReturnsInHanded a C os f .any (fun w args => (s.pre enc C.prog fn conds apart w args ∧ X w args) ∧ sizedMet enc C.prog fn (OpenSpec.ofChange s) apart w args) (s.post enc C.prog fn apart fresh handsOn again) := by
  refine returnsInHanded_of_calls own started noInit witness ?_
  intro w tape i _ hsh _ hok hpre hholds
  obtain ⟨_, _, _, fn', hfn', _, _, _, _, hval⟩ := hok
  have e : fn' = fn := Option.some.inj (hfn'.symm.trans hfn)
  subst e
  obtain ⟨⟨⟨ds, gs, before, hw, hc⟩, hx⟩, hz⟩ := hpre
  have hw' := DataW.Whole.of_heap (w' := w.forCall tape i) (by rfl) hw
  refine (contract (w.forCall tape i) w.heap.size i.args ds gs before hval hw' hsh (hX _ _ _ (by rfl) hx)).mono fun e W' ⟨v, he, hp⟩ => ?_
  subst he
  exact ChangeSpec.post_blind hp
end Go
namespace Go.Proofs.YtbgpppaljpngmaaGreatDoor
open Go.Hs
def isTb (x : String × DataW Unit) : Bool := match x.2 with
  | .agg (.lit (.int .u64 _) :: _) => true
  | _ => false
theorem etb_of {W : World} {l : List (String × DataW Unit)} (h : laidMetH Tryz.prog l W) (hl : l.filter isTb = [("internal/strconv.uint64pow10", Go.Lib.tabData .u64 Go.Lib.pow10Tab)]) : ETb W (.bool true) () := by
  have h1 := laidMetH.filter isTb h
  rw [hl, MakeChecks.laidMetH_plain _ _ _ Kb] at h1
  exact Go.Lib.tabIs_of_head (g := 1) (t := 185) (e := 171) (n := 20) Kb Kb Tryz.underlying185 Tryz.underlying171 Kb Kb h1
end Go.Proofs.YtbgpppaljpngmaaGreatDoor
