/- Lemmas for FnExactDeskSay. -/
import Derived.Test.YtbgpppaljpngmaaGreatDoorMFnExactDeskSay7
import Derived.LaidSub
namespace Go.Proofs.YtbgpppaljpngmaaGreatDoor
open Go.Hs
set_option maxRecDepth 10000
set_option maxHeartbeats 4000000
set_option linter.unusedVariables false
set_option linter.unusedSimpArgs false
open Go.Lib (decDigits)
theorem enc_no (f:Fm):(32:UInt8) ∉ f.enc:=by
 induction f <;> simp_all [Fm.enc]
theorem ask2_no {p:List (List Int)} {a r:List UInt8} (h:(32:UInt8) ∈ r):ask2 p a r=[119,104,97,116]:=by
 have h1:okF r=false:=by
  unfold okF
  cases hf:theF r with
  | none=>rfl
  | some f=>have:=(theF_some.1 hf).1;subst this;exact absurd h (enc_no f)
 have h2:(rdP r).isSome=false:=by
  cases hq:rdP r with
  | none=>rfl
  | some q=>have:=Sa hq;rw [← this.2] at h;exact absurd h (txt_no this.1.gr Kc)
 unfold ask2;rw [h1,h2];simp
theorem ask_words (p:List (List Int)) (s:List UInt8) :
  (∃ ps,cutB 32 s=ps∧ps.length≠2∧(if (cutF 32 s).2.2 then ask2 p (cutF 32 s).1 (cutF 32 s).2.1 else [119,104,97,116])=[119,104,97,116])
  ∨ ∃ a r,cutB 32 s=[a,r]∧r.length≤s.length∧(if (cutF 32 s).2.2 then ask2 p (cutF 32 s).1 (cutF 32 s).2.1 else [119,104,97,116])=ask2 p a r:=by
 rcases byte_ind 32 s with h | ⟨a,r,rfl,h⟩
 ·left
  exact ⟨_,rfl,by rw [Tk h];simp,by rw [cutF_no h];rfl⟩
 ·rw [cutF_at h,Tx h]
  by_cases hr:(32:UInt8) ∈ r
  ·left
   refine ⟨_,Z,?_,by rw [if_pos Z];exact ask2_no hr⟩
   have:=List.count_pos_iff.2 hr
   rw [List.length_cons,cutB_len];omega
  ·right
   exact ⟨a,r,by rw [Tk hr],by simp;omega,by rw [if_pos rfl]⟩
open Classical in
theorem spec_DeskLine_ok (w:World) (u1 u2:Value) (d:Dsk) (h1:ESl Ints w u1 d.now) (h2:ESl (ESl Ints) w u2 d.past) (s:List UInt8) (hs:s.length≤1048576) :
  Does Tryz.prog 14 [.agg #[u1,u2],str s] w (RetDkRT w (dlV d s).1.now (dlV d s).1.past (dlV d s).2):=by
 have icu1:isCell u1=true:=Uu h1
 have icu2:isCell u2=true:=Uu h2
 have nil1 : ∀ (w w':World),w.heap.size≤w'.heap.size→OwnedB w.heap.size w'.heap.size (XRd (ESl Ints)) w' (.slice none 0 0) []:=fun w w' h=>(OwnedB.nil (e:=0) (X:=XSl 0 XInt)).rd
 have nil2 : ∀ (w w':World),w.heap.size≤w'.heap.size→OwnedB w.heap.size w'.heap.size (XRd (ESl (ESl Ints))) w' (.slice none 0 0) []:=fun w w' h=>(OwnedB.nil (e:=0) (X:=XSl 0 (XSl 0 XInt))).rd
 refine Su Tryz.func14 Z Tryz.results14 Tryz.ntmps14 Z Ks Ko ?_
 by_cases hd:DkOk d
 ·rw [show dlV d s=lnV d s from if_pos hd]
  have bnd : ∀ q,Pic q→q.length≤100∧∀ r ∈ q,r.length≤100:=fun q hq=>⟨by have:=hq.2.1;omega,fun r hr=>by rw [(hq.2.2 r hr).1];have:=hq.2.1;omega⟩
  have hppl:=hd.2.1
  have hp:=hd.1.1
  have k0 : ∀ w,ESl Ints w u1 d.now→ESl (ESl Ints) w u2 d.past→Does Tryz.prog 16 [.agg #[u1,u2]] w (Ret w (.bool true)):=fun w h1 h2=>by
   have:=Rd w u1 u2 d h1 h2;rwa [decide_eq_true hd] at this
  have k1 : ∀ w,ESl Ints w u1 d.now→ESl (ESl Ints) w u2 d.past→Does Tryz.prog 60 [.agg #[u1,u2]] w (RetDk w 23 88 3 d.now d.past):=fun w h1 h2=>l11Copy_ok w u1 u2 d.now d.past h1 h2 (bnd _ hd.1.1) Ka (fun q hq=>bnd q (hd.2.2 q hq).1)
  cases ha:rdD s with
  | some a =>
    rw [show lnV d s = ((doV d a).1, okV (doV d a).2) by unfold lnV; rw [ha]]
    have hat : a.text.length ≤ 1048576 := rdD_text ha hs
    have k2 : ∀ (w : World), Does Tryz.prog 61 [str s] w (Ret w (.tuple #[.agg #[.int .i64 a.kind, str a.text, .int .i64 a.node], .bool true])) := fun w => by
      have := Np w s hs
      rw [ha] at this; exact this
    have k3 : ∀ (w : World), ESl Ints w u1 d.now → ESl (ESl Ints) w u2 d.past → Does Tryz.prog 37 [.agg #[u1, u2], .agg #[.int .i64 a.kind, str a.text, .int .i64 a.node]] w (RetDkRB w (doV d a).1.now (doV d a).1.past (doV d a).2) := fun w h1 h2 => by
      have := (spec_DeskDo_ok w u1 u2 d h1 h2 a.kind a.node a.text hat).mono fun _ _ h => h.r
      rwa [if_pos hd, if_pos hd, decide_eq_true hd, Bool.true_and] at this
    cases hb : (doV d a).2 with
    | true =>
      rw [hb] at k3
      focus
        refine Zp<|Yl Z Z Z ?_; rintro b1 w1 hb1 E1 hB1; have hlb1 := hB1.lt; refine Yp Z Xf ?_; rintro b2 w2 hb2 E2 hB2; have hlb2 := hB2.lt; refine Yj Z<|Zn<|Zq<|Zp<|Xc Ks Ko (hB1.ext E2) Z<|Zr Z (Vx (a := .agg _) Gc Z) (k0 _ ((Mono.mono exq h1)) ((Mono.mono exq h2))) ?_; rintro _ w3 ⟨rfl, E3⟩; have hs3 := E3.size; refine Ym Z<|Zn<|Xa Z fun h3 => ?_; refine Zv<|Zp<|Xc Ks Ko (hB1.ext exq) Z<|Zr Z (Vx (a := .agg _) Gp Z) (k1 _ ((Mono.mono exq h1)) ((Mono.mono exq h2))) ?_; rintro _ w4 ⟨u3, q1, m1, rfl, E4, hO1, hQ1, hm1, hn1⟩; have icu3 := OwnedB.isC hO1; have icq1 := OwnedB.isC (Owned.toB hQ1); have hs4 := E4.size; refine Yp Z Xf ?_; rintro b3 w5 hb3 E5 hB3; have hlb3 := hB3.lt
        refine Xj Z Ko Z Z Ke Ke hB3 Ka ((((E1.trans E2).trans E3).trans E4).trans E5) ?_; rintro w6 E6 hB3 K1 hz1; have E7 := (((E2.trans E3).trans E4).trans E5).wroteAt exq E6 K1 hz1 Ka; have E8 := ((E3.trans E4).trans E5).wroteAt exq E6 K1 hz1 Ka; have E9 := (E4.trans E5).wroteAt exq E6 K1 hz1 Ka; have E10 := E5.wroteAt exq E6 K1 hz1 Ka; have hB1 := (hB1.ext exq).of_heap (K1 _ Ka); have hB2 := (hB2.ext exq).of_heap (K1 _ Ka); have hO1 := (hO1.ext E5).wrote K1 Ka; have hQ1 := (hQ1.toB.ext E5).wrote K1 Ka; refine Zn<|Zp<|Vo Z<|Zr Z (Vx (a := .string _) Tryz.call61 Z) (k2 _) ?_; rintro _ w7 ⟨rfl, E11⟩; have hs6 := E11.size; refine Xl Z<|WsxA Z<|Xv Z<|Ru Z Yx ?_; rintro b4 w8 hb4 E12 hB4
        have hlb4 := hB4.lt; refine Qq Kx hB4 Z ((E6.trans E11).trans E12) ?_; rintro w9 E13 hB4 K2 hz2; have E14 := ((E7.trans E11).trans E12).wroteAt exq E13 K2 hz2 Ka; have szE14 := E14.size; have E15 := ((E8.trans E11).trans E12).wroteAt exq E13 K2 hz2 Ka; have szE15 := E15.size; have hB1 := (hB1.ext exq).of_heap (K2 _ Ka); have hB2 := (hB2.ext exq).of_heap (K2 _ Ka); refine Zz Z<|Zn<|Zq<|Zp<|Yi Z<|Zn<|Vv Z ?_; refine Zp<|Xc Ks Ko hB1 Z<|Qt Je Kx hB4 Z<|Zr Z (Yg (a := .agg _) (b := .agg _) Tryz.call37 Z Z) (k3 _ ((Mono.mono E13 h1)) ((Mono.mono E13 h2))) ?_; rintro _ w10 ⟨u4, q2, rfl, E20, hA1, hC1, icu4, icq2, gwu4⟩; refine Xl Z<|WsxA Z<|Xv Z<|Yp Z Xf ?_; rintro b5 w11 hb5 E21 hB5; have hs9 := E21.size
        refine Ui Ko hB5 Z ((E13.trans E20).trans E21) ?_; rintro w12 E22 hB5 K3 hz3; have hB2 := (hB2.ext exq).of_heap (K3 _ Ka); have hA1 := (hA1.ext E21).wrote K3 Ka; have hC1 := (hC1.ext E21).wrote K3 Ka; refine Zz Z<|Zn<|Zq<|Zp<|Yi Z<|Ym Z<|Zn<|Xa Z fun h4 => ?_; refine Zv<|Zp<|Xc Ks Ko hB5 Z<|Ui Ko hB2 Z E22 ?_; rintro w13 E31 hB2 K4 hz4; have hA1 := hA1.wrote K4 Ka; have hC1 := hC1.wrote K4 Ka; refine Yj Z<|Zn<|Zy ?_
      exact ⟨b2, u4, q2, rfl, hB2, u4, q2, rfl, by exact E31, hA1.wide Ka Ka, hC1.wide Ka Ka, icu4, icq2⟩
    | false =>
      rw [hb] at k3
      focus
        refine Zp<|Yl Z Z Z ?_; rintro b1 w1 hb1 E1 hB1; have hlb1 := hB1.lt; refine Yp Z Xf ?_; rintro b2 w2 hb2 E2 hB2; have hlb2 := hB2.lt; refine Yj Z<|Zn<|Zq<|Zp<|Xc Ks Ko (hB1.ext E2) Z<|Zr Z (Vx (a := .agg _) Gc Z) (k0 _ ((Mono.mono exq h1)) ((Mono.mono exq h2))) ?_; rintro _ w3 ⟨rfl, E3⟩; have hs3 := E3.size; refine Ym Z<|Zn<|Xa Z fun h3 => ?_; refine Zv<|Zp<|Xc Ks Ko (hB1.ext exq) Z<|Zr Z (Vx (a := .agg _) Gp Z) (k1 _ ((Mono.mono exq h1)) ((Mono.mono exq h2))) ?_; rintro _ w4 ⟨u3, q1, m1, rfl, E4, hO1, hQ1, hm1, hn1⟩; have icu3 := OwnedB.isC hO1; have icq1 := OwnedB.isC (Owned.toB hQ1); have hs4 := E4.size; refine Yp Z Xf ?_; rintro b3 w5 hb3 E5 hB3; have hlb3 := hB3.lt
        refine Xj Z Ko Z Z Ke Ke hB3 Ka ((((E1.trans E2).trans E3).trans E4).trans E5) ?_; rintro w6 E6 hB3 K1 hz1; have E7 := (((E2.trans E3).trans E4).trans E5).wroteAt exq E6 K1 hz1 Ka; have E8 := ((E3.trans E4).trans E5).wroteAt exq E6 K1 hz1 Ka; have E9 := (E4.trans E5).wroteAt exq E6 K1 hz1 Ka; have E10 := E5.wroteAt exq E6 K1 hz1 Ka; have hB1 := (hB1.ext exq).of_heap (K1 _ Ka); have hB2 := (hB2.ext exq).of_heap (K1 _ Ka); have hO1 := (hO1.ext E5).wrote K1 Ka; have hQ1 := (hQ1.toB.ext E5).wrote K1 Ka; refine Zn<|Zp<|Vo Z<|Zr Z (Vx (a := .string _) Tryz.call61 Z) (k2 _) ?_; rintro _ w7 ⟨rfl, E11⟩; have hs6 := E11.size; refine Xl Z<|WsxA Z<|Xv Z<|Ru Z Yx ?_; rintro b4 w8 hb4 E12 hB4
        have hlb4 := hB4.lt; refine Qq Kx hB4 Z ((E6.trans E11).trans E12) ?_; rintro w9 E13 hB4 K2 hz2; have E14 := ((E7.trans E11).trans E12).wroteAt exq E13 K2 hz2 Ka; have szE14 := E14.size; have E15 := ((E8.trans E11).trans E12).wroteAt exq E13 K2 hz2 Ka; have szE15 := E15.size; have hB1 := (hB1.ext exq).of_heap (K2 _ Ka); have hB2 := (hB2.ext exq).of_heap (K2 _ Ka); refine Zz Z<|Zn<|Zq<|Zp<|Yi Z<|Zn<|Vv Z ?_; refine Zp<|Xc Ks Ko hB1 Z<|Qt Je Kx hB4 Z<|Zr Z (Yg (a := .agg _) (b := .agg _) Tryz.call37 Z Z) (k3 _ ((Mono.mono E13 h1)) ((Mono.mono E13 h2))) ?_; rintro _ w10 ⟨u4, q2, rfl, E20, hA1, hC1, icu4, icq2, gwu4⟩; refine Xl Z<|WsxA Z<|Xv Z<|Yp Z Xf ?_; rintro b5 w11 hb5 E21 hB5; have hs9 := E21.size
        refine Ui Ko hB5 Z ((E13.trans E20).trans E21) ?_; rintro w12 E22 hB5 K3 hz3; have hB2 := (hB2.ext exq).of_heap (K3 _ Ka); have hA1 := (hA1.ext E21).wrote K3 Ka; have hC1 := (hC1.ext E21).wrote K3 Ka; refine Zz Z<|Zn<|Zq<|Zp<|Yi Z<|Ym Z<|Zn<|Xg Z (fun h4 => ?_) (fun h4 => ?_); refine Zp<|Xc Ks Ko hB5 Z<|Ui Ko hB2 Z E22 ?_; rintro w13 E31 hB2 K4 hz4; have hA1 := hA1.wrote K4 Ka; have hC1 := hC1.wrote K4 Ka; refine Yj Z<|Zn<|Zy ?_; rotate_left; contradiction
      exact ⟨b2, u4, q2, rfl, hB2, u4, q2, rfl, by exact E31, hA1.wide Ka Ka, hC1.wide Ka Ka, icu4, icq2⟩
  | none =>
    rw [show lnV d s = (d, askV d.now s) by unfold lnV; rw [ha]]
    have k2 : ∀ (w : World), Does Tryz.prog 61 [str s] w (Ret w (.tuple #[.agg #[.int .i64 0, str [], .int .i64 0], .bool false])) := fun w => by
      have := Np w s hs
      rw [ha] at this; exact this
    have hp1 := hp.1
    have hp5 := hp.2.1
    have htx := txt_len hp.gr
    have hfl := faV_le d.now
    have hml := manyV_le d.now 0
    have yn := l11Yes_ok
    have c1 : ∀ (w : World) (v : Value), ESl Ints w v d.now → Does Tryz.prog 62 [v] w (Ret w (str (txt d.now))) := fun w v h => by
      have := Uk w v d.now h; rwa [if_pos hp] at this
    have c2 : ∀ (w : World) (v : Value), ESl Ints w v d.now → Does Tryz.prog 63 [v, .int .i64 0] w (Ret w (.tuple #[.int .i64 (codeV d.now 0).1, .bool (codeV d.now 0).2])) := fun w v h => spec_CodeAt_ok w v d.now h hp
    have c3 : ∀ (w : World) (v : Value), ESl Ints w v d.now → Does Tryz.prog 65 [v, .int .i64 0] w (Ret w (.int .i64 (manyV d.now 0 : Int))) := fun w v h => spec_ManyIn_ok w v d.now h hp
    have c4 : ∀ (w : World) (v u : Value), ESl Ints w v d.now → ESl Ints w u d.now → Does Tryz.prog 67 [v, .int .i64 0, u, .int .i64 0] w (Ret w (.bool (hasV d.now 0 d.now 0))) := fun w v u h h' => spec_HasSet_ok w v u d.now d.now h h' hp hp
    have c5 : ∀ (w : World) (v : Value), ESl Ints w v d.now → Does Tryz.prog 68 [v, .int .i64 0] w (Ret w (.int .i64 (deepAtV d.now 0))) := fun w v h => spec_DeepAt_ok w v d.now h 0
    have c6 : ∀ (w : World) (v : Value), ESl Ints w v d.now → Does Tryz.prog 69 [v] w (RetO w XI (ints (faV d.now))) := fun w v h => spec_FoundedAll_ok w v d.now h
    have cI : ∀ (w : World) (n : Nat), n ≤ 1000000 → Does Tryz.prog 64 [.int .i64 (n : Int)] w (Ret w (str (decDigits n))) := fun w n hn => l1Num_ok n n (Nat.le_refl _) hn w
    have cF : ∀ (w : World), Does Tryz.prog 64 [.int .i64 ((ints (faV d.now)).length : Int)] w (Ret w (str (decDigits (faV d.now).length))) := fun w => by
      rw [Yy] at hfl ⊢
      exact cI w _ Ka
    have cM : ∀ (w : World), Does Tryz.prog 64 [.int .i64 (manyV d.now 0 : Int)] w (Ret w (str (decDigits (manyV d.now 0)))) := fun w => cI w _ Ka
    have c7 : ∀ (w : World), Does Tryz.prog 70 [str s, .int .u8 32] w (RetO w XS (cutB 32 s)) := fun w => l1Cut_ok w s 32 hs
    have stop10 : True := trivial
    focus
      refine Zp<|Yl Z Z Z ?_; rintro b1 w1 hb1 E1 hB1; have hlb1 := hB1.lt; have hs1 := E1.size; refine Yp Z Xf ?_; rintro b2 w2 hb2 E2 hB2; have hlb2 := hB2.lt; have hs2 := E2.size; refine Yj Z<|Zn<|Zq<|Zp<|Xc Ks Ko (hB1.ext E2) Z<|Zr Z (Vx (a := .agg _) Gc Z) (k0 _ ((Mono.mono exq h1)) ((Mono.mono exq h2))) ?_; rintro _ w3 ⟨rfl, E3⟩; have hs3 := E3.size; refine Ym Z<|Zn<|Xa Z fun h3 => ?_; refine Zv<|Zp<|Xc Ks Ko (hB1.ext exq) Z<|Zr Z (Vx (a := .agg _) Gp Z) (k1 _ ((Mono.mono exq h1)) ((Mono.mono exq h2))) ?_; rintro _ w4 ⟨u3, q1, m1, rfl, E4, hO1, hQ1, hm1, hn1⟩; have icu3 := OwnedB.isC hO1; have cpu3 := OwnedB.capOk hO1; have icq1 := OwnedB.isC (Owned.toB hQ1); have cpq1 := OwnedB.capOk (Owned.toB hQ1); have hs4 := E4.size
      refine Yp Z Xf ?_; rintro b3 w5 hb3 E5 hB3; have hlb3 := hB3.lt; have hs5 := E5.size; refine Xj Z Ko Z Z Ke Ke hB3 Ka ((((E1.trans E2).trans E3).trans E4).trans E5) ?_; rintro w6 E6 hB3 K1 hz1; have E7 := (((E2.trans E3).trans E4).trans E5).wroteAt exq E6 K1 hz1 Ka; have szE7 := E7.size; have E8 := ((E3.trans E4).trans E5).wroteAt exq E6 K1 hz1 Ka; have szE8 := E8.size; have E9 := (E4.trans E5).wroteAt exq E6 K1 hz1 Ka; have szE9 := E9.size; have E10 := E5.wroteAt exq E6 K1 hz1 Ka; have szE10 := E10.size; have hB1 := (hB1.ext exq).of_heap (K1 _ Ka); have hB2 := (hB2.ext exq).of_heap (K1 _ Ka); have hO1 := (hO1.ext E5).wrote K1 Ka; have hQ1 := (hQ1.toB.ext E5).wrote K1 Ka
      refine Zn<|Zp<|Vo Z<|Zr Z (Vx (a := .string _) Tryz.call61 Z) (k2 _) ?_; rintro _ w7 ⟨rfl, E11⟩; have hs6 := E11.size; refine Xl Z<|WsxA Z<|Xv Z<|Ru Z Yx ?_; rintro b4 w8 hb4 E12 hB4; have hlb4 := hB4.lt; have hs7 := E12.size; refine Qq Kx hB4 Z ((E6.trans E11).trans E12) ?_; rintro w9 E13 hB4 K2 hz2; have E14 := ((E7.trans E11).trans E12).wroteAt exq E13 K2 hz2 Ka; have szE14 := E14.size; have E15 := ((E8.trans E11).trans E12).wroteAt exq E13 K2 hz2 Ka; have szE15 := E15.size; have E16 := ((E9.trans E11).trans E12).wroteAt exq E13 K2 hz2 Ka; have szE16 := E16.size; have E17 := ((E10.trans E11).trans E12).wroteAt exq E13 K2 hz2 Ka; have szE17 := E17.size; have E18 := (E11.trans E12).wroteAt exq E13 K2 hz2 Ka; have szE18 := E18.size
      have E19 := E12.wroteAt exq E13 K2 hz2 Ka; have szE19 := E19.size; have hB3 := (hB3.ext exq).of_heap (K2 _ Ka); have hB1 := (hB1.ext exq).of_heap (K2 _ Ka); have hB2 := (hB2.ext exq).of_heap (K2 _ Ka); have hO1 := (hO1.ext exq).wrote K2 Ka; have hQ1 := (hQ1.ext exq).wrote K2 Ka; refine Zz Z<|Zn<|Zq<|Zp<|Yi Z<|Zn<|Zx Z ?_; refine Zv<|Zq<|Zq ?_
    clear stop10 k0 k1 k2
    focus
      have Ew1 := E13; clear E1; clear E2; clear E3; clear E4; clear E5; clear E6; clear E7; clear szE7; clear E8; clear szE8; clear E9; clear szE9; clear E10; clear szE10; clear E11; clear E12; clear E13; clear E14; clear szE14; clear E15; clear szE15; clear E16; clear szE16; clear E17; clear szE17; clear E18; clear szE18; clear E19; clear szE19
    have heldS : w = w := rfl
    by_cases g1 : s = [112, 105, 99, 116, 117, 114, 101]
    · have ea : askV d.now s = [58] ++ txt d.now := by unfold askV; rw [if_pos g1]; rfl
      rw [ea]
      focus
        refine Vf<|Vo Z<|Zn<|Zw<|Zp<|Wo Z (Vc Z Z)<|Zz Z<|Zn<|Zs Z (fun h4 => ?_) (fun h4 => ?_); refine Zq<|Rb (fun w' => Ext w w') Xr Z Kb ?_; intro w10 E1 K3 hz3; refine St 1 Ky Ja Z Z exq<|Wha [0, 2]<|Vu Z ?_ ?_; refine Xc Ks Ko (hB3.ext E1) Z<|Wnx exq<|Wha [2]<|Wh1 Z<|Yu u1 Kw (hB1.ext E1) Z<|Wnx exq<|Wha [3]<|Wh1 Z<|Zr Z (Vx (a := u1) Jy Z) (c1 _ _ ((Mono.mono exq h1))) ?_; rintro _ w11 ⟨rfl, E2⟩; have hs9 := E2.size; refine Wnx exq<|Yo 4 Z Kb Kb Z (fun _ _ => Xw Z Z (by simp <;> omega)) exq ?_; refine Wha [5]<|Wh1 Z<|Ui Ko (hB2.ext (E1.trans E2)) Z ((Ew1.trans E1).trans E2) ?_; rintro w12 E3 hB2 K4 hz4
        have hO1 := (hO1.ext exq).wrote K4 Ka; have hQ1 := (hQ1.ext exq).wrote K4 Ka; refine Wnx E3<|Uq 6 Z Z E3<|Yh Kb ?_; refine Zy ?_; rotate_left; refine Wh1 Z<|Yu u1 Kw (hB1.ext E1) Z<|Wnx exq<|Wha [0, 3]<|Vu Z ?_ ?_; refine Xc Ks Ko (hB3.ext E1) Z<|Wnx exq<|Wha [3]<|Wh1 Z<|Zr Z (Vx (a := u1) Jy Z) (c1 _ _ ((Mono.mono exq h1))) ?_; rintro _ w11 ⟨rfl, E2⟩; have hs9 := E2.size; refine Wnx exq<|Yo 4 Z Kb Kb Z (fun _ _ => Xw Z Z (by simp <;> omega)) exq ?_; refine Wha [5]<|Wh1 Z<|Ui Ko (hB2.ext (E1.trans E2)) Z ((Ew1.trans E1).trans E2) ?_; rintro w12 E3 hB2 K4 hz4; have hO1 := (hO1.ext exq).wrote K4 Ka; have hQ1 := (hQ1.ext exq).wrote K4 Ka
        refine Wnx E3<|Uq 6 Z Z E3<|Yh Kb ?_; refine Zy ?_; rotate_left; refine Wh1 Z<|Zr Z (Vx (a := u1) Jy Z) (c1 _ _ ((Mono.mono exq h1))) ?_; rintro _ w11 ⟨rfl, E2⟩; have hs9 := E2.size; refine Wnx exq<|Yo 4 Z Kb Kb Z (fun _ _ => Xw Z Z (by simp <;> omega)) exq ?_; refine Wha [0]<|Wh1 Z<|Xc Ks Ko (hB3.ext exq) Z<|Wnx exq<|Wha [5]<|Wh1 Z<|Ui Ko (hB2.ext (E1.trans E2)) Z ((Ew1.trans E1).trans E2) ?_; rintro w12 E3 hB2 K4 hz4; have hO1 := (hO1.ext exq).wrote K4 Ka; have hQ1 := (hQ1.ext exq).wrote K4 Ka; refine Wnx E3<|Uq 6 Z Z E3<|Yh Kb ?_; refine Zy ?_; rotate_left; contradiction
      all_goals exact ⟨b2, u3, q1, rfl, hB2, u3, q1, rfl, by repeat (first | assumption | refine Ext.trans Kd ?_), hO1.rd.wide Ka Ka, hQ1.rd.wide Ka Ka, icu3, icq1⟩
    by_cases g2 : s = [99, 111, 100, 101]
    · have ea : askV d.now s = if (codeV d.now 0).2 then decDigits (codeV d.now 0).1.toNat else [110, 111, 110, 101] := by
        unfold askV; rw [if_neg g1, if_pos g2]
      rw [ea]
      rcases codeV_nat d.now 0 with ⟨c, hc, e⟩ | e
      · rw [e] at c2 ⊢
        have cC := fun w => cI w c Ka
        focus
          refine Vf<|Vo Z<|Zn<|Zw<|Zp<|Wo Z (Vc Z Z)<|Zz Z<|Zn<|Vj Z fun h4 => ?_; refine Zp<|Wo Z (Vc Z Z)<|Zz Z<|Zn<|Zs Z (fun h5 => ?_) (fun h5 => ?_); refine Zp<|Vn Ky Ja Z<|Yu u1 Kw hB1 Z<|Zr Z (Yg (a := u1) (b := .int _ _) Tryz.call63 Z Z) (c2 _ _ ((Mono.mono Ew1 h1))) ?_; rintro _ w10 ⟨rfl, E1⟩; have hs8 := E1.size; refine Xl Z<|WsxI Z<|Xv Z<|Vg Z<|Zz Z<|Zn<|Zq<|Zp<|Yi Z<|Ym Z<|Zn<|Xa Z fun h6 => ?_; refine Zv<|Zq<|Rb (fun w' => Ext w w') Xr Z Kb ?_; intro w11 E2 K3 hz3; refine WtmI 1 Z Z exq<|Wha [0, 2]<|Vu Z ?_ ?_
          refine Xc Ks Ko (hB3.ext exq) Z<|Wnx exq<|Wha [2]<|Wh1 Z<|Zr Z (Vx (a := .int _ _) Jo Z) (cC _) ?_; rintro _ w12 ⟨rfl, E3⟩; have hs10 := E3.size; refine Wnx exq<|Wha [3]<|Wh1 Z<|Xj Z Ko Z Z Ke Ke (hB2.ext ((E1.trans E2).trans E3)) Ka (((Ew1.trans E1).trans E2).trans E3) ?_; rintro w13 E4 hB2 K4 hz4; have hO1 := (hO1.ext exq).wrote K4 Ka; have hQ1 := (hQ1.ext exq).wrote K4 Ka; refine Wnx E4<|Uq 4 Z Z E4<|Yh Kb ?_; refine Zy ?_; rotate_left; refine Wh1 Z<|Zr Z (Vx (a := .int _ _) Jo Z) (cC _) ?_; rintro _ w12 ⟨rfl, E3⟩; have hs10 := E3.size
          refine Wnx exq<|Wha [0]<|Wh1 Z<|Xc Ks Ko (hB3.ext exq) Z<|Wnx exq<|Wha [3]<|Wh1 Z<|Xj Z Ko Z Z Ke Ke (hB2.ext ((E1.trans E2).trans E3)) Ka (((Ew1.trans E1).trans E2).trans E3) ?_; rintro w13 E4 hB2 K4 hz4; have hO1 := (hO1.ext exq).wrote K4 Ka; have hQ1 := (hQ1.ext exq).wrote K4 Ka; refine Wnx E4<|Uq 4 Z Z E4<|Yh Kb ?_; refine Zy ?_; rotate_left; contradiction
        all_goals exact ⟨b2, u3, q1, rfl, hB2, u3, q1, rfl, by repeat (first | assumption | refine Ext.trans Kd ?_), hO1.rd.wide Ka Ka, hQ1.rd.wide Ka Ka, icu3, icq1⟩
      · rw [e] at c2 ⊢
        focus
          refine Vf<|Vo Z<|Zn<|Zw<|Zp<|Wo Z (Vc Z Z)<|Zz Z<|Zn<|Vj Z fun h4 => ?_; refine Zp<|Wo Z (Vc Z Z)<|Zz Z<|Zn<|Zs Z (fun h5 => ?_) (fun h5 => ?_); refine Zp<|Vn Ky Ja Z<|Yu u1 Kw hB1 Z<|Zr Z (Yg (a := u1) (b := .int _ _) Tryz.call63 Z Z) (c2 _ _ ((Mono.mono Ew1 h1))) ?_; rintro _ w10 ⟨rfl, E1⟩; have hs8 := E1.size; refine Xl Z<|WsxI Z<|Xv Z<|Vg Z<|Zz Z<|Zn<|Zq<|Zp<|Yi Z<|Ym Z<|Zn<|Xg Z (fun h6 => ?_) (fun h6 => ?_); refine Zq<|Vf<|Xc Ks Ko (hB3.ext E1) Z<|Ui Ko (hB2.ext E1) Z (Ew1.trans E1) ?_; rintro w11 E2 hB2 K3 hz3; have hO1 := (hO1.ext E1).wrote K3 Ka
          have hQ1 := (hQ1.ext E1).wrote K3 Ka; refine Yj Z<|Zn<|Zy ?_; rotate_left; contradiction; contradiction
        all_goals exact ⟨b2, u3, q1, rfl, hB2, u3, q1, rfl, by repeat (first | assumption | refine Ext.trans Kd ?_), hO1.rd.wide Ka Ka, hQ1.rd.wide Ka Ka, icu3, icq1⟩
    by_cases g3 : s = [109, 97, 110, 121]
    · have ea : askV d.now s = decDigits (manyV d.now 0) := by unfold askV; rw [if_neg g1, if_neg g2, if_pos g3]
      rw [ea]
      focus
        refine Vf<|Vo Z<|Zn<|Zw<|Zp<|Wo Z (Vc Z Z)<|Zz Z<|Zn<|Vj Z fun h4 => ?_; refine Zp<|Wo Z (Vc Z Z)<|Zz Z<|Zn<|Vj Z fun h5 => ?_; refine Zp<|Wo Z (Vc Z Z)<|Zz Z<|Zn<|Zs Z (fun h6 => ?_) (fun h6 => ?_); refine Zq<|Rb (fun w' => Ext w w') Xr Z Kb ?_; intro w10 E1 K3 hz3; refine St 1 Ky Ja Z Z exq<|Wha [0, 2]<|Vu Z ?_ ?_; refine Xc Ks Ko (hB3.ext E1) Z<|Wnx exq<|Wha [2]<|Wh1 Z<|Yu u1 Kw (hB1.ext E1) Z<|Wnx exq<|Wha [3]<|Wh1 Z<|Zr Z (Yg (a := u1) (b := .int _ _) Tryz.call65 Z Z) (c3 _ _ ((Mono.mono exq h1))) ?_; rintro _ w11 ⟨rfl, E2⟩; have hs9 := E2.size
        refine Wnx exq<|Wha [4]<|Wh1 Z<|Zr Z (Vx (a := .int _ _) Jo Z) (cM _) ?_; rintro _ w12 ⟨rfl, E3⟩; have hs10 := E3.size; refine Wnx exq<|Wha [5]<|Wh1 Z<|Xj Z Ko Z Z Ke Ke (hB2.ext ((E1.trans E2).trans E3)) Ka (((Ew1.trans E1).trans E2).trans E3) ?_; rintro w13 E4 hB2 K4 hz4; have hO1 := (hO1.ext exq).wrote K4 Ka; have hQ1 := (hQ1.ext exq).wrote K4 Ka; refine Wnx E4<|Uq 6 Z Z E4<|Yh Kb ?_; refine Zy ?_; rotate_left; refine Wh1 Z<|Yu u1 Kw (hB1.ext E1) Z<|Wnx exq<|Wha [0, 3]<|Vu Z ?_ ?_; refine Xc Ks Ko (hB3.ext E1) Z<|Wnx exq<|Wha [3]<|Wh1 Z<|Zr Z (Yg (a := u1) (b := .int _ _) Tryz.call65 Z Z) (c3 _ _ ((Mono.mono exq h1))) ?_
        rintro _ w11 ⟨rfl, E2⟩; have hs9 := E2.size; refine Wnx exq<|Wha [4]<|Wh1 Z<|Zr Z (Vx (a := .int _ _) Jo Z) (cM _) ?_; rintro _ w12 ⟨rfl, E3⟩; have hs10 := E3.size; refine Wnx exq<|Wha [5]<|Wh1 Z<|Xj Z Ko Z Z Ke Ke (hB2.ext ((E1.trans E2).trans E3)) Ka (((Ew1.trans E1).trans E2).trans E3) ?_; rintro w13 E4 hB2 K4 hz4; have hO1 := (hO1.ext exq).wrote K4 Ka; have hQ1 := (hQ1.ext exq).wrote K4 Ka; refine Wnx E4<|Uq 6 Z Z E4<|Yh Kb ?_; refine Zy ?_; rotate_left; refine Wh1 Z<|Zr Z (Yg (a := u1) (b := .int _ _) Tryz.call65 Z Z) (c3 _ _ ((Mono.mono exq h1))) ?_; rintro _ w11 ⟨rfl, E2⟩; have hs9 := E2.size; refine Wnx exq<|Wha [0, 4]<|Vu Z ?_ ?_
        refine Xc Ks Ko (hB3.ext exq) Z<|Wnx exq<|Wha [4]<|Wh1 Z<|Zr Z (Vx (a := .int _ _) Jo Z) (cM _) ?_; rintro _ w12 ⟨rfl, E3⟩; have hs10 := E3.size; refine Wnx exq<|Wha [5]<|Wh1 Z<|Xj Z Ko Z Z Ke Ke (hB2.ext ((E1.trans E2).trans E3)) Ka (((Ew1.trans E1).trans E2).trans E3) ?_; rintro w13 E4 hB2 K4 hz4; have hO1 := (hO1.ext exq).wrote K4 Ka; have hQ1 := (hQ1.ext exq).wrote K4 Ka; refine Wnx E4<|Uq 6 Z Z E4<|Yh Kb ?_; refine Zy ?_; rotate_left; refine Wh1 Z<|Zr Z (Vx (a := .int _ _) Jo Z) (cM _) ?_; rintro _ w12 ⟨rfl, E3⟩; have hs10 := E3.size
        refine Wnx exq<|Wha [0]<|Wh1 Z<|Xc Ks Ko (hB3.ext exq) Z<|Wnx exq<|Wha [5]<|Wh1 Z<|Xj Z Ko Z Z Ke Ke (hB2.ext ((E1.trans E2).trans E3)) Ka (((Ew1.trans E1).trans E2).trans E3) ?_; rintro w13 E4 hB2 K4 hz4; have hO1 := (hO1.ext exq).wrote K4 Ka; have hQ1 := (hQ1.ext exq).wrote K4 Ka; refine Wnx E4<|Uq 6 Z Z E4<|Yh Kb ?_; refine Zy ?_; rotate_left; contradiction
      all_goals exact ⟨b2, u3, q1, rfl, hB2, u3, q1, rfl, by repeat (first | assumption | refine Ext.trans Kd ?_), hO1.rd.wide Ka Ka, hQ1.rd.wide Ka Ka, icu3, icq1⟩
    by_cases g4 : s = [111, 119, 110]
    · have ea : askV d.now s = ynV (hasV d.now 0 d.now 0) := by unfold askV; rw [if_neg g1, if_neg g2, if_neg g3, if_pos g4]
      rw [ea]
      focus
        refine Vf<|Vo Z<|Zn<|Zw<|Zp<|Wo Z (Vc Z Z)<|Zz Z<|Zn<|Vj Z fun h4 => ?_; refine Zp<|Wo Z (Vc Z Z)<|Zz Z<|Zn<|Vj Z fun h5 => ?_; refine Zp<|Wo Z (Vc Z Z)<|Zz Z<|Zn<|Vj Z fun h6 => ?_; refine Zp<|Wo Z (Vc Z Z)<|Zz Z<|Zn<|Zs Z (fun h7 => ?_) (fun h7 => ?_); refine Zq<|Rb (fun w' => Ext w w') Xr Z Kb ?_; intro w10 E1 K3 hz3; refine St 1 Ky Ja Z Z exq<|St 3 Ky Ja Z Z exq<|Wha [0, 2, 4]<|Vu Z ?_ ?_; refine Xc Ks Ko (hB3.ext E1) Z<|Wnx exq<|Wha [2, 4]<|Vu Z ?_ ?_
        refine Yu u1 Kw (hB1.ext E1) Z<|Wnx exq<|Wha [4]<|Wh1 Z<|Yu u1 Kw (hB1.ext E1) Z<|Wnx exq<|Wha [5]<|Wh1 Z<|Zr Z (Qz (a := u1) (b := .int _ _) (c := u1) (d := .int _ _) Gj Z Z Z Z) (c4 _ _ _ ((Mono.mono exq h1)) ((Mono.mono exq h1))) ?_; rintro _ w11 ⟨rfl, E2⟩; have hs9 := E2.size; refine Wnx exq<|Wha [6]<|Wh1 Z<|Zr Z (Vx (a := .bool _) Jq Z) (yn _ _) ?_; rintro _ w12 ⟨rfl, E3⟩; have hs10 := E3.size; refine Wnx exq<|Wha [7]<|Wh1 Z<|Xj Z Ko Z Z Ke Ke (hB2.ext ((E1.trans E2).trans E3)) Ka (((Ew1.trans E1).trans E2).trans E3) ?_; rintro w13 E4 hB2 K4 hz4; have hO1 := (hO1.ext exq).wrote K4 Ka; have hQ1 := (hQ1.ext exq).wrote K4 Ka
        refine Wnx E4<|Uq 8 Z Z E4<|Yh Kb ?_; refine Zy ?_; rotate_left; refine Wh1 Z<|Yu u1 Kw (hB1.ext E1) Z<|Wnx exq<|Wha [2]<|Wh1 Z<|Yu u1 Kw (hB1.ext E1) Z<|Wnx exq<|Wha [5]<|Wh1 Z<|Zr Z (Qz (a := u1) (b := .int _ _) (c := u1) (d := .int _ _) Gj Z Z Z Z) (c4 _ _ _ ((Mono.mono exq h1)) ((Mono.mono exq h1))) ?_; rintro _ w11 ⟨rfl, E2⟩; have hs9 := E2.size; refine Wnx exq<|Wha [6]<|Wh1 Z<|Zr Z (Vx (a := .bool _) Jq Z) (yn _ _) ?_; rintro _ w12 ⟨rfl, E3⟩; have hs10 := E3.size; refine Wnx exq<|Wha [7]<|Wh1 Z<|Xj Z Ko Z Z Ke Ke (hB2.ext ((E1.trans E2).trans E3)) Ka (((Ew1.trans E1).trans E2).trans E3) ?_; rintro w13 E4 hB2 K4 hz4
        have hO1 := (hO1.ext exq).wrote K4 Ka; have hQ1 := (hQ1.ext exq).wrote K4 Ka; refine Wnx E4<|Uq 8 Z Z E4<|Yh Kb ?_; refine Zy ?_; rotate_left; refine Vu Z ?_ ?_; refine Yu u1 Kw (hB1.ext E1) Z<|Wnx exq<|Wha [0, 4]<|Vu Z ?_ ?_; refine Xc Ks Ko (hB3.ext E1) Z<|Wnx exq<|Wha [4]<|Wh1 Z<|Yu u1 Kw (hB1.ext E1) Z<|Wnx exq<|Wha [5]<|Wh1 Z<|Zr Z (Qz (a := u1) (b := .int _ _) (c := u1) (d := .int _ _) Gj Z Z Z Z) (c4 _ _ _ ((Mono.mono exq h1)) ((Mono.mono exq h1))) ?_; rintro _ w11 ⟨rfl, E2⟩; have hs9 := E2.size; refine Wnx exq<|Wha [6]<|Wh1 Z<|Zr Z (Vx (a := .bool _) Jq Z) (yn _ _) ?_; rintro _ w12 ⟨rfl, E3⟩; have hs10 := E3.size
        refine Wnx exq<|Wha [7]<|Wh1 Z<|Xj Z Ko Z Z Ke Ke (hB2.ext ((E1.trans E2).trans E3)) Ka (((Ew1.trans E1).trans E2).trans E3) ?_; rintro w13 E4 hB2 K4 hz4; have hO1 := (hO1.ext exq).wrote K4 Ka; have hQ1 := (hQ1.ext exq).wrote K4 Ka; refine Wnx E4<|Uq 8 Z Z E4<|Yh Kb ?_; refine Zy ?_; rotate_left; refine Wh1 Z<|Yu u1 Kw (hB1.ext E1) Z<|Wnx exq<|Wha [0, 5]<|Vu Z ?_ ?_; refine Xc Ks Ko (hB3.ext E1) Z<|Wnx exq<|Wha [5]<|Wh1 Z<|Zr Z (Qz (a := u1) (b := .int _ _) (c := u1) (d := .int _ _) Gj Z Z Z Z) (c4 _ _ _ ((Mono.mono exq h1)) ((Mono.mono exq h1))) ?_; rintro _ w11 ⟨rfl, E2⟩; have hs9 := E2.size
        refine Wnx exq<|Wha [6]<|Wh1 Z<|Zr Z (Vx (a := .bool _) Jq Z) (yn _ _) ?_; rintro _ w12 ⟨rfl, E3⟩; have hs10 := E3.size; refine Wnx exq<|Wha [7]<|Wh1 Z<|Xj Z Ko Z Z Ke Ke (hB2.ext ((E1.trans E2).trans E3)) Ka (((Ew1.trans E1).trans E2).trans E3) ?_; rintro w13 E4 hB2 K4 hz4; have hO1 := (hO1.ext exq).wrote K4 Ka; have hQ1 := (hQ1.ext exq).wrote K4 Ka; refine Wnx E4<|Uq 8 Z Z E4<|Yh Kb ?_; refine Zy ?_; rotate_left; refine Wh1 Z<|Zr Z (Qz (a := u1) (b := .int _ _) (c := u1) (d := .int _ _) Gj Z Z Z Z) (c4 _ _ _ ((Mono.mono exq h1)) ((Mono.mono exq h1))) ?_; rintro _ w11 ⟨rfl, E2⟩; have hs9 := E2.size; refine Wnx exq<|Wha [0, 6]<|Vu Z ?_ ?_
        refine Xc Ks Ko (hB3.ext exq) Z<|Wnx exq<|Wha [6]<|Wh1 Z<|Zr Z (Vx (a := .bool _) Jq Z) (yn _ _) ?_; rintro _ w12 ⟨rfl, E3⟩; have hs10 := E3.size; refine Wnx exq<|Wha [7]<|Wh1 Z<|Xj Z Ko Z Z Ke Ke (hB2.ext ((E1.trans E2).trans E3)) Ka (((Ew1.trans E1).trans E2).trans E3) ?_; rintro w13 E4 hB2 K4 hz4; have hO1 := (hO1.ext exq).wrote K4 Ka; have hQ1 := (hQ1.ext exq).wrote K4 Ka; refine Wnx E4<|Uq 8 Z Z E4<|Yh Kb ?_; refine Zy ?_; rotate_left; refine Wh1 Z<|Zr Z (Vx (a := .bool _) Jq Z) (yn _ _) ?_; rintro _ w12 ⟨rfl, E3⟩; have hs10 := E3.size
        refine Wnx exq<|Wha [0]<|Wh1 Z<|Xc Ks Ko (hB3.ext exq) Z<|Wnx exq<|Wha [7]<|Wh1 Z<|Xj Z Ko Z Z Ke Ke (hB2.ext ((E1.trans E2).trans E3)) Ka (((Ew1.trans E1).trans E2).trans E3) ?_; rintro w13 E4 hB2 K4 hz4; have hO1 := (hO1.ext exq).wrote K4 Ka; have hQ1 := (hQ1.ext exq).wrote K4 Ka; refine Wnx E4<|Uq 8 Z Z E4<|Yh Kb ?_; refine Zy ?_; rotate_left; refine Wh1 Z<|Yu u1 Kw (hB1.ext E1) Z<|Wnx exq<|Wha [0, 2]<|Vu Z ?_ ?_
        refine Xc Ks Ko (hB3.ext E1) Z<|Wnx exq<|Wha [2]<|Wh1 Z<|Yu u1 Kw (hB1.ext E1) Z<|Wnx exq<|Wha [5]<|Wh1 Z<|Zr Z (Qz (a := u1) (b := .int _ _) (c := u1) (d := .int _ _) Gj Z Z Z Z) (c4 _ _ _ ((Mono.mono exq h1)) ((Mono.mono exq h1))) ?_; rintro _ w11 ⟨rfl, E2⟩; have hs9 := E2.size; refine Wnx exq<|Wha [6]<|Wh1 Z<|Zr Z (Vx (a := .bool _) Jq Z) (yn _ _) ?_; rintro _ w12 ⟨rfl, E3⟩; have hs10 := E3.size; refine Wnx exq<|Wha [7]<|Wh1 Z<|Xj Z Ko Z Z Ke Ke (hB2.ext ((E1.trans E2).trans E3)) Ka (((Ew1.trans E1).trans E2).trans E3) ?_; rintro w13 E4 hB2 K4 hz4; have hO1 := (hO1.ext exq).wrote K4 Ka; have hQ1 := (hQ1.ext exq).wrote K4 Ka
        refine Wnx E4<|Uq 8 Z Z E4<|Yh Kb ?_; refine Zy ?_; rotate_left; refine Wh1 Z<|Yu u1 Kw (hB1.ext E1) Z<|Wnx exq<|Wha [0, 5]<|Vu Z ?_ ?_; refine Xc Ks Ko (hB3.ext E1) Z<|Wnx exq<|Wha [5]<|Wh1 Z<|Zr Z (Qz (a := u1) (b := .int _ _) (c := u1) (d := .int _ _) Gj Z Z Z Z) (c4 _ _ _ ((Mono.mono exq h1)) ((Mono.mono exq h1))) ?_; rintro _ w11 ⟨rfl, E2⟩; have hs9 := E2.size; refine Wnx exq<|Wha [6]<|Wh1 Z<|Zr Z (Vx (a := .bool _) Jq Z) (yn _ _) ?_; rintro _ w12 ⟨rfl, E3⟩; have hs10 := E3.size; refine Wnx exq<|Wha [7]<|Wh1 Z<|Xj Z Ko Z Z Ke Ke (hB2.ext ((E1.trans E2).trans E3)) Ka (((Ew1.trans E1).trans E2).trans E3) ?_; rintro w13 E4 hB2 K4 hz4
        have hO1 := (hO1.ext exq).wrote K4 Ka; have hQ1 := (hQ1.ext exq).wrote K4 Ka; refine Wnx E4<|Uq 8 Z Z E4<|Yh Kb ?_; refine Zy ?_; rotate_left; refine Wh1 Z<|Zr Z (Qz (a := u1) (b := .int _ _) (c := u1) (d := .int _ _) Gj Z Z Z Z) (c4 _ _ _ ((Mono.mono exq h1)) ((Mono.mono exq h1))) ?_; rintro _ w11 ⟨rfl, E2⟩; have hs9 := E2.size; refine Wnx exq<|Wha [0, 6]<|Vu Z ?_ ?_; refine Xc Ks Ko (hB3.ext exq) Z<|Wnx exq<|Wha [6]<|Wh1 Z<|Zr Z (Vx (a := .bool _) Jq Z) (yn _ _) ?_; rintro _ w12 ⟨rfl, E3⟩; have hs10 := E3.size; refine Wnx exq<|Wha [7]<|Wh1 Z<|Xj Z Ko Z Z Ke Ke (hB2.ext ((E1.trans E2).trans E3)) Ka (((Ew1.trans E1).trans E2).trans E3) ?_
        rintro w13 E4 hB2 K4 hz4; have hO1 := (hO1.ext exq).wrote K4 Ka; have hQ1 := (hQ1.ext exq).wrote K4 Ka; refine Wnx E4<|Uq 8 Z Z E4<|Yh Kb ?_; refine Zy ?_; rotate_left; refine Wh1 Z<|Zr Z (Vx (a := .bool _) Jq Z) (yn _ _) ?_; rintro _ w12 ⟨rfl, E3⟩; have hs10 := E3.size; refine Wnx exq<|Wha [0]<|Wh1 Z<|Xc Ks Ko (hB3.ext exq) Z<|Wnx exq<|Wha [7]<|Wh1 Z<|Xj Z Ko Z Z Ke Ke (hB2.ext ((E1.trans E2).trans E3)) Ka (((Ew1.trans E1).trans E2).trans E3) ?_; rintro w13 E4 hB2 K4 hz4; have hO1 := (hO1.ext exq).wrote K4 Ka; have hQ1 := (hQ1.ext exq).wrote K4 Ka; refine Wnx E4<|Uq 8 Z Z E4<|Yh Kb ?_; refine Zy ?_; rotate_left; contradiction
      all_goals exact ⟨b2, u3, q1, rfl, hB2, u3, q1, rfl, by repeat (first | assumption | refine Ext.trans Kd ?_), hO1.rd.wide Ka Ka, hQ1.rd.wide Ka Ka, icu3, icq1⟩
    by_cases g5 : s = [100, 101, 101, 112]
    · have ea : askV d.now s = if 0 ≤ deepAtV d.now 0 then decDigits (deepAtV d.now 0).toNat else [110, 111, 110, 101] := by
        unfold askV; rw [if_neg g1, if_neg g2, if_neg g3, if_neg g4, if_pos g5]
      rw [ea]
      rcases deepAtV_nat hp 0 with ⟨c, hc, e⟩ | e
      · rw [e] at c5 ⊢
        rw [if_pos Ka]
        have cC := fun w => cI w c Ka
        focus
          refine Vf<|Vo Z<|Zn<|Zw<|Zp<|Wo Z (Vc Z Z)<|Zz Z<|Zn<|Vj Z fun h4 => ?_; refine Zp<|Wo Z (Vc Z Z)<|Zz Z<|Zn<|Vj Z fun h5 => ?_; refine Zp<|Wo Z (Vc Z Z)<|Zz Z<|Zn<|Vj Z fun h6 => ?_; refine Zp<|Wo Z (Vc Z Z)<|Zz Z<|Zn<|Vj Z fun h7 => ?_; refine Zp<|Wo Z (Vc Z Z)<|Zz Z<|Zn<|Zs Z (fun h8 => ?_) (fun h8 => ?_); refine Zq<|Zp<|Vn Ky Ja Z<|Yu u1 Kw hB1 Z<|Zr Z (Yg (a := u1) (b := .int _ _) Zd Z Z) (c5 _ _ ((Mono.mono Ew1 h1))) ?_; rintro _ w10 ⟨rfl, E1⟩; have hs8 := E1.size; refine Vi Z<|Zn<|Vj Z fun h9 => ?_
          refine Zv<|Zq<|Rb (fun w' => Ext w w') Xr Z Kb ?_; intro w11 E2 K3 hz3; refine St 1 Ky Ja Z Z exq<|Wha [0, 2]<|Vu Z ?_ ?_; refine Xc Ks Ko (hB3.ext exq) Z<|Wnx exq<|Wha [2]<|Wh1 Z<|Yu u1 Kw (hB1.ext exq) Z<|Wnx exq<|Wha [3]<|Wh1 Z<|Zr Z (Yg (a := u1) (b := .int _ _) Zd Z Z) (c5 _ _ ((Mono.mono exq h1))) ?_; rintro _ w12 ⟨rfl, E3⟩; have hs10 := E3.size; refine Wnx exq<|Wha [4]<|Wh1 Z<|Zr Z (Vx (a := .int _ _) Jo Z) (cC _) ?_; rintro _ w13 ⟨rfl, E4⟩; have hs11 := E4.size
          refine Wnx exq<|Wha [5]<|Wh1 Z<|Xj Z Ko Z Z Ke Ke (hB2.ext (((E1.trans E2).trans E3).trans E4)) Ka ((((Ew1.trans E1).trans E2).trans E3).trans E4) ?_; rintro w14 E5 hB2 K4 hz4; have hO1 := (hO1.ext exq).wrote K4 Ka; have hQ1 := (hQ1.ext exq).wrote K4 Ka; refine Wnx E5<|Uq 6 Z Z E5<|Yh Kb ?_; refine Zy ?_; rotate_left; refine Wh1 Z<|Yu u1 Kw (hB1.ext exq) Z<|Wnx exq<|Wha [0, 3]<|Vu Z ?_ ?_; refine Xc Ks Ko (hB3.ext exq) Z<|Wnx exq<|Wha [3]<|Wh1 Z<|Zr Z (Yg (a := u1) (b := .int _ _) Zd Z Z) (c5 _ _ ((Mono.mono exq h1))) ?_; rintro _ w12 ⟨rfl, E3⟩; have hs10 := E3.size
          refine Wnx exq<|Wha [4]<|Wh1 Z<|Zr Z (Vx (a := .int _ _) Jo Z) (cC _) ?_; rintro _ w13 ⟨rfl, E4⟩; have hs11 := E4.size; refine Wnx exq<|Wha [5]<|Wh1 Z<|Xj Z Ko Z Z Ke Ke (hB2.ext (((E1.trans E2).trans E3).trans E4)) Ka ((((Ew1.trans E1).trans E2).trans E3).trans E4) ?_; rintro w14 E5 hB2 K4 hz4; have hO1 := (hO1.ext exq).wrote K4 Ka; have hQ1 := (hQ1.ext exq).wrote K4 Ka; refine Wnx E5<|Uq 6 Z Z E5<|Yh Kb ?_; refine Zy ?_; rotate_left; refine Wh1 Z<|Zr Z (Yg (a := u1) (b := .int _ _) Zd Z Z) (c5 _ _ ((Mono.mono exq h1))) ?_; rintro _ w12 ⟨rfl, E3⟩; have hs10 := E3.size; refine Wnx exq<|Wha [0, 4]<|Vu Z ?_ ?_
          refine Xc Ks Ko (hB3.ext exq) Z<|Wnx exq<|Wha [4]<|Wh1 Z<|Zr Z (Vx (a := .int _ _) Jo Z) (cC _) ?_; rintro _ w13 ⟨rfl, E4⟩; have hs11 := E4.size; refine Wnx exq<|Wha [5]<|Wh1 Z<|Xj Z Ko Z Z Ke Ke (hB2.ext (((E1.trans E2).trans E3).trans E4)) Ka ((((Ew1.trans E1).trans E2).trans E3).trans E4) ?_; rintro w14 E5 hB2 K4 hz4; have hO1 := (hO1.ext exq).wrote K4 Ka; have hQ1 := (hQ1.ext exq).wrote K4 Ka; refine Wnx E5<|Uq 6 Z Z E5<|Yh Kb ?_; refine Zy ?_; rotate_left; refine Wh1 Z<|Zr Z (Vx (a := .int _ _) Jo Z) (cC _) ?_; rintro _ w13 ⟨rfl, E4⟩; have hs11 := E4.size
          refine Wnx exq<|Wha [0]<|Wh1 Z<|Xc Ks Ko (hB3.ext exq) Z<|Wnx exq<|Wha [5]<|Wh1 Z<|Xj Z Ko Z Z Ke Ke (hB2.ext (((E1.trans E2).trans E3).trans E4)) Ka ((((Ew1.trans E1).trans E2).trans E3).trans E4) ?_; rintro w14 E5 hB2 K4 hz4; have hO1 := (hO1.ext exq).wrote K4 Ka; have hQ1 := (hQ1.ext exq).wrote K4 Ka; refine Wnx E5<|Uq 6 Z Z E5<|Yh Kb ?_; refine Zy ?_; rotate_left; contradiction
        all_goals exact ⟨b2, u3, q1, rfl, hB2, u3, q1, rfl, by repeat (first | assumption | refine Ext.trans Kd ?_), hO1.rd.wide Ka Ka, hQ1.rd.wide Ka Ka, icu3, icq1⟩
      · rw [e] at c5 ⊢
        rw [if_neg Ka]
        focus
          refine Vf<|Vo Z<|Zn<|Zw<|Zp<|Wo Z (Vc Z Z)<|Zz Z<|Zn<|Vj Z fun h4 => ?_; refine Zp<|Wo Z (Vc Z Z)<|Zz Z<|Zn<|Vj Z fun h5 => ?_; refine Zp<|Wo Z (Vc Z Z)<|Zz Z<|Zn<|Vj Z fun h6 => ?_; refine Zp<|Wo Z (Vc Z Z)<|Zz Z<|Zn<|Vj Z fun h7 => ?_; refine Zp<|Wo Z (Vc Z Z)<|Zz Z<|Zn<|Zs Z (fun h8 => ?_) (fun h8 => ?_); refine Zq<|Zp<|Vn Ky Ja Z<|Yu u1 Kw hB1 Z<|Zr Z (Yg (a := u1) (b := .int _ _) Zd Z Z) (c5 _ _ ((Mono.mono Ew1 h1))) ?_; rintro _ w10 ⟨rfl, E1⟩; have hs8 := E1.size; refine Vi Z<|Zn<|Zs Z (fun h9 => ?_) (fun h9 => ?_)
          refine Zp<|Xc Ks Ko (hB3.ext E1) Z<|Ui Ko (hB2.ext E1) Z (Ew1.trans E1) ?_; rintro w11 E2 hB2 K3 hz3; have hO1 := (hO1.ext E1).wrote K3 Ka; have hQ1 := (hQ1.ext E1).wrote K3 Ka; refine Yj Z<|Zn<|Zy ?_; rotate_left; contradiction; contradiction
        all_goals exact ⟨b2, u3, q1, rfl, hB2, u3, q1, rfl, by repeat (first | assumption | refine Ext.trans Kd ?_), hO1.rd.wide Ka Ka, hQ1.rd.wide Ka Ka, icu3, icq1⟩
    by_cases g6 : s = [102, 111, 117, 110, 100, 101, 100]
    · have ea : askV d.now s = decDigits (faV d.now).length := by unfold askV; rw [if_neg g1, if_neg g2, if_neg g3, if_neg g4, if_neg g5, if_pos g6]
      rw [ea]
      focus
        refine Vf<|Vo Z<|Zn<|Zw<|Zp<|Wo Z (Vc Z Z)<|Zz Z<|Zn<|Vj Z fun h4 => ?_; refine Zp<|Wo Z (Vc Z Z)<|Zz Z<|Zn<|Vj Z fun h5 => ?_; refine Zp<|Wo Z (Vc Z Z)<|Zz Z<|Zn<|Vj Z fun h6 => ?_; refine Zp<|Wo Z (Vc Z Z)<|Zz Z<|Zn<|Vj Z fun h7 => ?_; refine Zp<|Wo Z (Vc Z Z)<|Zz Z<|Zn<|Vj Z fun h8 => ?_; refine Zp<|Wo Z (Vc Z Z)<|Zz Z<|Zn<|Zs Z (fun h9 => ?_) (fun h9 => ?_); refine Zq<|Rb (fun w' => Ext w w') Xr Z Kb ?_; intro w10 E1 K3 hz3; refine St 1 Ky Ja Z Z exq<|Wha [0, 2]<|Vu Z ?_ ?_
        refine Xc Ks Ko (hB3.ext E1) Z<|Wnx exq<|Wha [2]<|Wh1 Z<|Yu u1 Kw (hB1.ext E1) Z<|Wnx exq<|Wha [3]<|Wh1 Z<|Zr Z (Vx (a := u1) Tryz.call69 Z) (c6 _ _ ((Mono.mono exq h1))) ?_; rintro u4 w11 ⟨E2, hO2⟩; have hs9 := E2.size; refine Wnx exq<|Yo 4 Z Kb Kb Z (fun _ _ => Rx Kn Z (Owned.read hO2)) exq ?_; refine Wha [5]<|Wh1 Z<|Zr Z (Vx (a := .int _ _) Jo Z) (cF _) ?_; rintro _ w12 ⟨rfl, E3⟩; have hs10 := E3.size; refine Wnx exq<|Wha [6]<|Wh1 Z<|Xj Z Ko Z Z Ke Ke (hB2.ext ((E1.trans E2).trans E3)) Ka (((Ew1.trans E1).trans E2).trans E3) ?_; rintro w13 E4 hB2 K4 hz4; have hO1 := (hO1.ext exq).wrote K4 Ka
        have hQ1 := (hQ1.ext exq).wrote K4 Ka; refine Wnx E4<|Uq 7 Z Z E4<|Yh Kb ?_; refine Zy ?_; rotate_left; refine Wh1 Z<|Yu u1 Kw (hB1.ext E1) Z<|Wnx exq<|Wha [0, 3]<|Vu Z ?_ ?_; refine Xc Ks Ko (hB3.ext E1) Z<|Wnx exq<|Wha [3]<|Wh1 Z<|Zr Z (Vx (a := u1) Tryz.call69 Z) (c6 _ _ ((Mono.mono exq h1))) ?_; rintro u4 w11 ⟨E2, hO2⟩; have hs9 := E2.size; refine Wnx exq<|Yo 4 Z Kb Kb Z (fun _ _ => Rx Kn Z (Owned.read hO2)) exq ?_; refine Wha [5]<|Wh1 Z<|Zr Z (Vx (a := .int _ _) Jo Z) (cF _) ?_; rintro _ w12 ⟨rfl, E3⟩; have hs10 := E3.size
        refine Wnx exq<|Wha [6]<|Wh1 Z<|Xj Z Ko Z Z Ke Ke (hB2.ext ((E1.trans E2).trans E3)) Ka (((Ew1.trans E1).trans E2).trans E3) ?_; rintro w13 E4 hB2 K4 hz4; have hO1 := (hO1.ext exq).wrote K4 Ka; have hQ1 := (hQ1.ext exq).wrote K4 Ka; refine Wnx E4<|Uq 7 Z Z E4<|Yh Kb ?_; refine Zy ?_; rotate_left; refine Wh1 Z<|Zr Z (Vx (a := u1) Tryz.call69 Z) (c6 _ _ ((Mono.mono exq h1))) ?_; rintro u4 w11 ⟨E2, hO2⟩; have hs9 := E2.size; refine Wnx exq<|Yo 4 Z Kb Kb Z (fun _ _ => Rx Kn Z (Owned.read hO2)) exq ?_; refine Wha [0, 5]<|Vu Z ?_ ?_
        refine Xc Ks Ko (hB3.ext exq) Z<|Wnx exq<|Wha [5]<|Wh1 Z<|Zr Z (Vx (a := .int _ _) Jo Z) (cF _) ?_; rintro _ w12 ⟨rfl, E3⟩; have hs10 := E3.size; refine Wnx exq<|Wha [6]<|Wh1 Z<|Xj Z Ko Z Z Ke Ke (hB2.ext ((E1.trans E2).trans E3)) Ka (((Ew1.trans E1).trans E2).trans E3) ?_; rintro w13 E4 hB2 K4 hz4; have hO1 := (hO1.ext exq).wrote K4 Ka; have hQ1 := (hQ1.ext exq).wrote K4 Ka; refine Wnx E4<|Uq 7 Z Z E4<|Yh Kb ?_; refine Zy ?_; rotate_left; refine Wh1 Z<|Zr Z (Vx (a := .int _ _) Jo Z) (cF _) ?_; rintro _ w12 ⟨rfl, E3⟩; have hs10 := E3.size
        refine Wnx exq<|Wha [0]<|Wh1 Z<|Xc Ks Ko (hB3.ext exq) Z<|Wnx exq<|Wha [6]<|Wh1 Z<|Xj Z Ko Z Z Ke Ke (hB2.ext ((E1.trans E2).trans E3)) Ka (((Ew1.trans E1).trans E2).trans E3) ?_; rintro w13 E4 hB2 K4 hz4; have hO1 := (hO1.ext exq).wrote K4 Ka; have hQ1 := (hQ1.ext exq).wrote K4 Ka; refine Wnx E4<|Uq 7 Z Z E4<|Yh Kb ?_; refine Zy ?_; rotate_left; contradiction
      all_goals exact ⟨b2, u3, q1, rfl, hB2, u3, q1, rfl, by repeat (first | assumption | refine Ext.trans Kd ?_), hO1.rd.wide Ka Ka, hQ1.rd.wide Ka Ka, icu3, icq1⟩
    have ea : askV d.now s = if (cutF 32 s).2.2 then ask2 d.now (cutF 32 s).1 (cutF 32 s).2.1 else [119, 104, 97, 116] := by
      unfold askV; rw [if_neg g1, if_neg g2, if_neg g3, if_neg g4, if_neg g5, if_neg g6]
    rw [ea]
    rcases ask_words d.now s with ⟨ps, e1, e2, e3⟩ | ⟨a, r, e1, e2, e3⟩
    · rw [e1] at c7
      rw [e3]
      focus
        refine Vf<|Vo Z<|Zn<|Zw<|Zp<|Wo Z (Vc Z Z)<|Zz Z<|Zn<|Vj Z fun h4 => ?_; refine Zp<|Wo Z (Vc Z Z)<|Zz Z<|Zn<|Vj Z fun h5 => ?_; refine Zp<|Wo Z (Vc Z Z)<|Zz Z<|Zn<|Vj Z fun h6 => ?_; refine Zp<|Wo Z (Vc Z Z)<|Zz Z<|Zn<|Vj Z fun h7 => ?_; refine Zp<|Wo Z (Vc Z Z)<|Zz Z<|Zn<|Vj Z fun h8 => ?_; refine Zp<|Wo Z (Vc Z Z)<|Zz Z<|Zn<|Vj Z fun h9 => ?_; refine Zv<|Zp<|Vo Z<|Zr Z (Yg (a := .string _) (b := .int _ _) Tryz.call70 Z Z) (c7 _) ?_; rintro u4 w10 ⟨E1, hO2⟩; have hs8 := E1.size
        refine Yr u4 Z<|Zn<|Zq<|Zp<|Vb u4 Z<|Vk Jd Z (Owned.read hO2)<|Vm Z<|Zn<|Zt Z fun h10 => ?_; refine Zv<|Zp<|Xc Ks Ko (hB3.ext E1) Z<|Ui Ko (hB2.ext E1) Z (Ew1.trans E1) ?_; rintro w11 E2 hB2 K3 hz3; have hO1 := (hO1.ext E1).wrote K3 Ka; have hQ1 := (hQ1.ext E1).wrote K3 Ka; refine Yj Z<|Zn<|Zy ?_
      all_goals exact ⟨b2, u3, q1, rfl, hB2, u3, q1, rfl, by repeat (first | assumption | refine Ext.trans Kd ?_), hO1.rd.wide Ka Ka, hQ1.rd.wide Ka Ka, icu3, icq1⟩
    · rw [e1] at c7
      rw [e3]
      have c8 : ∀ (w : World) (v : Value), ESl Ints w v d.now → Does Tryz.prog 71 [v, str a, str r] w (Ret w (str (ask2 d.now a r))) := fun w v h => l11Ask_ok w v d.now h hp a r Ka
      have stop30 : True := trivial
      focus
        have szEw1 := Ew1.size; refine Vf<|Vo Z<|Zn<|Zw<|Zp<|Wo Z (Vc Z Z)<|Zz Z<|Zn<|Vj Z fun h4 => ?_; refine Zp<|Wo Z (Vc Z Z)<|Zz Z<|Zn<|Vj Z fun h5 => ?_; refine Zp<|Wo Z (Vc Z Z)<|Zz Z<|Zn<|Vj Z fun h6 => ?_; refine Zp<|Wo Z (Vc Z Z)<|Zz Z<|Zn<|Vj Z fun h7 => ?_; refine Zp<|Wo Z (Vc Z Z)<|Zz Z<|Zn<|Vj Z fun h8 => ?_; refine Zp<|Wo Z (Vc Z Z)<|Zz Z<|Zn<|Vj Z fun h9 => ?_; refine Zv<|Zp<|Vo Z<|Zr Z (Yg (a := .string _) (b := .int _ _) Tryz.call70 Z Z) (c7 _) ?_; rintro u4 w10 ⟨E1, hO2⟩; have ichO2 := OwnedB.isC (Owned.toB hO2); have hs8 := E1.size
        refine Yr u4 Z<|Zn<|Zq<|Zp<|Vb u4 Z<|Vk Jd Z (Owned.read hO2)<|Vm Z<|Zn<|Zs Z (fun h10 => ?_) (fun h10 => ?_); refine Zq ?_; rotate_left; contradiction
      clear stop30
      obtain ⟨wb, wc, rfl, _⟩ := hO2.lit Ki
      focus
        have hB3 := (hB3.ext E1); have hB1 := (hB1.ext E1); have hB2 := (hB2.ext E1); have hO1 := (hO1.ext E1); have hQ1 := (hQ1.ext E1); have hO2 := hO2.toB; have Ew2 := (Ew1.trans E1); clear Ew1; clear szEw1; clear E1
      have heldS : w = w := rfl
      focus
        refine Rb (fun w' => Ext w w') Xr Z Kb ?_; intro w11 E1 K3 hz3; refine St 1 Ky Ja Z Z exq<|WtmS 3 Z Z exq<|Yo 4 Z Kb Kb Z (fun _ _ => Yv (k := 0) Jd Ku Z Z Ka) exq ?_; refine WtmS 6 Z Z exq<|Yo 7 Z Kb Kb Z (fun _ _ => Yv (k := 1) Jd Ku Z Z Ka) exq ?_; refine Wha [0, 2, 5, 8]<|Vu Z ?_ ?_; refine Xc Ks Ko (hB3.ext E1) Z<|Wnx exq<|Wha [2, 5, 8]<|Vu Z ?_ ?_; refine Yu u1 Kw (hB1.ext E1) Z<|Wnx exq<|Wha [5, 8]<|Vu Z ?_ ?_; refine Uc Kv Z Z (Mono.mono E1 (OwnedB.read hO2)) Kf ?_; rintro _ ⟨rfl, -⟩
        refine Wnx exq<|Wha [8]<|Wh1 Z<|Uc Kv Z Z (Mono.mono E1 (OwnedB.read hO2)) Kf ?_; rintro _ ⟨rfl, -⟩; refine Wnx exq<|Wha [9]<|Wh1 Z<|Zr Z (Ud (a := u1) (b := .string _) (c := .string _) Jh Z Z Z) (c8 _ _ ((Mono.mono exq h1))) ?_; rintro _ w12 ⟨rfl, E2⟩; have hs10 := E2.size; refine Wnx exq<|Wha [10]<|Wh1 Z<|Ui Ko (hB2.ext (E1.trans E2)) Z ((Ew2.trans E1).trans E2) ?_; rintro w13 E3 hB2 K4 hz4; have hO1 := (hO1.ext exq).wrote K4 Ka; have hQ1 := (hQ1.ext exq).wrote K4 Ka; refine Wnx E3<|Uq 11 Z Z E3<|Yh Kb ?_; refine Zy ?_; rotate_left; refine Wh1 Z<|Uc Kv Z Z (Mono.mono E1 (OwnedB.read hO2)) Kf ?_; rintro _ ⟨rfl, -⟩
        refine Wnx exq<|Wha [5]<|Wh1 Z<|Uc Kv Z Z (Mono.mono E1 (OwnedB.read hO2)) Kf ?_; rintro _ ⟨rfl, -⟩; refine Wnx exq<|Wha [9]<|Wh1 Z<|Zr Z (Ud (a := u1) (b := .string _) (c := .string _) Jh Z Z Z) (c8 _ _ ((Mono.mono exq h1))) ?_; rintro _ w12 ⟨rfl, E2⟩; have hs10 := E2.size; refine Wnx exq<|Wha [10]<|Wh1 Z<|Ui Ko (hB2.ext (E1.trans E2)) Z ((Ew2.trans E1).trans E2) ?_; rintro w13 E3 hB2 K4 hz4; have hO1 := (hO1.ext exq).wrote K4 Ka; have hQ1 := (hQ1.ext exq).wrote K4 Ka; refine Wnx E3<|Uq 11 Z Z E3<|Yh Kb ?_; refine Zy ?_; rotate_left; refine Vu Z ?_ ?_; refine Uc Kv Z Z (Mono.mono E1 (OwnedB.read hO2)) Kf ?_; rintro _ ⟨rfl, -⟩
        refine Wnx exq<|Wha [2, 8]<|Vu Z ?_ ?_; refine Yu u1 Kw (hB1.ext E1) Z<|Wnx exq<|Wha [8]<|Wh1 Z<|Uc Kv Z Z (Mono.mono E1 (OwnedB.read hO2)) Kf ?_; rintro _ ⟨rfl, -⟩; refine Wnx exq<|Wha [9]<|Wh1 Z<|Zr Z (Ud (a := u1) (b := .string _) (c := .string _) Jh Z Z Z) (c8 _ _ ((Mono.mono exq h1))) ?_; rintro _ w12 ⟨rfl, E2⟩; have hs10 := E2.size; refine Wnx exq<|Wha [10]<|Wh1 Z<|Ui Ko (hB2.ext (E1.trans E2)) Z ((Ew2.trans E1).trans E2) ?_; rintro w13 E3 hB2 K4 hz4; have hO1 := (hO1.ext exq).wrote K4 Ka; have hQ1 := (hQ1.ext exq).wrote K4 Ka; refine Wnx E3<|Uq 11 Z Z E3<|Yh Kb ?_; refine Zy ?_; rotate_left
        refine Wh1 Z<|Uc Kv Z Z (Mono.mono E1 (OwnedB.read hO2)) Kf ?_; rintro _ ⟨rfl, -⟩; refine Wnx exq<|Wha [2]<|Wh1 Z<|Yu u1 Kw (hB1.ext E1) Z<|Wnx exq<|Wha [9]<|Wh1 Z<|Zr Z (Ud (a := u1) (b := .string _) (c := .string _) Jh Z Z Z) (c8 _ _ ((Mono.mono exq h1))) ?_; rintro _ w12 ⟨rfl, E2⟩; have hs10 := E2.size; refine Wnx exq<|Wha [10]<|Wh1 Z<|Ui Ko (hB2.ext (E1.trans E2)) Z ((Ew2.trans E1).trans E2) ?_; rintro w13 E3 hB2 K4 hz4; have hO1 := (hO1.ext exq).wrote K4 Ka; have hQ1 := (hQ1.ext exq).wrote K4 Ka; refine Wnx E3<|Uq 11 Z Z E3<|Yh Kb ?_; refine Zy ?_; rotate_left; refine Wh1 Z<|Uc Kv Z Z (Mono.mono E1 (OwnedB.read hO2)) Kf ?_; rintro _ ⟨rfl, -⟩
        refine Wnx exq<|Wha [2, 5]<|Vu Z ?_ ?_; refine Yu u1 Kw (hB1.ext E1) Z<|Wnx exq<|Wha [5]<|Wh1 Z<|Uc Kv Z Z (Mono.mono E1 (OwnedB.read hO2)) Kf ?_; rintro _ ⟨rfl, -⟩; refine Wnx exq<|Wha [9]<|Wh1 Z<|Zr Z (Ud (a := u1) (b := .string _) (c := .string _) Jh Z Z Z) (c8 _ _ ((Mono.mono exq h1))) ?_; rintro _ w12 ⟨rfl, E2⟩; have hs10 := E2.size; refine Wnx exq<|Wha [10]<|Wh1 Z<|Ui Ko (hB2.ext (E1.trans E2)) Z ((Ew2.trans E1).trans E2) ?_; rintro w13 E3 hB2 K4 hz4; have hO1 := (hO1.ext exq).wrote K4 Ka; have hQ1 := (hQ1.ext exq).wrote K4 Ka; refine Wnx E3<|Uq 11 Z Z E3<|Yh Kb ?_; refine Zy ?_; rotate_left
        refine Wh1 Z<|Uc Kv Z Z (Mono.mono E1 (OwnedB.read hO2)) Kf ?_; rintro _ ⟨rfl, -⟩; refine Wnx exq<|Wha [2]<|Wh1 Z<|Yu u1 Kw (hB1.ext E1) Z<|Wnx exq<|Wha [9]<|Wh1 Z<|Zr Z (Ud (a := u1) (b := .string _) (c := .string _) Jh Z Z Z) (c8 _ _ ((Mono.mono exq h1))) ?_; rintro _ w12 ⟨rfl, E2⟩; have hs10 := E2.size; refine Wnx exq<|Wha [10]<|Wh1 Z<|Ui Ko (hB2.ext (E1.trans E2)) Z ((Ew2.trans E1).trans E2) ?_; rintro w13 E3 hB2 K4 hz4; have hO1 := (hO1.ext exq).wrote K4 Ka; have hQ1 := (hQ1.ext exq).wrote K4 Ka; refine Wnx E3<|Uq 11 Z Z E3<|Yh Kb ?_; refine Zy ?_; rotate_left; refine Vu Z ?_ ?_; refine Yu u1 Kw (hB1.ext E1) Z<|Wnx exq<|Wha [0, 5, 8]<|Vu Z ?_ ?_
        refine Xc Ks Ko (hB3.ext E1) Z<|Wnx exq<|Wha [5, 8]<|Vu Z ?_ ?_; refine Uc Kv Z Z (Mono.mono E1 (OwnedB.read hO2)) Kf ?_; rintro _ ⟨rfl, -⟩; refine Wnx exq<|Wha [8]<|Wh1 Z<|Uc Kv Z Z (Mono.mono E1 (OwnedB.read hO2)) Kf ?_; rintro _ ⟨rfl, -⟩; refine Wnx exq<|Wha [9]<|Wh1 Z<|Zr Z (Ud (a := u1) (b := .string _) (c := .string _) Jh Z Z Z) (c8 _ _ ((Mono.mono exq h1))) ?_; rintro _ w12 ⟨rfl, E2⟩; have hs10 := E2.size; refine Wnx exq<|Wha [10]<|Wh1 Z<|Ui Ko (hB2.ext (E1.trans E2)) Z ((Ew2.trans E1).trans E2) ?_; rintro w13 E3 hB2 K4 hz4; have hO1 := (hO1.ext exq).wrote K4 Ka; have hQ1 := (hQ1.ext exq).wrote K4 Ka
        refine Wnx E3<|Uq 11 Z Z E3<|Yh Kb ?_; refine Zy ?_; rotate_left; refine Wh1 Z<|Uc Kv Z Z (Mono.mono E1 (OwnedB.read hO2)) Kf ?_; rintro _ ⟨rfl, -⟩; refine Wnx exq<|Wha [5]<|Wh1 Z<|Uc Kv Z Z (Mono.mono E1 (OwnedB.read hO2)) Kf ?_; rintro _ ⟨rfl, -⟩; refine Wnx exq<|Wha [9]<|Wh1 Z<|Zr Z (Ud (a := u1) (b := .string _) (c := .string _) Jh Z Z Z) (c8 _ _ ((Mono.mono exq h1))) ?_; rintro _ w12 ⟨rfl, E2⟩; have hs10 := E2.size; refine Wnx exq<|Wha [10]<|Wh1 Z<|Ui Ko (hB2.ext (E1.trans E2)) Z ((Ew2.trans E1).trans E2) ?_; rintro w13 E3 hB2 K4 hz4; have hO1 := (hO1.ext exq).wrote K4 Ka; have hQ1 := (hQ1.ext exq).wrote K4 Ka
        refine Wnx E3<|Uq 11 Z Z E3<|Yh Kb ?_; refine Zy ?_; rotate_left; refine Vu Z ?_ ?_; refine Uc Kv Z Z (Mono.mono E1 (OwnedB.read hO2)) Kf ?_; rintro _ ⟨rfl, -⟩; refine Wnx exq<|Wha [0, 8]<|Vu Z ?_ ?_; refine Xc Ks Ko (hB3.ext E1) Z<|Wnx exq<|Wha [8]<|Wh1 Z<|Uc Kv Z Z (Mono.mono E1 (OwnedB.read hO2)) Kf ?_; rintro _ ⟨rfl, -⟩; refine Wnx exq<|Wha [9]<|Wh1 Z<|Zr Z (Ud (a := u1) (b := .string _) (c := .string _) Jh Z Z Z) (c8 _ _ ((Mono.mono exq h1))) ?_; rintro _ w12 ⟨rfl, E2⟩; have hs10 := E2.size; refine Wnx exq<|Wha [10]<|Wh1 Z<|Ui Ko (hB2.ext (E1.trans E2)) Z ((Ew2.trans E1).trans E2) ?_; rintro w13 E3 hB2 K4 hz4
        have hO1 := (hO1.ext exq).wrote K4 Ka; have hQ1 := (hQ1.ext exq).wrote K4 Ka; refine Wnx E3<|Uq 11 Z Z E3<|Yh Kb ?_; refine Zy ?_; rotate_left; refine Wh1 Z<|Uc Kv Z Z (Mono.mono E1 (OwnedB.read hO2)) Kf ?_; rintro _ ⟨rfl, -⟩; refine Wnx exq<|Wha [0, 9]<|Vu Z ?_ ?_; refine Xc Ks Ko (hB3.ext E1) Z<|Wnx exq<|Wha [9]<|Wh1 Z<|Zr Z (Ud (a := u1) (b := .string _) (c := .string _) Jh Z Z Z) (c8 _ _ ((Mono.mono exq h1))) ?_; rintro _ w12 ⟨rfl, E2⟩; have hs10 := E2.size; refine Wnx exq<|Wha [10]<|Wh1 Z<|Ui Ko (hB2.ext (E1.trans E2)) Z ((Ew2.trans E1).trans E2) ?_; rintro w13 E3 hB2 K4 hz4; have hO1 := (hO1.ext exq).wrote K4 Ka; have hQ1 := (hQ1.ext exq).wrote K4 Ka
        refine Wnx E3<|Uq 11 Z Z E3<|Yh Kb ?_; refine Zy ?_; rotate_left; refine Wh1 Z<|Zr Z (Ud (a := u1) (b := .string _) (c := .string _) Jh Z Z Z) (c8 _ _ ((Mono.mono exq h1))) ?_; rintro _ w12 ⟨rfl, E2⟩; have hs10 := E2.size; refine Wnx exq<|Wha [0]<|Wh1 Z<|Xc Ks Ko (hB3.ext exq) Z<|Wnx exq<|Wha [10]<|Wh1 Z<|Ui Ko (hB2.ext (E1.trans E2)) Z ((Ew2.trans E1).trans E2) ?_; rintro w13 E3 hB2 K4 hz4; have hO1 := (hO1.ext exq).wrote K4 Ka; have hQ1 := (hQ1.ext exq).wrote K4 Ka; refine Wnx E3<|Uq 11 Z Z E3<|Yh Kb ?_; refine Zy ?_; rotate_left; refine Wh1 Z<|Uc Kv Z Z (Mono.mono E1 (OwnedB.read hO2)) Kf ?_; rintro _ ⟨rfl, -⟩; refine Wnx exq<|Wha [0, 5]<|Vu Z ?_ ?_
        refine Xc Ks Ko (hB3.ext E1) Z<|Wnx exq<|Wha [5]<|Wh1 Z<|Uc Kv Z Z (Mono.mono E1 (OwnedB.read hO2)) Kf ?_; rintro _ ⟨rfl, -⟩; refine Wnx exq<|Wha [9]<|Wh1 Z<|Zr Z (Ud (a := u1) (b := .string _) (c := .string _) Jh Z Z Z) (c8 _ _ ((Mono.mono exq h1))) ?_; rintro _ w12 ⟨rfl, E2⟩; have hs10 := E2.size; refine Wnx exq<|Wha [10]<|Wh1 Z<|Ui Ko (hB2.ext (E1.trans E2)) Z ((Ew2.trans E1).trans E2) ?_; rintro w13 E3 hB2 K4 hz4; have hO1 := (hO1.ext exq).wrote K4 Ka; have hQ1 := (hQ1.ext exq).wrote K4 Ka; refine Wnx E3<|Uq 11 Z Z E3<|Yh Kb ?_; refine Zy ?_; rotate_left; refine Wh1 Z<|Uc Kv Z Z (Mono.mono E1 (OwnedB.read hO2)) Kf ?_; rintro _ ⟨rfl, -⟩
        refine Wnx exq<|Wha [0, 9]<|Vu Z ?_ ?_; refine Xc Ks Ko (hB3.ext E1) Z<|Wnx exq<|Wha [9]<|Wh1 Z<|Zr Z (Ud (a := u1) (b := .string _) (c := .string _) Jh Z Z Z) (c8 _ _ ((Mono.mono exq h1))) ?_; rintro _ w12 ⟨rfl, E2⟩; have hs10 := E2.size; refine Wnx exq<|Wha [10]<|Wh1 Z<|Ui Ko (hB2.ext (E1.trans E2)) Z ((Ew2.trans E1).trans E2) ?_; rintro w13 E3 hB2 K4 hz4; have hO1 := (hO1.ext exq).wrote K4 Ka; have hQ1 := (hQ1.ext exq).wrote K4 Ka; refine Wnx E3<|Uq 11 Z Z E3<|Yh Kb ?_; refine Zy ?_; rotate_left; refine Wh1 Z<|Zr Z (Ud (a := u1) (b := .string _) (c := .string _) Jh Z Z Z) (c8 _ _ ((Mono.mono exq h1))) ?_; rintro _ w12 ⟨rfl, E2⟩; have hs10 := E2.size
        refine Wnx exq<|Wha [0]<|Wh1 Z<|Xc Ks Ko (hB3.ext exq) Z<|Wnx exq<|Wha [10]<|Wh1 Z<|Ui Ko (hB2.ext (E1.trans E2)) Z ((Ew2.trans E1).trans E2) ?_; rintro w13 E3 hB2 K4 hz4; have hO1 := (hO1.ext exq).wrote K4 Ka; have hQ1 := (hQ1.ext exq).wrote K4 Ka; refine Wnx E3<|Uq 11 Z Z E3<|Yh Kb ?_; refine Zy ?_; rotate_left; refine Vu Z ?_ ?_; refine Uc Kv Z Z (Mono.mono E1 (OwnedB.read hO2)) Kf ?_; rintro _ ⟨rfl, -⟩; refine Wnx exq<|Wha [0, 2, 8]<|Vu Z ?_ ?_; refine Xc Ks Ko (hB3.ext E1) Z<|Wnx exq<|Wha [2, 8]<|Vu Z ?_ ?_
        refine Yu u1 Kw (hB1.ext E1) Z<|Wnx exq<|Wha [8]<|Wh1 Z<|Uc Kv Z Z (Mono.mono E1 (OwnedB.read hO2)) Kf ?_; rintro _ ⟨rfl, -⟩; refine Wnx exq<|Wha [9]<|Wh1 Z<|Zr Z (Ud (a := u1) (b := .string _) (c := .string _) Jh Z Z Z) (c8 _ _ ((Mono.mono exq h1))) ?_; rintro _ w12 ⟨rfl, E2⟩; have hs10 := E2.size; refine Wnx exq<|Wha [10]<|Wh1 Z<|Ui Ko (hB2.ext (E1.trans E2)) Z ((Ew2.trans E1).trans E2) ?_; rintro w13 E3 hB2 K4 hz4; have hO1 := (hO1.ext exq).wrote K4 Ka; have hQ1 := (hQ1.ext exq).wrote K4 Ka; refine Wnx E3<|Uq 11 Z Z E3<|Yh Kb ?_; refine Zy ?_; rotate_left; refine Wh1 Z<|Uc Kv Z Z (Mono.mono E1 (OwnedB.read hO2)) Kf ?_; rintro _ ⟨rfl, -⟩
        refine Wnx exq<|Wha [2]<|Wh1 Z<|Yu u1 Kw (hB1.ext E1) Z<|Wnx exq<|Wha [9]<|Wh1 Z<|Zr Z (Ud (a := u1) (b := .string _) (c := .string _) Jh Z Z Z) (c8 _ _ ((Mono.mono exq h1))) ?_; rintro _ w12 ⟨rfl, E2⟩; have hs10 := E2.size; refine Wnx exq<|Wha [10]<|Wh1 Z<|Ui Ko (hB2.ext (E1.trans E2)) Z ((Ew2.trans E1).trans E2) ?_; rintro w13 E3 hB2 K4 hz4; have hO1 := (hO1.ext exq).wrote K4 Ka; have hQ1 := (hQ1.ext exq).wrote K4 Ka; refine Wnx E3<|Uq 11 Z Z E3<|Yh Kb ?_; refine Zy ?_; rotate_left; refine Vu Z ?_ ?_; refine Yu u1 Kw (hB1.ext E1) Z<|Wnx exq<|Wha [0, 8]<|Vu Z ?_ ?_
        refine Xc Ks Ko (hB3.ext E1) Z<|Wnx exq<|Wha [8]<|Wh1 Z<|Uc Kv Z Z (Mono.mono E1 (OwnedB.read hO2)) Kf ?_; rintro _ ⟨rfl, -⟩; refine Wnx exq<|Wha [9]<|Wh1 Z<|Zr Z (Ud (a := u1) (b := .string _) (c := .string _) Jh Z Z Z) (c8 _ _ ((Mono.mono exq h1))) ?_; rintro _ w12 ⟨rfl, E2⟩; have hs10 := E2.size; refine Wnx exq<|Wha [10]<|Wh1 Z<|Ui Ko (hB2.ext (E1.trans E2)) Z ((Ew2.trans E1).trans E2) ?_; rintro w13 E3 hB2 K4 hz4; have hO1 := (hO1.ext exq).wrote K4 Ka; have hQ1 := (hQ1.ext exq).wrote K4 Ka; refine Wnx E3<|Uq 11 Z Z E3<|Yh Kb ?_; refine Zy ?_; rotate_left; refine Wh1 Z<|Uc Kv Z Z (Mono.mono E1 (OwnedB.read hO2)) Kf ?_; rintro _ ⟨rfl, -⟩
        refine Wnx exq<|Wha [0, 9]<|Vu Z ?_ ?_; refine Xc Ks Ko (hB3.ext E1) Z<|Wnx exq<|Wha [9]<|Wh1 Z<|Zr Z (Ud (a := u1) (b := .string _) (c := .string _) Jh Z Z Z) (c8 _ _ ((Mono.mono exq h1))) ?_; rintro _ w12 ⟨rfl, E2⟩; have hs10 := E2.size; refine Wnx exq<|Wha [10]<|Wh1 Z<|Ui Ko (hB2.ext (E1.trans E2)) Z ((Ew2.trans E1).trans E2) ?_; rintro w13 E3 hB2 K4 hz4; have hO1 := (hO1.ext exq).wrote K4 Ka; have hQ1 := (hQ1.ext exq).wrote K4 Ka; refine Wnx E3<|Uq 11 Z Z E3<|Yh Kb ?_; refine Zy ?_; rotate_left; refine Wh1 Z<|Zr Z (Ud (a := u1) (b := .string _) (c := .string _) Jh Z Z Z) (c8 _ _ ((Mono.mono exq h1))) ?_; rintro _ w12 ⟨rfl, E2⟩; have hs10 := E2.size
        refine Wnx exq<|Wha [0]<|Wh1 Z<|Xc Ks Ko (hB3.ext exq) Z<|Wnx exq<|Wha [10]<|Wh1 Z<|Ui Ko (hB2.ext (E1.trans E2)) Z ((Ew2.trans E1).trans E2) ?_; rintro w13 E3 hB2 K4 hz4; have hO1 := (hO1.ext exq).wrote K4 Ka; have hQ1 := (hQ1.ext exq).wrote K4 Ka; refine Wnx E3<|Uq 11 Z Z E3<|Yh Kb ?_; refine Zy ?_; rotate_left; refine Wh1 Z<|Uc Kv Z Z (Mono.mono E1 (OwnedB.read hO2)) Kf ?_; rintro _ ⟨rfl, -⟩; refine Wnx exq<|Wha [0, 2]<|Vu Z ?_ ?_; refine Xc Ks Ko (hB3.ext E1) Z<|Wnx exq<|Wha [2]<|Wh1 Z<|Yu u1 Kw (hB1.ext E1) Z<|Wnx exq<|Wha [9]<|Wh1 Z<|Zr Z (Ud (a := u1) (b := .string _) (c := .string _) Jh Z Z Z) (c8 _ _ ((Mono.mono exq h1))) ?_
        rintro _ w12 ⟨rfl, E2⟩; have hs10 := E2.size; refine Wnx exq<|Wha [10]<|Wh1 Z<|Ui Ko (hB2.ext (E1.trans E2)) Z ((Ew2.trans E1).trans E2) ?_; rintro w13 E3 hB2 K4 hz4; have hO1 := (hO1.ext exq).wrote K4 Ka; have hQ1 := (hQ1.ext exq).wrote K4 Ka; refine Wnx E3<|Uq 11 Z Z E3<|Yh Kb ?_; refine Zy ?_; rotate_left; refine Wh1 Z<|Yu u1 Kw (hB1.ext E1) Z<|Wnx exq<|Wha [0, 9]<|Vu Z ?_ ?_; refine Xc Ks Ko (hB3.ext E1) Z<|Wnx exq<|Wha [9]<|Wh1 Z<|Zr Z (Ud (a := u1) (b := .string _) (c := .string _) Jh Z Z Z) (c8 _ _ ((Mono.mono exq h1))) ?_; rintro _ w12 ⟨rfl, E2⟩; have hs10 := E2.size; refine Wnx exq<|Wha [10]<|Wh1 Z<|Ui Ko (hB2.ext (E1.trans E2)) Z ((Ew2.trans E1).trans E2) ?_; rintro w13 E3 hB2 K4 hz4
        have hO1 := (hO1.ext exq).wrote K4 Ka; have hQ1 := (hQ1.ext exq).wrote K4 Ka; refine Wnx E3<|Uq 11 Z Z E3<|Yh Kb ?_; refine Zy ?_; rotate_left; refine Wh1 Z<|Zr Z (Ud (a := u1) (b := .string _) (c := .string _) Jh Z Z Z) (c8 _ _ ((Mono.mono exq h1))) ?_; rintro _ w12 ⟨rfl, E2⟩; have hs10 := E2.size; refine Wnx exq<|Wha [0]<|Wh1 Z<|Xc Ks Ko (hB3.ext exq) Z<|Wnx exq<|Wha [10]<|Wh1 Z<|Ui Ko (hB2.ext (E1.trans E2)) Z ((Ew2.trans E1).trans E2) ?_; rintro w13 E3 hB2 K4 hz4; have hO1 := (hO1.ext exq).wrote K4 Ka; have hQ1 := (hQ1.ext exq).wrote K4 Ka; refine Wnx E3<|Uq 11 Z Z E3<|Yh Kb ?_; refine Zy ?_; rotate_left
        refine Wh1 Z<|Uc Kv Z Z (Mono.mono E1 (OwnedB.read hO2)) Kf ?_; rintro _ ⟨rfl, -⟩; refine Wnx exq<|Wha [0, 2, 5]<|Vu Z ?_ ?_; refine Xc Ks Ko (hB3.ext E1) Z<|Wnx exq<|Wha [2, 5]<|Vu Z ?_ ?_; refine Yu u1 Kw (hB1.ext E1) Z<|Wnx exq<|Wha [5]<|Wh1 Z<|Uc Kv Z Z (Mono.mono E1 (OwnedB.read hO2)) Kf ?_; rintro _ ⟨rfl, -⟩; refine Wnx exq<|Wha [9]<|Wh1 Z<|Zr Z (Ud (a := u1) (b := .string _) (c := .string _) Jh Z Z Z) (c8 _ _ ((Mono.mono exq h1))) ?_; rintro _ w12 ⟨rfl, E2⟩; have hs10 := E2.size; refine Wnx exq<|Wha [10]<|Wh1 Z<|Ui Ko (hB2.ext (E1.trans E2)) Z ((Ew2.trans E1).trans E2) ?_; rintro w13 E3 hB2 K4 hz4
        have hO1 := (hO1.ext exq).wrote K4 Ka; have hQ1 := (hQ1.ext exq).wrote K4 Ka; refine Wnx E3<|Uq 11 Z Z E3<|Yh Kb ?_; refine Zy ?_; rotate_left; refine Wh1 Z<|Uc Kv Z Z (Mono.mono E1 (OwnedB.read hO2)) Kf ?_; rintro _ ⟨rfl, -⟩; refine Wnx exq<|Wha [2]<|Wh1 Z<|Yu u1 Kw (hB1.ext E1) Z<|Wnx exq<|Wha [9]<|Wh1 Z<|Zr Z (Ud (a := u1) (b := .string _) (c := .string _) Jh Z Z Z) (c8 _ _ ((Mono.mono exq h1))) ?_; rintro _ w12 ⟨rfl, E2⟩; have hs10 := E2.size; refine Wnx exq<|Wha [10]<|Wh1 Z<|Ui Ko (hB2.ext (E1.trans E2)) Z ((Ew2.trans E1).trans E2) ?_; rintro w13 E3 hB2 K4 hz4; have hO1 := (hO1.ext exq).wrote K4 Ka; have hQ1 := (hQ1.ext exq).wrote K4 Ka
        refine Wnx E3<|Uq 11 Z Z E3<|Yh Kb ?_; refine Zy ?_; rotate_left; refine Vu Z ?_ ?_; refine Yu u1 Kw (hB1.ext E1) Z<|Wnx exq<|Wha [0, 5]<|Vu Z ?_ ?_; refine Xc Ks Ko (hB3.ext E1) Z<|Wnx exq<|Wha [5]<|Wh1 Z<|Uc Kv Z Z (Mono.mono E1 (OwnedB.read hO2)) Kf ?_; rintro _ ⟨rfl, -⟩; refine Wnx exq<|Wha [9]<|Wh1 Z<|Zr Z (Ud (a := u1) (b := .string _) (c := .string _) Jh Z Z Z) (c8 _ _ ((Mono.mono exq h1))) ?_; rintro _ w12 ⟨rfl, E2⟩; have hs10 := E2.size; refine Wnx exq<|Wha [10]<|Wh1 Z<|Ui Ko (hB2.ext (E1.trans E2)) Z ((Ew2.trans E1).trans E2) ?_; rintro w13 E3 hB2 K4 hz4; have hO1 := (hO1.ext exq).wrote K4 Ka; have hQ1 := (hQ1.ext exq).wrote K4 Ka
        refine Wnx E3<|Uq 11 Z Z E3<|Yh Kb ?_; refine Zy ?_; rotate_left; refine Wh1 Z<|Uc Kv Z Z (Mono.mono E1 (OwnedB.read hO2)) Kf ?_; rintro _ ⟨rfl, -⟩; refine Wnx exq<|Wha [0, 9]<|Vu Z ?_ ?_; refine Xc Ks Ko (hB3.ext E1) Z<|Wnx exq<|Wha [9]<|Wh1 Z<|Zr Z (Ud (a := u1) (b := .string _) (c := .string _) Jh Z Z Z) (c8 _ _ ((Mono.mono exq h1))) ?_; rintro _ w12 ⟨rfl, E2⟩; have hs10 := E2.size; refine Wnx exq<|Wha [10]<|Wh1 Z<|Ui Ko (hB2.ext (E1.trans E2)) Z ((Ew2.trans E1).trans E2) ?_; rintro w13 E3 hB2 K4 hz4; have hO1 := (hO1.ext exq).wrote K4 Ka; have hQ1 := (hQ1.ext exq).wrote K4 Ka; refine Wnx E3<|Uq 11 Z Z E3<|Yh Kb ?_; refine Zy ?_; rotate_left
        refine Wh1 Z<|Zr Z (Ud (a := u1) (b := .string _) (c := .string _) Jh Z Z Z) (c8 _ _ ((Mono.mono exq h1))) ?_; rintro _ w12 ⟨rfl, E2⟩; have hs10 := E2.size; refine Wnx exq<|Wha [0]<|Wh1 Z<|Xc Ks Ko (hB3.ext exq) Z<|Wnx exq<|Wha [10]<|Wh1 Z<|Ui Ko (hB2.ext (E1.trans E2)) Z ((Ew2.trans E1).trans E2) ?_; rintro w13 E3 hB2 K4 hz4; have hO1 := (hO1.ext exq).wrote K4 Ka; have hQ1 := (hQ1.ext exq).wrote K4 Ka; refine Wnx E3<|Uq 11 Z Z E3<|Yh Kb ?_; refine Zy ?_; rotate_left; refine Wh1 Z<|Uc Kv Z Z (Mono.mono E1 (OwnedB.read hO2)) Kf ?_; rintro _ ⟨rfl, -⟩; refine Wnx exq<|Wha [0, 2]<|Vu Z ?_ ?_
        refine Xc Ks Ko (hB3.ext E1) Z<|Wnx exq<|Wha [2]<|Wh1 Z<|Yu u1 Kw (hB1.ext E1) Z<|Wnx exq<|Wha [9]<|Wh1 Z<|Zr Z (Ud (a := u1) (b := .string _) (c := .string _) Jh Z Z Z) (c8 _ _ ((Mono.mono exq h1))) ?_; rintro _ w12 ⟨rfl, E2⟩; have hs10 := E2.size; refine Wnx exq<|Wha [10]<|Wh1 Z<|Ui Ko (hB2.ext (E1.trans E2)) Z ((Ew2.trans E1).trans E2) ?_; rintro w13 E3 hB2 K4 hz4; have hO1 := (hO1.ext exq).wrote K4 Ka; have hQ1 := (hQ1.ext exq).wrote K4 Ka; refine Wnx E3<|Uq 11 Z Z E3<|Yh Kb ?_; refine Zy ?_; rotate_left; refine Wh1 Z<|Yu u1 Kw (hB1.ext E1) Z<|Wnx exq<|Wha [0, 9]<|Vu Z ?_ ?_
        refine Xc Ks Ko (hB3.ext E1) Z<|Wnx exq<|Wha [9]<|Wh1 Z<|Zr Z (Ud (a := u1) (b := .string _) (c := .string _) Jh Z Z Z) (c8 _ _ ((Mono.mono exq h1))) ?_; rintro _ w12 ⟨rfl, E2⟩; have hs10 := E2.size; refine Wnx exq<|Wha [10]<|Wh1 Z<|Ui Ko (hB2.ext (E1.trans E2)) Z ((Ew2.trans E1).trans E2) ?_; rintro w13 E3 hB2 K4 hz4; have hO1 := (hO1.ext exq).wrote K4 Ka; have hQ1 := (hQ1.ext exq).wrote K4 Ka; refine Wnx E3<|Uq 11 Z Z E3<|Yh Kb ?_; refine Zy ?_; rotate_left; refine Wh1 Z<|Zr Z (Ud (a := u1) (b := .string _) (c := .string _) Jh Z Z Z) (c8 _ _ ((Mono.mono exq h1))) ?_; rintro _ w12 ⟨rfl, E2⟩; have hs10 := E2.size
        refine Wnx exq<|Wha [0]<|Wh1 Z<|Xc Ks Ko (hB3.ext exq) Z<|Wnx exq<|Wha [10]<|Wh1 Z<|Ui Ko (hB2.ext (E1.trans E2)) Z ((Ew2.trans E1).trans E2) ?_; rintro w13 E3 hB2 K4 hz4; have hO1 := (hO1.ext exq).wrote K4 Ka; have hQ1 := (hQ1.ext exq).wrote K4 Ka; refine Wnx E3<|Uq 11 Z Z E3<|Yh Kb ?_; refine Zy ?_; rotate_left
      all_goals exact ⟨b2, u3, q1, rfl, hB2, u3, q1, rfl, by repeat (first | assumption | refine Ext.trans Kd ?_), hO1.rd.wide Ka Ka, hQ1.rd.wide Ka Ka, icu3, icq1⟩
 ·rw [show dlV d s=(⟨[],[]⟩,[]) from if_neg hd]
  have k0 : ∀ w,ESl Ints w u1 d.now→ESl (ESl Ints) w u2 d.past→Does Tryz.prog 16 [.agg #[u1,u2]] w (Ret w (.bool false)):=fun w h1 h2=>by
   have:=Rd w u1 u2 d h1 h2;rwa [decide_eq_false hd] at this
  focus
   refine Zp<|Yl Z Z Z ?_;rintro b1 w1 hb1 E1 hB1;have hlb1:=hB1.lt;refine Yp Z Xf ?_;rintro b2 w2 hb2 E2 hB2;refine Yj Z<|Zn<|Zq<|Zp<|Xc Ks Ko (hB1.ext E2) Z<|Zr Z (Vx (a:=.agg _) Gc Z) (k0 _ ((Mono.mono exq h1)) ((Mono.mono exq h2))) ?_;rintro _ w3 ⟨rfl,E3⟩;refine Ym Z<|Zn<|Xg Z (fun h3=>?_) (fun h3=>?_);refine Zp<|Wo Z (Vs (ps:=[]) (cs:=[_,_]) Xf Z Z)<|Ui Ko (hB2.ext E3) Z ((E1.trans E2).trans E3) ?_;rintro w4 E4 hB2 K1 hz1;have E5:=(E2.trans E3).wroteAt exq E4 K1 hz1 Ka;have szE5:=E5.size;refine Yj Z<|Zn<|Zy ?_;rotate_left;contradiction
  exact ⟨b2,_,_,rfl,hB2,_,_,rfl,by exact E4,nil1 _ _ Ka,nil2 _ _ Ka,rfl,rfl⟩
end Go.Proofs.YtbgpppaljpngmaaGreatDoor
set_option linter.unusedVariables false
namespace Go.Hs
def RetDkY (w:World) (e0 e1 e2 eS:TypeId) (now:List (List Int)) (past:List (List (List Int))) (l:List (List UInt8)):Value→World→Prop:=fun v w'=>∃ u1 u2 va lo m hi,v=.tuple #[.agg #[u1,u2],va]∧Ext w w'∧OwnedB lo m (XSl e1 (XSl e2 XInt)) w' u1 now∧OwnedB m hi (XSl e0 (XSl e1 (XSl e2 XInt))) w' u2 past∧Owned w.heap.size (XSl eS XStr) w' va l∧w.heap.size≤lo∧lo≤m∧m≤hi∧hi≤w'.heap.size∧∀ q,va.ownBlock=some q→q < lo∨hi≤q
def RetDkRY (w:World) (eS:TypeId) (now:List (List Int)) (past:List (List (List Int))) (l:List (List UInt8)):Value→World→Prop:=fun v w'=>∃ u1 u2 va,v=.tuple #[.agg #[u1,u2],va]∧Ext w w'∧OwnedB w.heap.size w'.heap.size (XRd (ESl Ints)) w' u1 now∧OwnedB w.heap.size w'.heap.size (XRd (ESl (ESl Ints))) w' u2 past∧Owned w.heap.size (XSl eS XStr) w' va l∧isCell u1=true∧isCell u2=true
theorem xall_nil {w:World} : ∀ {fps:List (List Nat)} {cs:List Value} {xs:List (List UInt8)},XAll XStr w fps cs xs→fps.flatten=[]
 | [],[],[],_=>rfl
 | f::fs,c::cs,x::xs,h=>by rw [List.flatten_cons,h.1.1,xall_nil h.2];rfl
theorem OwnedB.narrowS {e:TypeId} {lo hi lo' hi':Nat} {w:World} {v:Value} {xs:List (List UInt8)} (h:OwnedB lo hi (XSl e XStr) w v xs) (hq : ∀ q,v.ownBlock=some q→lo'≤q∧q < hi'):OwnedB lo' hi' (XSl e XStr) w v xs:=by
 obtain ⟨fp,hn,hb,cs,fps,h1,rfl,h3⟩:=h
 refine ⟨_,hn,fun k hk=>?_,cs,fps,h1,Z,h3⟩
 rw [xall_nil h3,List.append_nil] at hk
 cases hv:v.ownBlock with
 | none=>rw [hv] at hk;cases hk
 | some q=>rw [hv] at hk;simp at hk;subst hk;exact hq _ hv
end Go.Hs
namespace Go.Proofs.YtbgpppaljpngmaaGreatDoor
open Go.Hs
set_option maxRecDepth 10000
set_option maxHeartbeats 4000000
set_option linter.unusedVariables false
set_option linter.unusedSimpArgs false
noncomputable def sayV (d:Dsk) (l:List (List UInt8)):Dsk × List (List UInt8):=l.foldl (fun x s=>((lnV x.1 s).1,x.2++[(lnV x.1 s).2])) (d,[])
theorem say_from (l:List (List UInt8)) : ∀ (d:Dsk) (o:List (List UInt8)),l.foldl (fun x s=>((lnV x.1 s).1,x.2++[(lnV x.1 s).2])) (d,o)=((sayV d l).1,o++(sayV d l).2):=by
 induction l with
 | nil=>intro d o;simp [sayV]
 | cons s l ih =>
   intro d o
   unfold sayV
   rw [List.foldl_cons, List.foldl_cons, ih, ih]
   simp
theorem sayV_app (d:Dsk) (l l':List (List UInt8)):sayV d (l++l')=((sayV (sayV d l).1 l').1,(sayV d l).2++(sayV (sayV d l).1 l').2):=by
 conv=>lhs;unfold sayV
 rw [List.foldl_append,say_from l d [],List.nil_append,say_from]
theorem sayV_snoc (d:Dsk) (l:List (List UInt8)) (s:List UInt8):sayV d (l++[s])=((lnV (sayV d l).1 s).1,(sayV d l).2++[(lnV (sayV d l).1 s).2]):=by
 rw [sayV_app];rfl
theorem lnV_ok' {d:Dsk} (h:DkOk d) (s:List UInt8):DkOk (lnV d s).1:=by
 unfold lnV
 split
 ·exact doV_ok h
 ·exact h
theorem sayV_ok {d:Dsk} (h:DkOk d) (l:List (List UInt8)):DkOk (sayV d l).1 :=
 snoc_ind (P:=fun l=>DkOk (sayV d l).1) h (fun l s ih=>by rw [sayV_snoc];exact lnV_ok' ih s) l
theorem sayV_len (d:Dsk) (l:List (List UInt8)):(sayV d l).2.length=l.length :=
 snoc_ind (P:=fun l=>(sayV d l).2.length=l.length) rfl (fun l s ih=>by rw [sayV_snoc];simp [ih]) l
theorem yn_len (b:Bool):(ynV b).length≤3:=by cases b <;> decide
theorem ask2_len (p:List (List Int)) (a r:List UInt8):(ask2 p a r).length≤4:=by
 unfold ask2
 split
 ·exact Nat.le_trans (yn_len _) Kc
 ·split
  ·exact Nat.le_trans (yn_len _) Kc
  ·split
   ·exact Nat.le_trans (yn_len _) Kc
   ·decide
theorem askV_len {p:List (List Int)} (hp:Pic p) (s:List UInt8):(askV p s).length≤100000:=by
 have h1:=txt_len hp.gr
 have h2:=dec_len _ (manyV p 0) (Nat.le_refl _)
 have h3:=manyV_le p 0
 have h4:=dec_len _ (faV p).length (Nat.le_refl _)
 have h5:=faV_le p
 rw [Yy] at h5
 have h6:=hp.2.1
 have h7:=ask2_len p (cutF 32 s).1 (cutF 32 s).2.1
 unfold askV
 split
 ·simp only [List.length_cons];omega
 ·split
  ·rcases codeV_nat p 0 with ⟨c,hc,e⟩ | e
   ·rw [e]
    have:=dec_len _ c (Nat.le_refl _)
    simp only [if_pos,Int.toNat_natCast];omega
   ·rw [e];decide
  ·split
   ·omega
   ·split
    ·exact Nat.le_trans (yn_len _) Kc
    ·split
     ·rcases deepAtV_nat hp 0 with ⟨c,hc,e⟩ | e
      ·rw [e,if_pos Ka]
       have:=dec_len _ c (Nat.le_refl _)
       rw [Int.toNat_natCast];omega
      ·rw [e];decide
     ·split
      ·omega
      ·split
       ·omega
       ·decide
theorem lnV_len {d:Dsk} (h:DkOk d) (s:List UInt8):(lnV d s).2.length≤100000:=by
 unfold lnV
 split
 ·simp only;unfold okV;split <;> decide
 ·exact askV_len h.1.1 s
open Classical in
noncomputable def dsV (d:Dsk) (l:List (List UInt8)):Dsk × List (List UInt8):=if DkOk d∧l.length≤40 then sayV d l else (⟨[],[]⟩,[])
open Classical in
theorem impl_DeskSay_ok (w:World) (hM:EMx gMx w (.bool true) ()) (hT:ETb w (.bool true) ()) (u1 u2:Value) (d:Dsk) (h1:ESl Ints w u1 d.now) (h2:ESl (ESl Ints) w u2 d.past) (vl:Value) (l:List (List UInt8)) (hl:ESl EStr w vl l) (hx : ∀ s ∈ l,s.length≤1048576) :
  Does Tryz.prog 21 [.agg #[u1,u2],vl] w (RetDkY w 23 88 3 9 (dsV d l).1.now (dsV d l).1.past (dsV d l).2):=by
 have icu1:isCell u1=true:=Uu h1
 have icu2:isCell u2=true:=Uu h2
 have hle:=hl.le
 refine Su Tryz.func21 Z Tryz.results21 Tryz.ntmps21 Z Ks Ko ?_
 by_cases hd:DkOk d
 ·have k0 : ∀ w,ESl Ints w u1 d.now→ESl (ESl Ints) w u2 d.past→Does Tryz.prog 58 [.agg #[u1,u2]] w (Ret w (.bool true)):=fun w h1 h2=>by
   have:=isDesk_ok w u1 u2 d h1 h2;rwa [decide_eq_true hd] at this
  by_cases h40:l.length≤40
  ·rw [show dsV d l=sayV d l from if_pos ⟨hd,h40⟩]
   have bnd : ∀ q,Pic q→q.length≤100∧∀ r ∈ q,r.length≤100:=fun q hq=>⟨by have:=hq.2.1;omega,fun r hr=>by rw [(hq.2.2 r hr).1];have:=hq.2.1;omega⟩
   have hppl:=hd.2.1
   have k1 : ∀ w,ESl Ints w u1 d.now→ESl (ESl Ints) w u2 d.past→Does Tryz.prog 77 [.agg #[u1,u2]] w (RetDk w 23 88 3 d.now d.past):=fun w h1 h2=>Sh w u1 u2 d.now d.past h1 h2 (bnd _ hd.1.1) Ka (fun q hq=>bnd q (hd.2.2 q hq).1)
   focus
    refine Zp<|Yl Z Z Z ?_;rintro b1 w1 hb1 E1 hB1;have hlb1:=hB1.lt;refine Yp Z Xf ?_;rintro b2 w2 hb2 E2 hB2;have hlb2:=hB2.lt;refine Ys Z<|Zn<|Zq<|Zp<|Xc Ks Ko (hB1.ext E2) Z<|Zr Z (Vx (a:=.agg _) Tryz.call58 Z) (k0 _ ((Mono.mono exq h1)) ((Mono.mono exq h2))) ?_;rintro _ w3 ⟨rfl,E3⟩;have hs3:=E3.size;refine Ym Z<|Yn Z (Vq (v:=.bool _) Z) (fun h3=>?_) (fun h3=>?_);contradiction;refine Vb vl Z<|Vk Jd Z hl<|Qe Z<|Vp Z<|Zn<|Zt Z fun h4=>?_;refine Zv<|Zp<|Xc Ks Ko (hB1.ext exq) Z<|Zr Z (Vx (a:=.agg _) Gf Z) (k1 _ ((Mono.mono exq h1)) ((Mono.mono exq h2))) ?_;rintro _ w4 ⟨u3,q1,m1,rfl,E4,hO1,hQ1,hm1,hn1⟩;have icu3:=OwnedB.isC hO1
    have icq1:=OwnedB.isC (Owned.toB hQ1);have hs4:=E4.size;refine Xj Z Ko Z Z Ke Ke (hB1.ext ((E2.trans E3).trans E4)) Ka (((E1.trans E2).trans E3).trans E4) ?_;rintro w5 E5 hB1 K1 hz1;have hB2:=(hB2.ext exq).of_heap (K1 _ Ka);have hO1:=hO1.wrote K1 Ka;have hQ1:=hQ1.toB.wrote K1 Ka;refine Zn<|Zp<|Yz XStr Z el34 Ku ?_;rintro b3 w6 hb3 b3lt E6 hO2;have hs5:=E6.size;refine Ys Z<|Zn<|Zq<|Zp<|Vb vl Z<|Vk Jd Z hl<|Zu Z<|Zn<|Zw ?_
   refine Vy [6,8,9,10,25,26,27,28,29,30,31,32,33,34,35,36,37,38,39,40] (fun ((k,v1,v2,va,lo,m,hi):Nat × Value × Value × Value × Nat × Nat × Nat)=>[(25,.int .i64 (k:Nat)),(6,va)]) (fun (k,v1,v2,va,lo,m,hi) w'=>Ext w w'∧w6.heap.size≤w'.heap.size∧k≤l.length∧Blk w' b1 [v1,v2]∧Blk w' b2 [.slice none 0 0,.slice none 0 0]∧OwnedB lo m XR w' v1 (sayV d (l.take k)).1.now∧OwnedB m hi (XSl 23 XR) w' v2 (sayV d (l.take k)).1.past∧OwnedB w5.heap.size w'.heap.size XS w' va (sayV d (l.take k)).2∧w3.heap.size≤lo∧lo≤m∧m≤hi∧hi≤w'.heap.size∧isCell v1=true∧isCell v2=true∧∀ q,va.ownBlock=some q→q < lo∨hi≤q) (fun x=>l.length - x.1) (0,u3,q1,.slice (some ⟨b3,0,none⟩) 0 0,w3.heap.size,m1,w4.heap.size) Kg ?_ ?_
   ·exact ⟨by exact (E5.trans E6),Nat.le_refl _,Nat.zero_le _,hB1.ext E6,hB2.ext E6,hO1.ext E6,hQ1.ext E6,hO2.toB,Ka,Ka,Ka,Ka,icu3,icq1,fun q hq=>by simp [Value.ownBlock] at hq;omega⟩
   clear hB1 hB2 hO1 hQ1 hO2 k0 k1
   rintro ⟨k,v1,v2,va,lo,m,hi⟩ ρj w7 ⟨E7,hsz,hk,hB1,hB2,hO1,hQ1,hA,hlo,hlm,hmh,hhi,ic1,ic2,hdq⟩
   have hal:=sayV_len d (l.take k)
   have hal2:(l.take k).length≤40:=by rw [List.length_take];omega
   by_cases hlt:k < l.length
   ·have hok:=sayV_ok hd (l.take k)
    have hsn:sayV d (l.take (k+1))=((lnV (sayV d (l.take k)).1 l[k]).1,(sayV d (l.take k)).2++[(lnV (sayV d (l.take k)).1 l[k]).2]):=by rw [Yd _ _ hlt,sayV_snoc]
    have hxk:=hx _ (List.getElem_mem hlt)
    have hln:=lnV_len hok l[k]
    have kD : ∀ (w:World),EMx gMx w (.bool true) ()→ETb w (.bool true) ()→ESl Ints w v1 (sayV d (l.take k)).1.now→ESl (ESl Ints) w v2 (sayV d (l.take k)).1.past→Does Tryz.prog 59 [.agg #[v1,v2],str l[k]] w (RetDkT w 23 88 3 (lnV (sayV d (l.take k)).1 l[k]).1.now (lnV (sayV d (l.take k)).1 l[k]).1.past (lnV (sayV d (l.take k)).1 l[k]).2):=fun w hM hT h1 h2=>deskLine_ok w hM hT v1 v2 _ h1 h2 hok _ hxk
    have hAlt : ∀ q,va.ownBlock=some q→q < w7.heap.size:=fun q hq=>(hA.lt_own hq).2
    focus
     have szE5:=E5.size;refine Zp<|Vi Z<|Zn<|Zq<|Zs Z (fun h5=>?_) (fun h5=>?_);refine Zv<|Zq<|Zw<|Zp<|Yb Jd Ku Kv Z (fun _=>Z) Z hl E7 Z Kf ?_;rintro _ _ ⟨rfl,-⟩;refine Yj Z<|Zn<|Zp<|Xc Ks Ko hB1 Z<|Vo Z<|Zr Z (Yg (a:=.agg _) (b:=.string _) Tryz.call59 Z Z) (kD _ ((Mono.mono E7 hM)) ((Mono.mono E7 hT)) ((OwnedB.read hO1)) ((OwnedB.read hQ1))) ?_;rintro _ w8 ⟨u4,q2,m2,rfl,E8,hO2,hQ2,hm2,hn2⟩;have icu4:=OwnedB.isC hO2;have icq2:=OwnedB.isC (Owned.toB hQ2);have hs6:=E8.size;refine Xl Z<|WsxA Z<|Rs Z<|Yp Z Xf ?_;rintro b4 w9 hb4 E9 hB3;have hlb4:=hB3.lt;refine Ui Ko hB3 Z ((E7.trans E8).trans E9) ?_
     rintro w10 E10 hB3 K2 hz2;have hB1:=(hB1.ext exq).of_heap (K2 _ Ka);have hB2:=(hB2.ext exq).of_heap (K2 _ Ka);have hA:=(hA.ext exq).wrote K2 Ka;have hO2:=(hO2.ext E9).wrote K2 Ka;have hQ2:=(hQ2.toB.ext E9).wrote K2 Ka;refine Yj Z<|Zn<|Zp<|Xc Ks Ko hB3 Z<|Ui Ko hB1 Z E10 ?_;rintro w11 E13 hB1 K3 hz3;have hB2:=hB2.of_heap (K3 _ Ka);have hA:=hA.wrote K3 Ka;have hO2:=hO2.wrote K3 Ka;have hQ2:=hQ2.wrote K3 Ka;refine Zn<|Vf<|Vb va Z<|Vo Z<|Xm (ps:=[(0,.string _)]) (cs:=[_]) Z Jd Ku Zj Z Z Z Z ?_;rintro b5 w12 hb5 E14 hB4;have hlb5:=hB4.lt
     refine Xh Z el34 Z Z hB4 (hA.ext E14) (Owned.str Kf) (Nat.le_refl _) Kf Ka Ka (E13.trans E14) Ka ?_;have hT1:=(hA.ext E14);rintro v3 w13 hA E15 M1;have hB1:=(hB1.ext E14).moves M1 hT1 Ka;have hB2:=(hB2.ext E14).moves M1 hT1 Ka;have hO2:=(hO2.ext E14).moves M1 hT1 Ka;have hQ2:=(hQ2.ext E14).moves M1 hT1 Ka;have szM1:=M1.1.size;refine Yr v3 Z<|Zn<|Vf<|Vr Z<|Zu Z<|Zn ?_;rotate_left;(exfalso;omega)
    refine ⟨(k+1,u4,q2,v3,w7.heap.size,m2,w8.heap.size),⟨Z,Z,trivial⟩,Kh,?_,Kj⟩
    simp only
    rw [hsn]
    refine ⟨by exact E15,Ka,Ka,hB1,hB2,hO2,hQ2,hA.toB,Ka,Ka,Ka,Ka,icu4,icq2,fun q hq=>?_⟩
    rcases M1.2 with e | ⟨g,e,hg⟩
    ·rw [e] at hq;exact .inl (hAlt q hq)
    ·rw [e] at hq;cases hq;exact .inr Ka
   ·obtain rfl:k=l.length:=by omega
    rw [show sayV d l=sayV d (l.take l.length) by rw [List.take_length]]
    focus
     have szE5:=E5.size;refine Zp<|Vi Z<|Zn<|Zq<|Zt Z fun h5=>?_;refine Vw ?_;refine Vd ?_;refine Zp<|Xc Ks Ko hB1 Z<|Vb va Z<|Ui Ko hB2 Z E7 ?_;rintro w8 E8 hB2 K2 hz2;have hO1:=hO1.wrote K2 Ka;have hQ1:=hQ1.wrote K2 Ka;have hA:=hA.wrote K2 Ka;refine Yr va Z<|Zn<|Zy ?_
    exact ⟨b2,v1,v2,rfl,hB2,v1,v2,va,lo,m,hi,rfl,by exact E8,hO1,hQ1,(hA.wide Ka (Nat.le_refl _)).o,Ka,hlm,hmh,Ka,hdq⟩
  ·rw [show dsV d l=(⟨[],[]⟩,[]) from if_neg fun h=>h40 h.2]
   focus
    refine Zp<|Yl Z Z Z ?_;rintro b1 w1 hb1 E1 hB1;have hlb1:=hB1.lt;refine Yp Z Xf ?_;rintro b2 w2 hb2 E2 hB2;refine Ys Z<|Zn<|Zq<|Zp<|Xc Ks Ko (hB1.ext E2) Z<|Zr Z (Vx (a:=.agg _) Tryz.call58 Z) (k0 _ ((Mono.mono exq h1)) ((Mono.mono exq h2))) ?_;rintro _ w3 ⟨rfl,E3⟩;refine Ym Z<|Yn Z (Vq (v:=.bool _) Z) (fun h3=>?_) (fun h3=>?_);contradiction;refine Vb vl Z<|Vk Jd Z hl<|Qe Z<|Vp Z<|Zn<|Zs Z (fun h4=>?_) (fun h4=>?_);refine Zq<|Vf<|Wo Z (Vs (ps:=[]) (cs:=[_,_]) Xf Z Z)<|Ui Ko (hB2.ext E3) Z ((E1.trans E2).trans E3) ?_;rintro w4 E4 hB2 K1 hz1;have E5:=(E2.trans E3).wroteAt exq E4 K1 hz1 Ka;have szE5:=E5.size
    refine Ys Z<|Zn<|Zy ?_;rotate_left;(exfalso;omega)
   exact ⟨b2,_,_,rfl,hB2,_,_,_,w.heap.size,w.heap.size,w.heap.size,rfl,by exact E4,OwnedB.nil,OwnedB.nil,Owned.nil,Nat.le_refl _,Nat.le_refl _,Nat.le_refl _,Ka,fun q hq=>by cases hq⟩
 ·rw [show dsV d l=(⟨[],[]⟩,[]) from if_neg fun h=>hd h.1]
  have k0 : ∀ w,ESl Ints w u1 d.now→ESl (ESl Ints) w u2 d.past→Does Tryz.prog 58 [.agg #[u1,u2]] w (Ret w (.bool false)):=fun w h1 h2=>by
   have:=isDesk_ok w u1 u2 d h1 h2;rwa [decide_eq_false hd] at this
  focus
   refine Zp<|Yl Z Z Z ?_;rintro b1 w1 hb1 E1 hB1;have hlb1:=hB1.lt;refine Yp Z Xf ?_;rintro b2 w2 hb2 E2 hB2;refine Ys Z<|Zn<|Zq<|Zp<|Xc Ks Ko (hB1.ext E2) Z<|Zr Z (Vx (a:=.agg _) Tryz.call58 Z) (k0 _ ((Mono.mono exq h1)) ((Mono.mono exq h2))) ?_;rintro _ w3 ⟨rfl,E3⟩;refine Ym Z<|Yn Z (Vq (v:=.bool _) Z) (fun h3=>?_) (fun h3=>?_);refine Zo Z<|Zo Z<|Zo Z<|Yq Z<|Zn<|Vv Z ?_;refine Zp<|Wo Z (Vs (ps:=[]) (cs:=[_,_]) Xf Z Z)<|Ui Ko (hB2.ext E3) Z ((E1.trans E2).trans E3) ?_;rintro w4 E4 hB2 K1 hz1;have E5:=(E2.trans E3).wroteAt exq E4 K1 hz1 Ka;have szE5:=E5.size;refine Ys Z<|Zn<|Zy ?_;rotate_left;contradiction
  exact ⟨b2,_,_,rfl,hB2,_,_,_,w.heap.size,w.heap.size,w.heap.size,rfl,by exact E4,OwnedB.nil,OwnedB.nil,Owned.nil,Nat.le_refl _,Nat.le_refl _,Nat.le_refl _,Ka,fun q hq=>by cases hq⟩
open Classical in
theorem spec_DeskSay_ok (w:World) (u1 u2:Value) (d:Dsk) (h1:ESl Ints w u1 d.now) (h2:ESl (ESl Ints) w u2 d.past) (vl:Value) (l:List (List UInt8)) (hl:ESl EStr w vl l) (hx : ∀ s ∈ l,s.length≤1048576) :
  Does Tryz.prog 22 [.agg #[u1,u2],vl] w (RetDkRY w 9 (dsV d l).1.now (dsV d l).1.past (dsV d l).2):=by
 have icu1:isCell u1=true:=Uu h1
 have icu2:isCell u2=true:=Uu h2
 have hle:=hl.le
 have nil1 : ∀ (w w':World),w.heap.size≤w'.heap.size→OwnedB w.heap.size w'.heap.size (XRd (ESl Ints)) w' (.slice none 0 0) []:=fun w w' h=>(OwnedB.nil (e:=0) (X:=XSl 0 XInt)).rd
 have nil2 : ∀ (w w':World),w.heap.size≤w'.heap.size→OwnedB w.heap.size w'.heap.size (XRd (ESl (ESl Ints))) w' (.slice none 0 0) []:=fun w w' h=>(OwnedB.nil (e:=0) (X:=XSl 0 (XSl 0 XInt))).rd
 refine Su Tryz.func22 Z Tryz.results22 Tryz.ntmps22 Z Ks Ko ?_
 by_cases hd:DkOk d
 ·have k0 : ∀ w,ESl Ints w u1 d.now→ESl (ESl Ints) w u2 d.past→Does Tryz.prog 16 [.agg #[u1,u2]] w (Ret w (.bool true)):=fun w h1 h2=>by
   have:=Rd w u1 u2 d h1 h2;rwa [decide_eq_true hd] at this
  by_cases h40:l.length≤40
  ·rw [show dsV d l=sayV d l from if_pos ⟨hd,h40⟩]
   have bnd : ∀ q,Pic q→q.length≤100∧∀ r ∈ q,r.length≤100:=fun q hq=>⟨by have:=hq.2.1;omega,fun r hr=>by rw [(hq.2.2 r hr).1];have:=hq.2.1;omega⟩
   have hppl:=hd.2.1
   have k1 : ∀ w,ESl Ints w u1 d.now→ESl (ESl Ints) w u2 d.past→Does Tryz.prog 60 [.agg #[u1,u2]] w (RetDk w 23 88 3 d.now d.past):=fun w h1 h2=>l11Copy_ok w u1 u2 d.now d.past h1 h2 (bnd _ hd.1.1) Ka (fun q hq=>bnd q (hd.2.2 q hq).1)
   focus
    refine Zp<|Yl Z Z Z ?_;rintro b1 w1 hb1 E1 hB1;have hlb1:=hB1.lt;refine Yp Z Xf ?_;rintro b2 w2 hb2 E2 hB2;have hlb2:=hB2.lt;refine Ys Z<|Zn<|Zp<|Yz XStr Z el34 Ku ?_;rintro b3 w3 hb3 b3lt E3 hO1;refine Ys Z<|Zn<|Zq<|Zp<|Xc Ks Ko (hB1.ext exq) Z<|Zr Z (Vx (a:=.agg _) Gc Z) (k0 _ ((Mono.mono exq h1)) ((Mono.mono exq h2))) ?_;rintro _ w4 ⟨rfl,E4⟩;have hs4:=E4.size;refine Ym Z<|Yn Z (Vq (v:=.bool _) Z) (fun h3=>?_) (fun h3=>?_);contradiction;refine Vb vl Z<|Vk Jd Z hl<|Qe Z<|Vp Z<|Zn<|Zt Z fun h4=>?_
    refine Zv<|Zp<|Xc Ks Ko (hB1.ext exq) Z<|Zr Z (Vx (a:=.agg _) Gp Z) (k1 _ ((Mono.mono exq h1)) ((Mono.mono exq h2))) ?_;rintro _ w5 ⟨u3,q1,m1,rfl,E5,hO2,hQ1,hm1,hn1⟩;have icu3:=OwnedB.isC hO2;have icq1:=OwnedB.isC (Owned.toB hQ1);have hs5:=E5.size;refine Yp Z Xf ?_;rintro b4 w6 hb4 E6 hB3;have hlb4:=hB3.lt;refine Xj Z Ko Z Z Ke Ke hB3 Ka (((((E1.trans E2).trans E3).trans E4).trans E5).trans E6) ?_;rintro w7 E7 hB3 K1 hz1;have E12:=E6.wroteAt exq E7 K1 hz1 Ka;have szE12:=E12.size;have hB1:=(hB1.ext exq).of_heap (K1 _ Ka);have hB2:=(hB2.ext exq).of_heap (K1 _ Ka);have hO1:=(hO1.toB.ext exq).wrote K1 Ka;have hO2:=(hO2.ext E6).wrote K1 Ka
    have hQ1:=(hQ1.toB.ext E6).wrote K1 Ka;refine Zn<|Zq<|Zp<|Vg Z<|Zn<|Zw ?_
   refine Vy [6,8,9,10,24,25,26,27,28,29,30,31,32,33,34,35,36,37,38,39,40,41,42,43] (fun ((k,v1,v2,va,lo,hi,qa):Nat × Value × Value × Value × Nat × Nat × Nat)=>[(8,.int .i64 (k:Nat)),(6,va)]) (fun (k,v1,v2,va,lo,hi,qa) w'=>Ext w w'∧w7.heap.size≤w'.heap.size∧k≤l.length∧Blk w' b4 [v1,v2]∧Blk w' b2 [.slice none 0 0,.slice none 0 0]∧OwnedB lo hi (XRd (ESl Ints)) w' v1 (sayV d (l.take k)).1.now∧OwnedB lo hi (XRd (ESl (ESl Ints))) w' v2 (sayV d (l.take k)).1.past∧OwnedB qa (qa+1) XS w' va (sayV d (l.take k)).2∧w2.heap.size≤lo∧hi≤w'.heap.size∧w2.heap.size≤qa∧qa < w'.heap.size∧qa≠b4∧isCell v1=true∧isCell v2=true) (fun x=>l.length - x.1) (0,u3,q1,.slice (some ⟨b3,0,none⟩) 0 0,w4.heap.size,w5.heap.size,b3) Kg ?_ ?_
   ·exact ⟨by exact E7,Nat.le_refl _,Nat.zero_le _,hB3,hB2,hO2.rd.wide Ka Ka,hQ1.rd.wide Ka Ka,hO1.narrowS (fun q hq=>by simp [Value.ownBlock] at hq;omega),Ka,Ka,Ka,Ka,Ka,icu3,icq1⟩
   clear hB1 hB2 hB3 hO1 hO2 hQ1 k0 k1
   rintro ⟨k,v1,v2,va,lo,hi,qa⟩ ρj w8 ⟨E8,hsz,hk,hB3,hB2,hO1,hQ1,hA,hlo,hhi,hqa,hqa2,hqa3,ic1,ic2⟩
   have hal:=sayV_len d (l.take k)
   have hal2:(l.take k).length≤40:=by rw [List.length_take];omega
   by_cases hlt:k < l.length
   ·have hok:=sayV_ok hd (l.take k)
    have hsn:sayV d (l.take (k+1))=((lnV (sayV d (l.take k)).1 l[k]).1,(sayV d (l.take k)).2++[(lnV (sayV d (l.take k)).1 l[k]).2]):=by rw [Yd _ _ hlt,sayV_snoc]
    have hxk:=hx _ (List.getElem_mem hlt)
    have hln:=lnV_len hok l[k]
    have kD : ∀ (w:World),ESl Ints w v1 (sayV d (l.take k)).1.now→ESl (ESl Ints) w v2 (sayV d (l.take k)).1.past→Does Tryz.prog 14 [.agg #[v1,v2],str l[k]] w (RetDkRT w (lnV (sayV d (l.take k)).1 l[k]).1.now (lnV (sayV d (l.take k)).1 l[k]).1.past (lnV (sayV d (l.take k)).1 l[k]).2):=fun w h1 h2=>by
     have:=spec_DeskLine_ok w v1 v2 _ h1 h2 l[k] hxk
     rwa [show dlV (sayV d (l.take k)).1 l[k]=lnV (sayV d (l.take k)).1 l[k] from if_pos hok] at this
    have hAlt : ∀ q,va.ownBlock=some q→qa≤q∧q < qa+1:=fun q hq=>hA.lt_own hq
    have stop8:True:=trivial
    focus
     refine Zq<|Zp<|Zu Z<|Vb vl Z<|Vk Jd Z hl<|Vi Z<|Zn<|Zs Z (fun h5=>?_) (fun h5=>?_);refine Zv<|Zq<|Zw<|Zq ?_;rotate_left;(exfalso;omega)
    clear stop8
    have heldS:w8=w8:=rfl
    refine W_mid [31,32,33,34,35,36,30,37,38,9,10] (fun ((b9,x1,x2,lo',hi'):Nat × Value × Value × Nat × Nat)=>[(9,.pointer (some ⟨b9,0,none⟩)),(10,str (lnV (sayV d (l.take k)).1 l[k]).2)]) (fun (b9,x1,x2,lo',hi') w'=>Ext w8 w'∧Blk w' b9 [x1,x2]∧OwnedB lo' hi' (XRd (ESl Ints)) w' x1 (lnV (sayV d (l.take k)).1 l[k]).1.now∧OwnedB lo' hi' (XRd (ESl (ESl Ints))) w' x2 (lnV (sayV d (l.take k)).1 l[k]).1.past∧isCell x1=true∧isCell x2=true∧w8.heap.size≤lo'∧hi'≤w'.heap.size) ?_ ?_
    ·focus
      refine Rb (fun w'=>Ext w8 w') Xr Z Kb ?_;intro w9 E13 K2 hz2;have hs7:=E13.size;refine Yo (v:=.agg _) 0 Z Kb Kb Z (fun w' hw'=>opv_load2 Ks Ko Z (hB3.ext hw')) E13 ?_;refine WtmV 1 vl Z Z E13<|WtmI 2 Z Z E13<|Wh_get 3 4 Z Kb Kb Z Z Kb Kb (fun _=>Z) Jd Ku Kv Z hl (fun w' hw'=>Ext.trans E8 hw') Z Kf E13 ?_;rintro _ _ ⟨rfl,-⟩;refine Wha [5,9]<|Vu Z ?_ ?_;refine Zr Z (Yg (a:=.agg _) (b:=.string _) Tryz.call14 Z Z) (kD _ ((Mono.mono E13 (OwnedB.read hO1))) ((Mono.mono E13 (OwnedB.read hQ1)))) ?_;rintro _ w10 ⟨u4,q2,rfl,E14,hA1,hC1,icu4,icq2⟩;have hs8:=E14.size
      refine Wnx exq<|WtmU 6 Z Z exq<|WtxA 7 Z Z exq<|WtxT 8 Z Z exq<|Wha [9]<|Wh1 Z<|Yp Z Xf ?_;rintro b5 w11 hb5 E15 hB4;refine Wnx exq<|Wha [10]<|Wh1 Z<|Xj Z Ko Z Z Ke Ke hB4 Ka (((E8.trans E13).trans E14).trans E15) ?_;rintro w12 E16 hB4 K3 hz3;have E17:=((E13.trans E14).trans E15).wroteAt exq E16 K3 hz3 Ka;have E19:=E15.wroteAt exq E16 K3 hz3 Ka;have szE19:=E19.size;have hA1:=(hA1.ext E15).wrote K3 Ka;have hC1:=(hC1.ext E15).wrote K3 Ka;refine Wnx E17<|Uq 11 Z Z E17<|Yh Kb ?_;rotate_left;refine Wh1 Z<|Yp Z Xf ?_;rintro b5 w10 hb5 E14 hB4;have hlb5:=hB4.lt;have hs8:=E14.size
      refine Wnx exq<|Wha [5]<|Wh1 Z<|Zr Z (Yg (a:=.agg _) (b:=.string _) Tryz.call14 Z Z) (kD _ ((Mono.mono exq (OwnedB.read hO1))) ((Mono.mono exq (OwnedB.read hQ1)))) ?_;rintro _ w11 ⟨u4,q2,rfl,E15,hA1,hC1,icu4,icq2⟩;refine Wnx exq<|WtmU 6 Z Z exq<|WtxA 7 Z Z exq<|WtxT 8 Z Z exq<|Wha [10]<|Wh1 Z<|Xj Z Ko Z Z Ke Ke (hB4.ext E15) Ka (((E8.trans E13).trans E14).trans E15) ?_;rintro w12 E16 hB4 K3 hz3;have E17:=((E13.trans E14).trans E15).wroteAt exq E16 K3 hz3 Ka;have hA1:=hA1.wrote K3 Ka;have hC1:=hC1.wrote K3 Ka;refine Wnx E17<|Uq 11 Z Z E17<|Yh Kb ?_;rotate_left
     all_goals exact ⟨(b5,u4,q2,_,_),⟨rfl,rfl,trivial⟩,Kh,by repeat (first | assumption | refine Ext.trans Kd ?_),hB4,hA1,hC1,icu4,icq2,Ka,Ka⟩
    rintro ⟨b9,x1,x2,lo',hi'⟩ ρk w9 ⟨E9,hB9,hX1,hX2,icx1,icx2,hlo',hhi'⟩
    have hs9:=E9.size
    clear heldS kD
    focus
     refine Zp<|Xc Ks Ko hB9 Z<|Ui Ko (hB3.ext E9) Z (E8.trans E9) ?_;rintro w10 E13 hB3 K2 hz2;have hB2:=(hB2.ext E9).of_heap (K2 _ Ka);have hA:=(hA.ext E9).wrote K2 Ka;have hX1:=hX1.wrote K2 Ka;have hX2:=hX2.wrote K2 Ka;refine Zn<|Vf<|Vb va Z<|Vo Z<|Xm (ps:=[(0,.string _)]) (cs:=[_]) Z Jd Ku Zj Z Z Z Z ?_;rintro b5 w11 hb5 E14 hB4;have hlb5:=hB4.lt;refine Xh Z el34 Z Z hB4 (hA.ext E14) (Owned.str Kf) (Nat.le_refl _) Kf Ka Ka (E13.trans E14) Ka ?_;have hT1:=(hA.ext E14);rintro v3 w12 hA E15 M1;have hB3:=(hB3.ext E14).moves M1 hT1 Ka;have hB2:=(hB2.ext E14).moves M1 hT1 Ka
     have hX1:=(hX1.ext E14).moves M1 hT1 Ka;have hX2:=(hX2.ext E14).moves M1 hT1 Ka;have szM1:=M1.1.size;refine Yr v3 Z<|Zn<|Vf<|Zu Z<|Vr Z<|Vg Z<|Zn ?_
    rcases M1.2 with e | ⟨g,e,hg⟩
    ·refine ⟨(k+1,x1,x2,v3,lo',hi',qa),⟨Z,Z,trivial⟩,Kh,?_,Kj⟩
     simp only
     rw [hsn]
     exact ⟨by exact E15,Ka,Ka,hB3,hB2,hX1,hX2,hA.toB.narrowS (fun q hq=>hAlt q (e.symm.trans hq)),Ka,Ka,Ka,Ka,Ka,icx1,icx2⟩
    ·have hg2:=(hA.lt_own e).2
     refine ⟨(k+1,x1,x2,v3,lo',hi',g),⟨Z,Z,trivial⟩,Kh,?_,Kj⟩
     simp only
     rw [hsn]
     exact ⟨by exact E15,Ka,Ka,hB3,hB2,hX1,hX2,hA.toB.narrowS (fun q hq=>by rw [e] at hq;cases hq;omega),Ka,Ka,Ka,Ka,Ka,icx1,icx2⟩
   ·obtain rfl:k=l.length:=by omega
    rw [show sayV d l=sayV d (l.take l.length) by rw [List.take_length]]
    focus
     refine Zq<|Zp<|Zu Z<|Vb vl Z<|Vk Jd Z hl<|Vi Z<|Zn<|Zt Z fun h5=>?_;refine Vw ?_;refine Vd ?_;refine Zp<|Xc Ks Ko hB3 Z<|Vb va Z<|Ui Ko hB2 Z E8 ?_;rintro w9 E13 hB2 K2 hz2;have hO1:=hO1.wrote K2 Ka;have hQ1:=hQ1.wrote K2 Ka;have hA:=hA.wrote K2 Ka;refine Yr va Z<|Zn<|Zy ?_
    exact ⟨b2,v1,v2,rfl,hB2,v1,v2,va,rfl,by exact E13,hO1.wide Ka Ka,hQ1.wide Ka Ka,(hA.wide Ka (Nat.le_refl _)).o,ic1,ic2⟩
  ·rw [show dsV d l=(⟨[],[]⟩,[]) from if_neg fun h=>h40 h.2]
   focus
    refine Zp<|Yl Z Z Z ?_;rintro b1 w1 hb1 E1 hB1;have hlb1:=hB1.lt;refine Yp Z Xf ?_;rintro b2 w2 hb2 E2 hB2;have hlb2:=hB2.lt;have hs2:=E2.size;refine Ys Z<|Zn<|Zp<|Yz XStr Z el34 Ku ?_;rintro b3 w3 hb3 b3lt E3 hO1;refine Ys Z<|Zn<|Zq<|Zp<|Xc Ks Ko (hB1.ext exq) Z<|Zr Z (Vx (a:=.agg _) Gc Z) (k0 _ ((Mono.mono exq h1)) ((Mono.mono exq h2))) ?_;rintro _ w4 ⟨rfl,E4⟩;refine Ym Z<|Yn Z (Vq (v:=.bool _) Z) (fun h3=>?_) (fun h3=>?_);contradiction;refine Vb vl Z<|Vk Jd Z hl<|Qe Z<|Vp Z<|Zn<|Zs Z (fun h4=>?_) (fun h4=>?_)
    refine Zp<|Wo Z (Vs (ps:=[]) (cs:=[_,_]) Xf Z Z)<|Up Z<|Xj Z Ko Z Z Ke Ke (hB2.ext (E3.trans E4)) Ka (((E1.trans E2).trans E3).trans E4) ?_;rintro w5 E5 hB2 K1 hz1;have E6:=((E2.trans E3).trans E4).wroteAt exq E5 K1 hz1 Ka;have szE6:=E6.size;have hO1:=(hO1.toB.ext E4).wrote K1 Ka;refine Ys Z<|Zn<|Zy ?_;rotate_left;(exfalso;omega)
   exact ⟨b2,_,_,rfl,hB2,_,_,_,rfl,by exact E5,nil1 _ _ Ka,nil2 _ _ Ka,(hO1.wide Ka (Nat.le_refl _)).o,rfl,rfl⟩
 ·rw [show dsV d l=(⟨[],[]⟩,[]) from if_neg fun h=>hd h.1]
  have k0 : ∀ w,ESl Ints w u1 d.now→ESl (ESl Ints) w u2 d.past→Does Tryz.prog 16 [.agg #[u1,u2]] w (Ret w (.bool false)):=fun w h1 h2=>by
   have:=Rd w u1 u2 d h1 h2;rwa [decide_eq_false hd] at this
  focus
   refine Zp<|Yl Z Z Z ?_;rintro b1 w1 hb1 E1 hB1;have hlb1:=hB1.lt;refine Yp Z Xf ?_;rintro b2 w2 hb2 E2 hB2;have hlb2:=hB2.lt;have hs2:=E2.size;refine Ys Z<|Zn<|Zp<|Yz XStr Z el34 Ku ?_;rintro b3 w3 hb3 b3lt E3 hO1;refine Ys Z<|Zn<|Zq<|Zp<|Xc Ks Ko (hB1.ext exq) Z<|Zr Z (Vx (a:=.agg _) Gc Z) (k0 _ ((Mono.mono exq h1)) ((Mono.mono exq h2))) ?_;rintro _ w4 ⟨rfl,E4⟩;refine Ym Z<|Yn Z (Vq (v:=.bool _) Z) (fun h3=>?_) (fun h3=>?_);refine Zo Z<|Zo Z<|Zo Z<|Yq Z<|Zn<|Vv Z ?_
   refine Zp<|Wo Z (Vs (ps:=[]) (cs:=[_,_]) Xf Z Z)<|Up Z<|Xj Z Ko Z Z Ke Ke (hB2.ext (E3.trans E4)) Ka (((E1.trans E2).trans E3).trans E4) ?_;rintro w5 E5 hB2 K1 hz1;have E6:=((E2.trans E3).trans E4).wroteAt exq E5 K1 hz1 Ka;have szE6:=E6.size;have hO1:=(hO1.toB.ext E4).wrote K1 Ka;refine Ys Z<|Zn<|Zy ?_;rotate_left;contradiction
  exact ⟨b2,_,_,rfl,hB2,_,_,_,rfl,by exact E5,nil1 _ _ Ka,nil2 _ _ Ka,(hO1.wide Ka (Nat.le_refl _)).o,rfl,rfl⟩
theorem szIntSS2_ok (w:World) (v:Value) (p:List (List Int)) (h:ESl Ints w v p) (left:Int) (hl:0≤left∧left≤1048576) :
  Does Tryz.prog 80 [v,.int .i64 left] w (RetX w (Value.int .i64) (fun n _=>n = -1∨(0≤n∧n≤left - (total p:Nat)∧p.length≤1048576∧∀ r ∈ p,r.length≤1048576))):=by
 have hle:=h.le
 refine Vh Tryz.func80 Z Tryz.results80 Tryz.ntmps80 Z ?_
 focus
  refine Zp<|Vg Z<|Zn<|Zp<|Zu Z<|Vb v Z<|Vk Kp Z h<|Qm Z<|Vg Z<|Zn<|Zq<|Zp<|Zu Z<|Vi Z<|Zn<|Zs Z (fun h1=>?_) (fun h1=>?_);refine Zq<|Vf<|Vg Z<|Zn<|Zy ?_;refine Ve (v:=.int _ _) Z ?_;refine ⟨(Ext.refl _),_,Z,?_⟩;(try dsimp only);rotate_left;refine Zv<|Zq<|Zp<|Vg Z<|Zn<|Zw ?_;rotate_left
 ·exact .inl rfl
 refine Vy [1,4,5,12,13,14,15,16,17,18,19,20,21,22,23,24,25] (fun (k,l)=>[(5,.int .i64 (k:Nat)),(1,.int .i64 (l:Int))]) (fun (k,l) w'=>Ext w w'∧k≤p.length∧0≤l∧l=left - p.length - (total (p.take k):Nat)) (fun x=>p.length - x.1) (0,left - p.length) Kg ?_ ?_
 ·exact ⟨Ext.refl _,Nat.zero_le _,Ka,by simp [total]⟩
 rintro ⟨k,l⟩ ρj w1 ⟨E1,hk,h0,h1⟩
 focus
  refine Zq<|Zp<|Zu Z<|Vb v Z<|Vk Kp Z h<|Vi Z<|Zn<|Zs Z (fun h2=>?_) (fun h2=>?_);refine Zv<|Zq<|Zw<|Zp<|Vb v Z<|Zu Z<|Yb Kp Kt Kz Z (fun _=>Z) Z h E1 Z Kf ?_;rintro _ u1 hu1;refine Zu Z<|Zr Z (Yg (a:=u1) (b:=.int _ _) Tryz.call133 Z Z) (szIntS_ok _ _ _ ((Mono.mono E1 hu1)) _ Ka) ?_;rintro _ w2 ⟨E2,y1,rfl,hy1⟩;refine Vg Z<|Zn<|Zp<|Zu Z<|Vi Z<|Zn<|Zs Z (fun h3=>?_) (fun h3=>?_);refine Zp<|Vg Z<|Zn<|Zy ?_;refine Ve (v:=.int _ _) Z ?_;refine ⟨exq,_,Z,?_⟩;(try dsimp only);rotate_left;refine Zv<|Vf<|Zu Z<|Vr Z<|Vg Z<|Zn ?_;rotate_left;refine Vw ?_
  refine Vd ?_;refine Zp<|Zu Z<|Vg Z<|Zn<|Zy ?_;refine Ve (v:=.int _ _) Z ?_;refine ⟨E1,_,Z,?_⟩;(try dsimp only);rotate_left
 ·exact .inl rfl
 ·refine ⟨((k+1,y1)),Kg,Kh,?_,?_⟩
  ·refine ⟨E1.trans E2,Ka,Ka,?_⟩
   rw [total_ge _ Ka]
   rcases hy1 with h9 | h9
   ·omega
   ·omega
  ·simp only;omega
 ·obtain rfl:k=p.length:=by omega
  rw [List.take_length] at h1
  exact .inr ⟨Ka,Ka,Ka,fun r hr=>by have:=len_le_total hr;omega⟩
theorem szIntSSS2_ok (w:World) (v:Value) (p:List (List (List Int))) (h:ESl (ESl Ints) w v p) (left:Int) (hl:0≤left∧left≤1048576) :
  Does Tryz.prog 81 [v,.int .i64 left] w (RetX w (Value.int .i64) (fun n _=>n = -1∨(0≤n∧n≤left - (total3 p:Nat)∧p.length≤1048576∧∀ q ∈ p,q.length≤1048576∧∀ r ∈ q,r.length≤1048576))):=by
 have hle:=h.le
 refine Vh Tryz.func81 Z Tryz.results81 Tryz.ntmps81 Z ?_
 focus
  refine Zp<|Vg Z<|Zn<|Zp<|Zu Z<|Vb v Z<|Vk Jc Z h<|Qm Z<|Vg Z<|Zn<|Zq<|Zp<|Zu Z<|Vi Z<|Zn<|Zs Z (fun h1=>?_) (fun h1=>?_);refine Zq<|Vf<|Vg Z<|Zn<|Zy ?_;refine Ve (v:=.int _ _) Z ?_;refine ⟨(Ext.refl _),_,Z,?_⟩;(try dsimp only);rotate_left;refine Zv<|Zq<|Zp<|Vg Z<|Zn<|Zw ?_;rotate_left
 ·exact .inl rfl
 refine Vy [1,4,5,12,13,14,15,16,17,18,19,20,21,22,23,24,25] (fun (k,l)=>[(5,.int .i64 (k:Nat)),(1,.int .i64 (l:Int))]) (fun (k,l) w'=>Ext w w'∧k≤p.length∧p.length≤1048576∧0≤l∧l≤left - (total3 (p.take k):Nat)∧∀ q ∈ p.take k,q.length≤1048576∧∀ r ∈ q,r.length≤1048576) (fun x=>p.length - x.1) (0,left - p.length) Kg ?_ ?_
 ·exact ⟨Ext.refl _,Nat.zero_le _,Ka,Ka,by simp [total3];omega,Ki⟩
 rintro ⟨k,l⟩ ρj w1 ⟨E1,hk,hp1,h0,h1,h3⟩
 focus
  refine Zq<|Zp<|Zu Z<|Vb v Z<|Vk Jc Z h<|Vi Z<|Zn<|Zs Z (fun h2=>?_) (fun h2=>?_);refine Zv<|Zq<|Zw<|Zp<|Vb v Z<|Zu Z<|Yb Jc Ja Kw Z (fun _=>Z) Z h E1 Z Kf ?_;rintro _ u1 hu1;refine Zu Z<|Zr Z (Yg (a:=u1) (b:=.int _ _) Tryz.call80 Z Z) (szIntSS2_ok _ _ _ ((Mono.mono E1 hu1)) _ Ka) ?_;rintro _ w2 ⟨E2,y1,rfl,hy1⟩;refine Vg Z<|Zn<|Zp<|Zu Z<|Vi Z<|Zn<|Zs Z (fun h4=>?_) (fun h4=>?_);refine Zp<|Vg Z<|Zn<|Zy ?_;refine Ve (v:=.int _ _) Z ?_;refine ⟨exq,_,Z,?_⟩;(try dsimp only);rotate_left;refine Zv<|Vf<|Zu Z<|Vr Z<|Vg Z<|Zn ?_;rotate_left;refine Vw ?_
  refine Vd ?_;refine Zp<|Zu Z<|Vg Z<|Zn<|Zy ?_;refine Ve (v:=.int _ _) Z ?_;refine ⟨E1,_,Z,?_⟩;(try dsimp only);rotate_left
 ·exact .inl rfl
 ·refine ⟨((k+1,y1)),Kg,Kh,?_,?_⟩
  ·rcases hy1 with h9 | ⟨h9,h10,h11,h13⟩
   ·omega
   ·refine ⟨E1.trans E2,Ka,Ka,Ka,?_,fun q hq=>?_⟩
    ·rw [total3_ge _ Ka];omega
    ·rw [Yd _ _ Ka] at hq
     rcases List.mem_append.1 hq with hq | hq
     ·exact h3 q hq
     ·rw [List.mem_singleton.1 hq];exact ⟨h11,h13⟩
  ·simp only;omega
 ·obtain rfl:k=p.length:=by omega
  rw [List.take_length] at h1 h3
  exact .inr ⟨Ka,Ka,Ka,h3⟩
theorem szDesk_ok (w:World) (u1 u2:Value) (p:List (List Int)) (pp:List (List (List Int))) (h1:ESl Ints w u1 p) (h2:ESl (ESl Ints) w u2 pp) (left:Int) (hl:0≤left∧left≤1048576) :
  Does Tryz.prog 25 [.agg #[u1,u2],.int .i64 left] w (RetX w (Value.int .i64) (fun z _=>z = -1∨(0≤z∧z≤left - (total p:Nat) - (total3 pp:Nat)∧p.length≤1048576∧(∀ r ∈ p,r.length≤1048576)∧pp.length≤1048576∧∀ q ∈ pp,q.length≤1048576∧∀ r ∈ q,r.length≤1048576))):=by
 have icu1:isCell u1=true:=Uu h1
 have icu2:isCell u2=true:=Uu h2
 refine Vh Tryz.func25 Z Tryz.results25 Tryz.ntmps25 Z ?_
 focus
  refine Zp<|Yl Z Z Z ?_;rintro b1 w1 hb1 E1 hB1;refine Vg Z<|Zn<|Zq<|Vf<|Vn Zm Ja Z<|Yu u1 Kw hB1 Z<|Zu Z<|Zr Z (Yg (a:=u1) (b:=.int _ _) Tryz.call80 Z Z) (szIntSS2_ok _ _ _ ((Mono.mono E1 h1)) _ Kd) ?_;rintro _ w2 ⟨E2,y1,rfl,hy1⟩;refine Vg Z<|Zn<|Zq<|Zp<|Zu Z<|Vi Z<|Zn<|Zs Z (fun h3=>?_) (fun h3=>?_);refine Zp<|Vg Z<|Zn<|Zy ?_;refine Ve (v:=.int _ _) Z ?_;refine ⟨exq,_,Z,?_⟩;(try dsimp only);rotate_left;refine Zv<|Zp<|Vn Zm Jb Z<|Yu u2 Jf (hB1.ext E2) Z<|Zu Z<|Zr Z (Yg (a:=u2) (b:=.int _ _) Tryz.call81 Z Z) (szIntSSS2_ok _ _ _ ((Mono.mono exq h2)) _ Ka) ?_
  rintro _ w3 ⟨E3,y2,rfl,hy2⟩;refine Vg Z<|Zn<|Zq<|Zp<|Zu Z<|Vi Z<|Zn<|Zs Z (fun h4=>?_) (fun h4=>?_);refine Zp<|Vg Z<|Zn<|Zy ?_;refine Ve (v:=.int _ _) Z ?_;refine ⟨exq,_,Z,?_⟩;(try dsimp only);rotate_left;refine Zv<|Zp<|Zu Z<|Vg Z<|Zn<|Zy ?_;refine Ve (v:=.int _ _) Z ?_;refine ⟨exq,_,Z,?_⟩;(try dsimp only);rotate_left
 ·exact .inl rfl
 ·exact .inl rfl
 ·rcases hy1 with h9 | ⟨h9,h10,h11,h12⟩
  ·omega
  rcases hy2 with h8 | ⟨h8,h13,h14,h15⟩
  ·omega
  exact .inr ⟨Ka,Ka,h11,h12,h14,h15⟩
theorem toDesk_ok (w:World) (u1 u2:Value) (p:List (List Int)) (pp:List (List (List Int))) (h1:ESl Ints w u1 p) (h2:ESl (ESl Ints) w u2 pp) (hp:p.length≤1048576∧∀ r ∈ p,r.length≤1048576) (hl:pp.length≤1048576) (hq : ∀ q ∈ pp,q.length≤1048576∧∀ r ∈ q,r.length≤1048576) :
  Does Tryz.prog 27 [.agg #[u1,u2]] w (RetDk w 23 88 3 p pp):=by
 have icu1:isCell u1=true:=Uu h1
 have icu2:isCell u2=true:=Uu h2
 have k1:=fun (w:World) (h:ESl Ints w u1 p)=>toIntSS_ok w u1 p h hp.1 hp.2
 have k2:=fun (w:World) (h:ESl (ESl Ints) w u2 pp)=>toIntSSS_ok w u2 pp h hl hq
 refine fn_of_Wc Tryz.func27 Z Tryz.results27 Tryz.ntmps27 Z Ks Ko ?_
 focus
  refine Zp<|Yl Z Z Z ?_;rintro b1 w1 hb1 E1 hB1;have hlb1:=hB1.lt;refine Yp Z Xf ?_;rintro b2 w2 hb2 E2 hB2;have hlb2:=hB2.lt;refine Zn<|Zp<|Yp Z Xf ?_;rintro b3 w3 hb3 E3 hB3;have hlb3:=hB3.lt;have hs3:=E3.size;refine Zn<|Zq<|Vf<|Vn Zm Ja Z<|Yu u1 Kw (hB1.ext exq) Z<|Zr Z (Vx (a:=u1) Tryz.call82 Z) (k1 _ ((Mono.mono exq h1))) ?_;rintro u3 w4 ⟨E4,hO1⟩;have ichO1:=OwnedB.isC (Owned.toB hO1);have hs4:=E4.size;refine Vn Ky Ja Z<|Xk (v:=u3) Z Ja Z Z (OwnedB.isC hO1.toB) (hB3.ext E4) Kc Ka (((E1.trans E2).trans E3).trans E4) ?_;rintro w5 E5 hB3 K1 hz1;have E6:=((E2.trans E3).trans E4).wroteAt exq E5 K1 hz1 Ka;have szE6:=E6.size;simp only [List.set] at hB3
  have hB1:=(hB1.ext exq).of_heap (K1 _ Ka);have hB2:=(hB2.ext exq).of_heap (K1 _ Ka);have hO1:=hO1.toB.wrote K1 Ka;refine Zn<|Zp<|Vn Zm Jb Z<|Yu u2 Jf hB1 Z<|Zr Z (Vx (a:=u2) Tryz.call83 Z) (k2 _ ((Mono.mono E5 h2))) ?_;rintro u4 w6 ⟨E8,hO2⟩;have ichO2:=OwnedB.isC (Owned.toB hO2);have hs5:=E8.size;refine Vn Ky Jb Z<|Xk (v:=u4) Z Jb Z Z (OwnedB.isC hO2.toB) (hB3.ext E8) Ki Ka (E5.trans E8) ?_;rintro w7 E9 hB3 K2 hz2;simp only [List.set] at hB3;have hB2:=(hB2.ext E8).of_heap (K2 _ Ka);have hO1:=(hO1.ext E8).wrote K2 Ka;have hO2:=hO2.toB.wrote K2 Ka;refine Zn<|Zp<|Xc Ks Ko hB3 Z<|Ui Ko hB2 Z E9 ?_;rintro w8 E12 hB2 K3 hz3
  have hO1:=hO1.wrote K3 Ka;have hO2:=hO2.wrote K3 Ka;refine Zn<|Zy ?_
 exact ⟨b2,_,_,rfl,hB2,_,_,w4.heap.size,rfl,by exact E12,hO1.wide Ka (Nat.le_refl _),hO2.o.mono Ka,Ka,Ka⟩
theorem dk_total {d:Dsk} (h:DkOk d):total d.now≤25∧total3 d.past≤200∧d.now.length≤5∧∀ q ∈ d.past,q.length≤5:=by
 have h3 : ∀ (l:List (List (List Int))),(∀ q ∈ l,Pic q)→total3 l≤l.length*25:=by
  intro l
  induction l with
  | nil=>intro _;simp [total3]
  | cons q l ih =>
    intro h
    have h1 := ih (fun x hx => h x (List.mem_cons_of_mem _ hx))
    have h2 := pic_total (h q (List.mem_cons_self ..))
    simp only [total3, List.length_cons]
    omega
 refine ⟨pic_total h.1.1,?_,h.1.1.2.1,fun q hq=>(h.2.2 q hq).1.2.1⟩
 have:=h3 d.past (fun q hq=>(h.2.2 q hq).1)
 have:=h.2.1
 omega
def mDig (n:Nat) (o:List UInt8):List UInt8:=if h:n=0 then o else mDig (n / 10) (UInt8.ofNat (48+n % 10)::o)
termination_by n
decreasing_by omega
theorem mDig_zero (o:List UInt8):mDig 0 o=o:=by rw [mDig];simp
theorem mDig_pos {n:Nat} (h:0 < n) (o:List UInt8):mDig n o=mDig (n / 10) (UInt8.ofNat (48+n % 10)::o):=by
 rw [mDig,dif_neg Ka]
def mtx (k:Int):List UInt8:=if k≤0 then [109,48] else 109::mDig k.toNat []
theorem mDig_len : ∀ (n m:Nat) (o:List UInt8),n≤m→(mDig n o).length≤o.length+n:=by
 intro n m
 induction m generalizing n with
 | zero => intro o h; obtain rfl : n = 0 := by omega
           rw [mDig_zero]; omega
 | succ m ih =>
   intro o h
   rcases Nat.eq_zero_or_pos n with rfl | hp
   · rw [mDig_zero]; omega
   · rw [mDig_pos hp]
     have := ih (n / 10) (UInt8.ofNat (48 + n % 10) :: o) Ka
     simp only [List.length_cons] at this; omega
theorem mtx_len {k:Int} (h:k≤9223372036854):(mtx k).length≤9223372036855:=by
 unfold mtx
 split
 ·simp
 ·have:=mDig_len k.toNat _ [] (Nat.le_refl _)
  simp only [List.length_nil,Nat.zero_add] at this
  simp only [List.length_cons];omega
theorem markText_ok (w:World) (k:Int) (hk:k≤9223372036854):Does Tryz.prog 88 [.int .i64 k] w (Ret w (str (mtx k))):=by
 by_cases h0:k≤0
 ·refine Vh Tryz.func88 Z Tryz.results88 Tryz.ntmps88 Z ?_
  focus
   refine Zp<|Yj Z<|Zn<|Zq<|Zp<|Zu Z<|Wsleq Z<|Zn<|Zs Z (fun h1=>?_) (fun h1=>?_);refine Zp<|Yj Z<|Zn<|Zy ?_;refine Ve (v:=.string _) Z ?_;refine ⟨congrArg str ?_,(Ext.refl _)⟩;rotate_left;contradiction
  rw [mtx,if_pos Kd]
 obtain ⟨K,rfl⟩:=Int.eq_ofNat_of_zero_le (show 0≤k by omega)
 refine Vh Tryz.func88 Z Tryz.results88 Tryz.ntmps88 Z ?_
 focus
  refine Zp<|Yj Z<|Zn<|Zq<|Zp<|Zu Z<|Wsleq Z<|Zn<|Vj Z fun h1=>?_;refine Zv<|Zp<|Yj Z<|Zn<|Zq<|Zw ?_
 refine Vy [0,3,6,7,8,9,10,11,12,13,14,15,16,17] (fun ((n,o):Nat × List UInt8)=>[(0,.int .i64 (n:Nat)),(3,str o)]) (fun (n,o) w'=>Ext w w'∧o.length+n≤K∧mDig n o=mDig K []) (fun x=>x.1) (K,[]) Kg ?_ ?_
 ·exact ⟨by first | assumption | exact Ext.refl _,Ki,rfl⟩
 rintro ⟨n,o⟩ ρj w2 ⟨E2,hlen,hm⟩
 by_cases hn:0 < n
 ·focus
   refine Zq<|Zp<|Zu Z<|Qe Z<|Zn<|Zs Z (fun h2=>?_) (fun h2=>?_);refine Zv<|Zw<|Zp<|Zu Z<|Wo Z (opv_rem Z Z Ka) ?_;refine Vr Z<|Wo Z (opv_conv_u8 Gd Jw Z Ka) ?_;refine Ye (ps:=[(0,.int _ _)]) (cs:=[_]) Z Gl Ga Tryz.zeroValue5 Z Z Z Z ?_;rintro b1 w1 hb1 E1 hB1 hHb1;refine Wo Z (Td Gl Jw Kr Z Kd) ?_;refine Vo Z<|Wo Z (Xw Z Z (by simp <;> omega)) ?_;refine Yj Z<|Zn<|Vf<|Zu Z<|Wo Z (opv_quo Z Z Ka) ?_;refine Vg Z<|Zn ?_;rotate_left;(exfalso;omega)
  refine ⟨((n / 10,UInt8.ofNat (48+n % 10)::o)),Kg,Kh,?_,?_⟩
  ·refine ⟨E2.trans Kd,by simp;omega,?_⟩
   rw [← mDig_pos hn,hm]
  ·simp only;omega
 ·focus
   refine Zq<|Zp<|Zu Z<|Qe Z<|Zn<|Zt Z fun h2=>?_;refine Vw ?_;refine Vd ?_;refine Zp<|Vo Z<|Wo Z (Xw Z Z (by simp <;> omega)) ?_;refine Yj Z<|Zn<|Zy ?_;refine Ve (v:=.string _) Z ?_;refine ⟨congrArg str ?_,E2⟩
  obtain rfl:n=0:=Ka
  rw [mtx,if_neg h0,Int.toNat_natCast,← hm,mDig_zero]
  rfl
end Go.Proofs.YtbgpppaljpngmaaGreatDoor
set_option linter.unusedVariables false
namespace Go.Hs
section
variable {P:Program} {n:Nat} {N:Env→World→Prop} {ρ : Env} {w:World} {all:Array Oper} {rest:List Oper} {d:Nat} {t e ty:TypeId} {x:Operand} {k:IntKind} {pos:String} {after:Array Edge} {g:Option (Nat × Bool)}
theorem Wo_makeS (hw:wantedE all ⟨some d,.makeSlice t x x,ty,pos,after,g⟩ ρ = true) (hel:El P t e (str [])) {m:Nat} (hx:evalE ρ x=.int k (m:Int)) (ha:m≤1099511627776)
  (hk : ∀ b w1,w.heap.size≤b→b < w1.heap.size→Ext w w1→Owned w.heap.size (XSl e XStr) w1 (.slice (some ⟨b,0,none⟩) m m) (List.replicate m [])→Wops P n all rest N (upd ρ d (.slice (some ⟨b,0,none⟩) m m)) w1) :
  Wops P n all (⟨some d,.makeSlice t x x,ty,pos,after,g⟩::rest) N ρ w:=Wo_make hw hel hx ha (fun _=>⟨rfl,rfl,Kc⟩) hk
end
theorem ESl.strs_len {w:World} {v:Value} {l:List (List UInt8)} {k:Nat} (h:ESl EStr w v l) (hk:k < l.length):l[k].length≤9223372036854775807:=by
 obtain ⟨a,c,rfl,_,rfl | ⟨b,o,_,h2⟩⟩:=h
 ·simp at hk
 ·obtain ⟨x,_,hx⟩:=h2 k hk
  exact hx.2
theorem ansB {e:TypeId} {s t lo hi:Nat} {w:World} {v:Value} {l:List (List UInt8)} (h:OwnedB s t (XSl e XStr) w v l) (hs:s≤lo) (hz:s≤t) (hq : ∀ q,v.ownBlock=some q→q < lo∨hi≤q) :
  ∃ la ha,OwnedB la ha (XSl e XStr) w v l∧s≤la∧la≤ha∧ha≤t∧(ha≤lo∨hi≤la):=by
 cases hv:v.ownBlock with
 | none=>exact ⟨s,s,h.narrowS (fun q h=>by rw [hv] at h;cases h),Nat.le_refl _,Nat.le_refl _,hz,.inl hs⟩
 | some q =>
   have h1 : s ≤ q ∧ q < t := by
     obtain ⟨fp, _, hb, cs, fps, _, rfl, _⟩ := id h
     exact hb q (by simp [hv])
   have h2 := hq q hv
   exact ⟨q, q + 1, h.narrowS (fun q' h => by rw [hv] at h; cases h; omega), h1.1, Ka, Ka, Ka⟩
end Go.Hs
namespace Go.Proofs.YtbgpppaljpngmaaGreatDoor
open Go.Hs
set_option maxRecDepth 10000
set_option maxHeartbeats 4000000
set_option linter.unusedVariables false
set_option linter.unusedSimpArgs false
theorem szStringS_ok (w:World) (v:Value) (l:List (List UInt8)) (h:ESl EStr w v l) (left:Int) (hl:0≤left∧left≤1048576) :
  Does Tryz.prog 26 [v,.int .i64 left] w (RetX w (Value.int .i64) (fun n _=>n = -1∨(0≤n∧l.length≤1048576∧∀ s ∈ l,s.length≤1048576))):=by
 have hle:=h.le
 refine Vh Tryz.func26 Z Tryz.results26 Tryz.ntmps26 Z ?_
 focus
  refine Zp<|Vg Z<|Zn<|Zp<|Zu Z<|Vb v Z<|Vk Jd Z h<|Qm Z<|Vg Z<|Zn<|Zq<|Zp<|Zu Z<|Vi Z<|Zn<|Zs Z (fun h1=>?_) (fun h1=>?_);refine Zq<|Vf<|Vg Z<|Zn<|Zy ?_;refine Ve (v:=.int _ _) Z ?_;refine ⟨(Ext.refl _),_,Z,?_⟩;(try dsimp only);rotate_left;refine Zv<|Zq<|Zp<|Vg Z<|Zn<|Zw ?_;rotate_left
 ·exact .inl rfl
 refine Vy [1,4,5,12,13,14,15,16,17,18,19,20,21,22,23,24,25,26] (fun ((k,z):Nat × Int)=>[(5,.int .i64 (k:Nat)),(1,.int .i64 (z:Int))]) (fun (k,z) w'=>Ext w w'∧k≤l.length∧0≤z∧z≤left∧∀ s ∈ l.take k,s.length≤1048576) (fun x=>l.length - x.1) (0,left - l.length) Kg ?_ ?_
 ·exact ⟨Ext.refl _,Nat.zero_le _,Ka,Ka,fun s hs=>by cases hs⟩
 rintro ⟨k,z⟩ ρj w1 ⟨E1,hk,h0,h1,h2⟩
 by_cases hkl:k < l.length
 ·have hsn:=Yd _ _ hkl
  have hxl:l[k].length≤9223372036854775807:=h.strs_len hkl
  focus
   refine Zq<|Zp<|Zu Z<|Vb v Z<|Vk Jd Z h<|Vi Z<|Zn<|Zs Z (fun h3=>?_) (fun h3=>?_);refine Zv<|Zq<|Zw<|Zp<|Zu Z<|Vb v Z<|Zu Z<|Yb Jd Ku Kv Z (fun _=>Z) Z h E1 Z Kf ?_;rintro _ _ ⟨rfl,-⟩;refine Wo Z (Yc Kr Z)<|Qm Z<|Vg Z<|Zn<|Zp<|Zu Z<|Vi Z<|Zn<|Zs Z (fun h4=>?_) (fun h4=>?_);refine Zp<|Vg Z<|Zn<|Zy ?_;refine Ve (v:=.int _ _) Z ?_;refine ⟨E1,_,Z,?_⟩;(try dsimp only);rotate_left;refine Zv<|Vf<|Zu Z<|Vr Z<|Vg Z<|Zn ?_;rotate_left;(exfalso;omega)
  ·exact .inl rfl
  ·refine ⟨((k+1,z - (l[k].length:Nat))),Kg,Kh,?_,?_⟩
   ·refine ⟨by exact E1,Ka,Ka,Ka,?_⟩
    rw [hsn]
    intro s hs
    rcases List.mem_append.1 hs with hs | hs
    ·exact h2 s hs
    ·obtain rfl:=List.mem_singleton.1 hs
     omega
   ·simp only;omega
 ·obtain rfl:k=l.length:=by omega
  rw [List.take_length] at h2
  focus
   refine Zq<|Zp<|Zu Z<|Vb v Z<|Vk Jd Z h<|Vi Z<|Zn<|Zt Z fun h3=>?_;refine Vw ?_;refine Vd ?_;refine Zp<|Zu Z<|Vg Z<|Zn<|Zy ?_;refine Ve (v:=.int _ _) Z ?_;refine ⟨E1,_,Z,?_⟩;(try dsimp only)
  exact .inr ⟨Ka,Ka,h2⟩
theorem toStringS_ok (w:World) (v:Value) (l:List (List UInt8)) (h:ESl EStr w v l) (hl:l.length≤1048576) (hx : ∀ s ∈ l,s.length≤1048576):Does Tryz.prog 28 [v] w (RetO w XS l):=by
 refine Vh Tryz.func28 Z Tryz.results28 Tryz.ntmps28 Z ?_
 focus
  refine Zp<|Ys Z<|Zn<|Zp<|Vb v Z<|Vk Jd Z h<|Wo_makeS Z el34 Z Ka ?_;rintro b1 w1 hb1 b1lt E1 hO1;refine Ys Z<|Zn<|Zq<|Zp<|Vg Z<|Zn<|Zw ?_
 refine Vy [4,8,9,10,11,12,13,14,15,16,17,18,19,20] (fun (k:Nat)=>[(4,.int .i64 (k:Nat))]) (fun k w'=>Ext w w'∧k≤l.length∧Owned w.heap.size XS w' (.slice (some ⟨b1,0,none⟩) l.length l.length) (l.take k++List.replicate (l.length - k) [])) (fun x=>l.length - x) 0 Kg ?_ ?_
 ·exact ⟨Kd,Nat.zero_le _,by simpa using hO1⟩
 rintro k ρj w2 ⟨E2,hk,hO2⟩
 by_cases hkl:k < l.length
 ·have hxk:=hx _ (List.getElem_mem hkl)
  focus
   have szE2:=E2.size;refine Zq<|Zp<|Zu Z<|Vb v Z<|Vk Jd Z h<|Vi Z<|Zn<|Zs Z (fun h1=>?_) (fun h1=>?_);refine Zv<|Zq<|Zw<|Vf<|Up Z<|Zu Z<|Vb v Z<|Zu Z<|Yb Jd Ku Kv Z (fun _=>Z) Z h E2 Z Kf ?_;rintro _ _ ⟨rfl,-⟩;refine Wo Z (Yv Jd Ku Z Z Ka) ?_;refine Nb Z Ku Z Z hO2.toB Kf (Owned.str Kf) (Nat.le_refl _) Ka ?_;rintro w3 hO2 On1 K1 hz1;have E3:=On1.ext1 E2 Ka;refine Zn<|Vf<|Zu Z<|Vr Z<|Vg Z<|Zn ?_;rotate_left;(exfalso;omega)
  refine ⟨(k+1),Kg,Kh,?_,?_⟩
  ·refine ⟨Kd,Ka,?_⟩
   rw [← Ns _ _ Ka];simpa using hO2
  ·omega
 ·obtain rfl:k=l.length:=by omega
  focus
   refine Zq<|Zp<|Zu Z<|Vb v Z<|Vk Jd Z h<|Vi Z<|Zn<|Zt Z fun h1=>?_;refine Vw ?_;refine Vd ?_;refine Zq<|Vf<|Up Z<|Ys Z<|Zn<|Zy ?_;refine ⟨E2,(congrArg (Owned _ _ _ _) ?_).mp (hO2.toB.o.mono Ka)⟩
  simp
theorem eqStringS_ok (w:World) (v u:Value) (l:List (List UInt8)) (h:ESl EStr w v l) (h':ESl EStr w u l):Does Tryz.prog 30 [v,u] w (Ret w (.bool true)):=by
 have hle:=h.le
 refine Vh Tryz.func30 Z Tryz.results30 Tryz.ntmps30 Z ?_
 focus
  refine Zp<|Zz Z<|Zn<|Zq<|Zp<|Vb v Z<|Vk Jd Z h<|Vb u Z<|Vk Jd Z h'<|Xo Z<|Zn<|Uv Z fun h1=>?_;refine Zv<|Zq<|Zp<|Vg Z<|Zn<|Zw ?_
 refine Vy [4,5,11,12,13,14,15,16,17,18,19,20,21,22,23,24,25] (fun (k:Nat)=>[(5,.int .i64 (k:Nat))]) (fun k w'=>Ext w w'∧k≤l.length) (fun x=>l.length - x) 0 Kg ?_ ?_
 ·exact ⟨by exact (Ext.refl _),Nat.zero_le _⟩
 rintro k ρj w1 ⟨E1,hk⟩
 focus
  refine Zq<|Zp<|Zu Z<|Vb v Z<|Vk Jd Z h<|Vi Z<|Zn<|Zs Z (fun h2=>?_) (fun h2=>?_);refine Zv<|Zq<|Zw<|Zq<|Xx Xr Kb Z ?_;refine Qj v Z<|Rf Z<|Xn Jd Ku Kv Z (fun _=>Z) Z h E1 Z Kf ?_;rintro _ _ ⟨rfl,-⟩;refine Qj u Z<|Rf Z<|Xn Jd Ku Kv Z (fun _=>Z) Z h' E1 Z Kf ?_;rintro _ _ ⟨rfl,-⟩;refine Xs Z (fun _ _=>Xb Z Z) ?_;refine Xu (fun w2 E2=>?_);refine Uv Z fun h3=>?_;refine Zv<|Vf<|Zu Z<|Vr Z<|Vg Z<|Zn ?_;rotate_left;refine Vw ?_;refine Vd ?_;refine Zp<|Zz Z<|Zn<|Zy ?_
  exact ⟨rfl,E1⟩
 refine ⟨(k+1),Kg,Kh,?_,?_⟩
 ·exact ⟨by exact (E1.trans E2),Ka⟩
 ·omega
def mkS (k0:Int) (n:Nat):List (List UInt8):=(List.range n).map fun (i:Nat)=>mtx (k0+(i:Int))
theorem mkS_len (k0:Int) (n:Nat):(mkS k0 n).length=n:=by simp [mkS]
theorem mkS_at {k0:Int} {n k:Nat} (h:k < (mkS k0 n).length):(mkS k0 n)[k]=mtx (k0+(k:Int)):=by simp [mkS]
theorem mkS_set {k0:Int} {l:List (List UInt8)} {k:Nat} (h:k < l.length):(mkS k0 k++l.drop k).set k (mtx (k0+(k:Int)))=mkS k0 (k+1)++l.drop (k+1):=by
 rw [List.set_append_right _ _ (by rw [mkS_len];omega),mkS_len,Nat.sub_self,List.drop_eq_getElem_cons h,List.set_cons_zero]
 simp [mkS,List.range_succ]
theorem markStringS_ok (w:World) {lo hi:Nat} (v:Value) (l:List (List UInt8)) (h:OwnedB lo hi XS w v l) (k0:Int) (hk0:0≤k0∧k0≤4194304) (hn:l.length≤1048576) :
  Does Tryz.prog 32 [v,.int .i64 k0] w (RetSO lo hi w (.int .i64 (k0+(l.length:Int))) XS v (mkS k0 l.length)):=by
 by_cases h0:l=[]
 ·subst h0
  refine Vh Tryz.func32 Z Tryz.results32 Tryz.ntmps32 Z ?_
  focus
   refine Zp<|Vg Z<|Zn<|Zq<|Zp<|Vg Z<|Zn<|Zw ?_
  refine Vy [1,5,6,7,8,9,10,11,12,13,14,15,16,17,18] (fun (k:Nat)=>[(5,.int .i64 (k:Nat)),(1,.int .i64 k0)]) (fun k w'=>w'=w∧k=0) (fun x=>0) 0 Kg ?_ ?_
  ·exact ⟨rfl,rfl⟩
  rintro k ρj w1 ⟨rfl,rfl⟩
  focus
   refine Zq<|Zp<|Zu Z<|Vb v Z<|Vk Jd Z (OwnedB.read h)<|Vi Z<|Zn<|Vj Z fun h1=>?_;refine Vw ?_;refine Vd ?_;refine Zp<|Zu Z<|Vg Z<|Zn<|Zy ?_;refine Ve (v:=.int _ _) Z ?_
  exact ⟨Ki,Span.refl,h⟩
 obtain ⟨b,c,rfl,hc⟩:=h.o.lit (List.length_pos_iff.2 h0)
 have hb:lo≤b∧b < hi:=by
  obtain ⟨fp,h1,h2,cs,fps,h3,rfl,h5⟩:=h
  exact h2 b (by simp [Value.ownBlock])
 refine Vh Tryz.func32 Z Tryz.results32 Tryz.ntmps32 Z ?_
 focus
  refine Zp<|Vg Z<|Zn<|Zq<|Zp<|Vg Z<|Zn<|Zw ?_
 refine Vy [1,5,6,7,8,9,10,11,12,13,14,15,16,17,18] (fun ((k,m):Nat × Int)=>[(5,.int .i64 (k:Nat)),(1,.int .i64 (m:Int))]) (fun (k,m) w'=>Span lo hi w w'∧k≤l.length∧m=k0+(k:Int)∧OwnedB lo hi XS w' (.slice (some ⟨b,0,none⟩) l.length c) (mkS k0 k++l.drop k)) (fun x=>l.length - x.1) (0,k0) Kg ?_ ?_
 ·exact ⟨Span.refl,Nat.zero_le _,Ki,by simpa [mkS] using h⟩
 rintro ⟨k,m⟩ ρj w1 ⟨S1,hk,hm0,hO1⟩
 have hml:(mkS k0 k++l.drop k).length=l.length:=by simp [mkS_len];omega
 by_cases hkl:k < l.length
 ·have kt : ∀ (w:World),Does Tryz.prog 88 [.int .i64 m] w (Ret w (str (mtx m))):=fun w=>markText_ok w _ Ka
  have hmt:=mtx_len (k:=m) Ka
  have hml2:=mkS_len k0 k
  focus
   refine Zq<|Zp<|Zu Z<|Up Z<|Vk Jd Z (OwnedB.read hO1)<|Vi Z<|Zn<|Zs Z (fun h1=>?_) (fun h1=>?_);refine Zv<|Zq<|Zw<|Zp<|Up Z<|Zu Z<|Zu Z<|Zr Z (Vx (a:=.int _ _) Tryz.call88 Z) (kt _) ?_;rintro _ w2 ⟨rfl,E1⟩;refine Wo Z (Yv Jd Ku Z Z Ka) ?_;refine Nb Z Ku Z Z (hO1.ext E1) Kf (Owned.str Kf) (Nat.le_refl _) Ka ?_;rintro w3 hO1 On1 K1 hz1;refine Zn<|Vf<|Zu Z<|Vr Z<|Vg Z<|Zn<|Vf<|Zu Z<|Vr Z<|Vg Z<|Zn ?_;rotate_left;(exfalso;omega)
  refine ⟨((k+1,m+1)),Kg,Kh,?_,?_⟩
  ·refine ⟨S1.trans (E1.toSpan.trans (Span.only1 On1 hb.1 hb.2)),Ka,Ka,?_⟩
   rw [← mkS_set hkl,← hm0]
   exact hO1.toB.narrowS fun q hq=>by simp [Value.ownBlock] at hq;omega
  ·simp only;omega
 ·focus
   refine Zq<|Zp<|Zu Z<|Up Z<|Vk Jd Z (OwnedB.read hO1)<|Vi Z<|Zn<|Zt Z fun h1=>?_;refine Vw ?_;refine Vd ?_;refine Zp<|Zu Z<|Vg Z<|Zn<|Zy ?_;refine Ve (v:=.int _ _) Z ?_
  obtain rfl:k=l.length:=Ka
  exact ⟨by rw [hm0],S1,by simpa using hO1⟩
theorem heldStringS_ok (w:World) (v:Value) (k0:Int) (hk0:0≤k0∧k0≤1048576) (n:Nat) (hn:n≤1048576) (h:ESl EStr w v (mkS k0 n)) :
  Does Tryz.prog 34 [v,.int .i64 k0] w (Ret w (.int .i64 (k0+(n:Int)))):=by
 have hml:=mkS_len k0 n
 refine Vh Tryz.func34 Z Tryz.results34 Tryz.ntmps34 Z ?_
 focus
  refine Zp<|Vg Z<|Zn<|Zq<|Zp<|Vg Z<|Zn<|Zw ?_
 refine Vy [1,4,5,6,7,8,9,10,11,12,13,14,15,16,17,18,19,20] (fun ((k,m):Nat × Int)=>[(5,.int .i64 (k:Nat)),(1,.int .i64 (m:Int))]) (fun (k,m) w'=>Ext w w'∧k≤n∧m=k0+(k:Int)) (fun x=>n - x.1) (0,k0) Kg ?_ ?_
 ·exact ⟨Ext.refl _,Nat.zero_le _,Ki⟩
 rintro ⟨k,m⟩ ρj w1 ⟨E1,hk,hm0⟩
 by_cases hkl:k < n
 ·have hm:=mkS_at (k0:=k0) (n:=n) (k:=k) Ka
  rw [← hm0] at hm
  have kt : ∀ (w:World),Does Tryz.prog 88 [.int .i64 m] w (Ret w (str (mtx m))):=fun w=>markText_ok w _ Ka
  focus
   refine Zq<|Zp<|Zu Z<|Vb v Z<|Vk Jd Z h<|Vi Z<|Zn<|Zs Z (fun h1=>?_) (fun h1=>?_);refine Zv<|Zq<|Zw<|Zq<|Zq<|Xx Xr Kb Z ?_;refine Qj v Z<|Rf Z<|Xn Jd Ku Kv Z (fun _=>Z) Z h E1 Z Kf ?_;rintro _ _ ⟨rfl,-⟩;refine Rf Z<|Ut Z (fun _ _=>Vx (a:=.int _ _) Tryz.call88 Z) (fun w' hw'=>(kt _)) ?_;refine Xs Z (fun _ _=>Xb Z Z) ?_;refine Xu (fun w2 E2=>?_);refine Uv Z fun h2=>?_;refine Zv<|Vf<|Zu Z<|Vr Z<|Vg Z<|Zn<|Vf<|Zu Z<|Vr Z<|Vg Z<|Zn ?_;rotate_left;(exfalso;omega)
  refine ⟨((k+1,m+1)),Kg,Kh,?_,?_⟩
  ·exact ⟨by exact (E1.trans E2),Ka,Ka⟩
  ·simp only;omega
 ·obtain rfl:k=n:=by omega
  focus
   refine Zq<|Zp<|Zu Z<|Vb v Z<|Vk Jd Z h<|Vi Z<|Zn<|Zt Z fun h1=>?_;refine Vw ?_;refine Vd ?_;refine Zp<|Zu Z<|Vg Z<|Zn<|Zy ?_;refine Ve (v:=.int _ _) Z ?_;refine ⟨congrArg (Value.int .i64) ?_,E1⟩
  omega
open Classical in
theorem dsV_total (d:Dsk) (l:List (List UInt8)):total (dsV d l).1.now≤25∧total3 (dsV d l).1.past≤200∧(dsV d l).1.now.length≤5∧(dsV d l).1.past.length≤8∧(∀ q ∈ (dsV d l).1.past,q.length≤5)∧(dsV d l).2.length≤40:=by
 unfold dsV
 split
 ·rename_i h
  have h1:=sayV_ok h.1 l
  have:=dk_total h1
  exact ⟨this.1,this.2.1,this.2.2.1,h1.2.1,this.2.2.2,by rw [sayV_len];exact h.2⟩
 ·exact ⟨by simp [total],by simp [total3],Ki,Ki,(fun q hq=>by cases hq),Ki⟩
open Classical in
theorem FnExactDeskSay_walk (w:World) (hM:EMx gMx w (.bool true) ()) (hT:ETb w (.bool true) ()) (u1 u2:Value) (p:List (List Int)) (pp:List (List (List Int))) (h1:ESl Ints w u1 p) (h2:ESl (ESl Ints) w u2 pp) (vl:Value) (l:List (List UInt8)) (h3:ESl EStr w vl l) :
  Does Tryz.prog 5 [.agg #[u1,u2],vl] w (Ret w (.bool true)):=by
 have icu1:isCell u1=true:=Uu h1
 have icu2:isCell u2=true:=Uu h2
 refine Vh Tryz.func5 Z Tryz.results5 Tryz.ntmps5 Z ?_
 have stop3:True:=trivial
 focus
  refine Zp<|Yl Z Z Z ?_;rintro b1 w1 hb1 E1 hB1;have hlb1:=hB1.lt;refine Zz Z<|Zn<|Zq<|Vf<|Vg Z<|Zn<|Zp<|Xc Zf Zg hB1 Z<|Zu Z<|Zr Z (Yg (a:=.agg _) (b:=.int _ _) Tryz.call25 Z Z) (szDesk_ok _ _ _ _ _ ((Mono.mono E1 h1)) ((Mono.mono E1 h2)) _ Ka) ?_;rintro _ w2 ⟨E2,y1,rfl,hy1⟩;have hs2:=E2.size;refine Vg Z<|Zn<|Zq<|Zq ?_
 clear stop3
 rcases hy1 with h9 | ⟨h9,h10,h11,h12,h13,h14⟩
 ·focus
   refine Vf<|Zu Z<|Vi Z<|Zn<|Zs Z (fun h4=>?_) (fun h4=>?_);refine Zp<|Zz Z<|Zn<|Zy ?_;exact ⟨rfl,exq⟩;(exfalso;omega)
 have stop6:True:=trivial
 have kZ : ∀ (w:World),ESl EStr w vl l→Does Tryz.prog 26 [vl,.int .i64 y1] w (RetX w (Value.int .i64) (fun z _=>z = -1∨(0≤z∧l.length≤1048576∧∀ s ∈ l,s.length≤1048576))):=fun w h=>szStringS_ok w vl l h y1 Ka
 focus
  have szE2:=E2.size;have szE1:=E1.size;refine Vf<|Zu Z<|Vi Z<|Zn<|Zt Z fun h4=>?_;refine Zv<|Zp<|Vb vl Z<|Zu Z<|Zr Z (Yg (a:=vl) (b:=.int _ _) Tryz.call26 Z Z) (kZ _ ((Mono.mono exq h3))) ?_;rintro _ w3 ⟨E3,y2,rfl,hy1⟩;have hs3:=E3.size;refine Vg Z<|Zn<|Zq<|Zq ?_
 clear stop6 kZ
 rcases hy1 with h8 | ⟨h8,hll,hx⟩
 ·focus
   refine Vf<|Zu Z<|Vi Z<|Zn<|Zs Z (fun h5=>?_) (fun h5=>?_);refine Zp<|Zz Z<|Zn<|Zy ?_;exact ⟨rfl,exq⟩;(exfalso;omega)
 obtain ⟨c,hcd⟩ : ∃ c,c=dsV ⟨p,pp⟩ l:=⟨_,rfl⟩
 obtain ⟨ht25,ht200,hl5,hl8,hq5,hb40⟩:=dsV_total ⟨p,pp⟩ l
 have kT : ∀ (w:World),ESl Ints w u1 p→ESl (ESl Ints) w u2 pp→Does Tryz.prog 27 [.agg #[u1,u2]] w (RetDk w 23 88 3 p pp):=fun w h1 h2=>toDesk_ok w u1 u2 p pp h1 h2 ⟨h11,h12⟩ h13 h14
 have kD : ∀ (w:World),ESl EStr w vl l→Does Tryz.prog 28 [vl] w (RetO w XS l):=fun w h=>toStringS_ok w vl l h hll hx
 have kI : ∀ (w:World) (v1 v2 vd:Value),EMx gMx w (.bool true) ()→ETb w (.bool true) ()→ESl Ints w v1 p→ESl (ESl Ints) w v2 pp→ESl EStr w vd l→Does Tryz.prog 21 [.agg #[v1,v2],vd] w (RetDkY w 23 88 3 9 c.1.now c.1.past c.2):=fun w v1 v2 vd hM hT h1 h2 h3=>hcd ▸ impl_DeskSay_ok w hM hT v1 v2 ⟨p,pp⟩ h1 h2 vd l h3 hx
 have kS : ∀ (w:World) (v1 v2 vd:Value),ESl Ints w v1 p→ESl (ESl Ints) w v2 pp→ESl EStr w vd l→Does Tryz.prog 22 [.agg #[v1,v2],vd] w (RetDkRY w 9 c.1.now c.1.past c.2):=fun w v1 v2 vd h1 h2 h3=>hcd ▸ spec_DeskSay_ok w v1 v2 ⟨p,pp⟩ h1 h2 vd l h3 hx
 rw [← hcd] at ht25 ht200 hl5 hl8 hq5 hb40
 clear hcd
 obtain ⟨⟨now,past⟩,b⟩:=c
 simp only at ht25 ht200 hl5 hl8 hq5 hb40 kI kS
 have kE : ∀ (w:World) (v1 v2 t1 t2:Value),ESl Ints w v1 now→ESl (ESl Ints) w v2 past→ESl Ints w t1 now→ESl (ESl Ints) w t2 past→Does Tryz.prog 29 [.agg #[v1,v2],.agg #[t1,t2]] w (Ret w (.bool true)):=fun w v1 v2 t1 t2 h1 h2 h3 h4=>by
  have:=eqDesk_ok w v1 v2 t1 t2 now now past past h1 h2 h3 h4
  rwa [decide_eq_true ⟨rfl,rfl⟩] at this
 have kEp : ∀ (w:World) (v1 v2 t1 t2:Value),ESl Ints w v1 p→ESl (ESl Ints) w v2 pp→ESl Ints w t1 p→ESl (ESl Ints) w t2 pp→Does Tryz.prog 29 [.agg #[v1,v2],.agg #[t1,t2]] w (Ret w (.bool true)):=fun w v1 v2 t1 t2 h1 h2 h3 h4=>by
  have:=eqDesk_ok w v1 v2 t1 t2 p p pp pp h1 h2 h3 h4
  rwa [decide_eq_true ⟨rfl,rfl⟩] at this
 have kED : ∀ (w:World) (v u:Value),ESl EStr w v l→ESl EStr w u l→Does Tryz.prog 30 [v,u] w (Ret w (.bool true)):=fun w v u h h'=>eqStringS_ok w v u l h h'
 have kEB : ∀ (w:World) (v u:Value),ESl EStr w v b→ESl EStr w u b→Does Tryz.prog 30 [v,u] w (Ret w (.bool true)):=fun w v u h h'=>eqStringS_ok w v u b h h'
 have kM0 : ∀ (w:World) (lo m hi:Nat) (v1 v2:Value),OwnedB lo m XR w v1 p→OwnedB m hi (XSl 23 XR) w v2 pp→lo≤m→m≤hi→hi≤w.heap.size→Does Tryz.prog 31 [.agg #[v1,v2],.int .i64 1] w (RetS lo hi w (fun _:Unit=>.int .i64 (1+(total p:Nat)+(total3 pp:Nat))) (fun _ _=>True)):=fun w lo m hi v1 v2 h1 h2 h3 h4 h5=>by
  refine (markDesk_ok w v1 v2 p pp h1 h2 h3 h4 h5 1 Kc h11 Ka h13 (fun q hq=>(h14 q hq).1) Ka).mono fun v w' h=>?_
  obtain ⟨z,rfl,hs,rfl,_,_⟩:=h
  exact ⟨(),rfl,hs,trivial⟩
 have kM : ∀ (w:World) (lo m hi:Nat) (v1 v2:Value),OwnedB lo m XR w v1 now→OwnedB m hi (XSl 23 XR) w v2 past→lo≤m→m≤hi→hi≤w.heap.size→Does Tryz.prog 31 [.agg #[v1,v2],.int .i64 1] w (RetS lo hi w (Value.int .i64) (fun z w'=>z=1+(total now:Nat)+(total3 past:Nat)∧OwnedB lo m XR w' v1 (marksS 1 now)∧OwnedB m hi (XSl 23 XR) w' v2 (marks3 (1+(total now:Nat)) past))):=fun w lo m hi v1 v2 h1 h2 h3 h4 h5 =>
  markDesk_ok w v1 v2 now past h1 h2 h3 h4 h5 1 Kc Ka Ka Ka (fun q hq=>by have:=hq5 q hq;omega) Ka
 have kH : ∀ (w:World) (v1 v2:Value),ESl Ints w v1 (marksS 1 now)→ESl (ESl Ints) w v2 (marks3 (1+(total now:Nat)) past)→Does Tryz.prog 33 [.agg #[v1,v2],.int .i64 1] w (Ret w (.int .i64 (1+(total now:Nat)+(total3 past:Nat)))):=fun w v1 v2 h1 h2 =>
  heldDesk_ok w v1 v2 now past 1 h1 h2 Kc Ka Ka (fun q hq=>by have:=hq5 q hq;omega) Ka
 have heldS:w=w:=rfl
 have stop8:True:=trivial
 focus
  have szE3:=E3.size;have szE2:=E2.size;have szE1:=E1.size;refine Vf<|Zu Z<|Vi Z<|Zn<|Zt Z fun h5=>?_;refine Zv<|Zq ?_
 clear stop8
 focus
  have hB1:=(hB1.ext (E2.trans E3));have Ew1:=((E1.trans E2).trans E3);clear E1;clear E2;clear szE2;clear szE2;clear szE1;clear szE1;clear E3;clear szE3
 refine W_mid [28,29,30,31,32,27,33,34,6,7] (fun ((b9,x1,x2,vw,lo,hi):Nat × Value × Value × Value × Nat × Nat)=>[(6,.pointer (some ⟨b9,0,none⟩)),(7,vw)]) (fun (b9,x1,x2,vw,lo,hi) w'=>Ext w3 w'∧Blk w' b9 [x1,x2]∧OwnedB lo hi (XRd (ESl Ints)) w' x1 now∧OwnedB lo hi (XRd (ESl (ESl Ints))) w' x2 past∧OwnedB lo hi XS w' vw b∧isCell x1=true∧isCell x2=true∧w3.heap.size≤lo∧w3.heap.size≤b9∧hi≤w'.heap.size∧b9 < w'.heap.size∧(hi≤b9∨b9 < lo)) ?_ ?_
 ·focus
   refine Vf<|Xc Zf Zg hB1 Z<|Zr Z (Vx (a:=.agg _) Zh Z) (kT _ ((Mono.mono Ew1 h1)) ((Mono.mono Ew1 h2))) ?_;rintro _ w4 ⟨u3,q1,m1,rfl,E1,hO1,hQ1,hm1,hn1⟩;have hs4:=E1.size;refine Vb vl Z<|Zr Z (Vx (a:=vl) Tryz.call28 Z) (kD _ ((Mono.mono exq h3))) ?_;rintro u4 w5 ⟨E2,hO2⟩;have hs5:=E2.size;refine Zr Z (Yg (a:=.agg _) (b:=u4) Tryz.call22 Z Z) (kS _ _ _ _ ((Mono.mono E2 (OwnedB.read hO1))) ((Mono.mono E2 (Owned.read hQ1))) ((Owned.read hO2))) ?_;rintro _ w6 ⟨u5,q2,v1,rfl,E3,hA1,hC1,hT1,icu5,icq2⟩;have hs6:=E3.size;refine Xl Z<|WsxA Z<|Un v1 Z<|Yp Z Xf ?_;rintro b2 w7 hb2 E4 hB2;have hlb2:=hB2.lt
   refine Xj Z Ko Z Z Ke Ke hB2 Ka ((((Ew1.trans E1).trans E2).trans E3).trans E4) ?_;rintro w8 E5 hB2 K1 hz1;have E6:=(((E1.trans E2).trans E3).trans E4).wroteAt exq E5 K1 hz1 Ka;have E9:=E4.wroteAt exq E5 K1 hz1 Ka;have szE9:=E9.size;have hA1:=(hA1.ext E4).wrote K1 Ka;have hC1:=(hC1.ext E4).wrote K1 Ka;have hT1:=(hT1.toB.ext E4).wrote K1 Ka;refine Yr v1 Z<|Zn ?_
  all_goals exact ⟨(b2,u5,q2,v1,_,_),⟨rfl,rfl,trivial⟩,Kh,by repeat (first | assumption | refine Ext.trans Kd ?_),hB2,hA1,hC1,hT1,icu5,icq2,Ka,Ka,Ka,Ka,Ka⟩
 rintro ⟨b9,x1,x2,vw,lo1,hi1⟩ ρ5 w4 ⟨E5,hB9,hX1,hX2,hW,icx1,icx2,hlo1,hb9,hhi1,hb9',hd1⟩
 have hq5:=E5.size
 have stop11:True:=trivial
 focus
  have szE5:=E5.size;have szEw1:=Ew1.size;refine Zp<|Xc Zf Zg (hB1.ext E5) Z<|Zr Z (Vx (a:=.agg _) Zh Z) (kT _ ((Mono.mono exq h1)) ((Mono.mono exq h2))) ?_;rintro _ w5 ⟨u3,q1,m1,rfl,E1,hO1,hQ1,hm1,hn1⟩;have icu3:=OwnedB.isC hO1;have icq1:=OwnedB.isC (Owned.toB hQ1);have hs4:=E1.size;refine Yp Z Xf ?_;rintro b2 w6 hb2 E2 hB2;have hlb2:=hB2.lt;have hs5:=E2.size;refine Xj Z Ko Z Z Ke Ke hB2 Ka (((Ew1.trans E5).trans E1).trans E2) ?_;rintro w7 E3 hB2 K1 hz1;have E4:=((E5.trans E1).trans E2).wroteAt exq E3 K1 hz1 Ka;have szE4:=E4.size;have E6:=(E1.trans E2).wroteAt exq E3 K1 hz1 Ka;have szE6:=E6.size;have E7:=E2.wroteAt exq E3 K1 hz1 Ka;have szE7:=E7.size
  have hB1:=(hB1.ext exq).of_heap (K1 _ Ka);have hB9:=(hB9.ext exq).of_heap (K1 _ Ka);have hX1:=(hX1.ext exq).wrote K1 Ka;have hX2:=(hX2.ext exq).wrote K1 Ka;have hW:=(hW.ext exq).wrote K1 Ka;have hO1:=(hO1.ext E2).wrote K1 Ka;have hQ1:=(hQ1.toB.ext E2).wrote K1 Ka;refine Zn<|Zp<|Vb vl Z<|Zr Z (Vx (a:=vl) Tryz.call28 Z) (kD _ ((Mono.mono E3 h3))) ?_;rintro u4 w8 ⟨E8,hO2⟩;have hs6:=E8.size;refine Yr u4 Z<|Zn<|Zq ?_
 clear stop11
 focus
  have hB2:=(hB2.ext E8);have hB1:=(hB1.ext E8);have hB9:=(hB9.ext E8);have hX1:=(hX1.ext E8);have hX2:=(hX2.ext E8);have hW:=(hW.ext E8);have hO1:=(hO1.ext E8);have hQ1:=(hQ1.ext E8);have hO2:=hO2.toB;have Ew2:=(E3.trans E8);clear Ew1;clear E5;clear szE5;clear szEw1;clear E1;clear E2;clear E3;clear E4;clear szE4;clear E6;clear szE6;clear E7;clear szE7;clear E8
 refine W_mid [40,41,42,39,43,44,10,11] (fun ((b8,y1,y2,va,lo,m,hi,la,ha):Nat × Value × Value × Value × Nat × Nat × Nat × Nat × Nat)=>[(10,.pointer (some ⟨b8,0,none⟩)),(11,va)]) (fun (b8,y1,y2,va,lo,m,hi,la,ha) w'=>Ext w8 w'∧Blk w' b8 [y1,y2]∧OwnedB lo m XR w' y1 now∧OwnedB m hi (XSl 23 XR) w' y2 past∧OwnedB la ha XS w' va b∧isCell y1=true∧isCell y2=true∧w8.heap.size≤lo∧lo≤m∧m≤hi∧w8.heap.size≤b8∧hi≤w'.heap.size∧b8 < w'.heap.size∧(hi≤b8∨b8 < lo)∧w8.heap.size≤la∧la≤ha∧ha≤w'.heap.size∧(ha≤lo∨hi≤la)∧(ha≤b8∨b8 < la)) ?_ ?_
 ·focus
   refine Vf<|Xc Ks Ko hB2 Z<|Vb u4 Z<|Zr Z (Yg (a:=.agg _) (b:=u4) Tryz.call21 Z Z) (kI _ _ _ _ ((Mono.mono Ew2 hM)) ((Mono.mono Ew2 hT)) ((OwnedB.read hO1)) ((OwnedB.read hQ1)) ((OwnedB.read hO2))) ?_;rintro _ w9 ⟨u5,q2,v1,lo2,m2,hi2,rfl,E1,hO3,hQ2,hT1,hm2,hn2,hp1,hw1,hd2⟩;have icu5:=OwnedB.isC hO3;have icq2:=OwnedB.isC hQ2;have hs7:=E1.size;refine Xl Z<|WsxA Z<|Un v1 Z<|Yp Z Xf ?_;rintro b3 w10 hb3 E2 hB3;have hlb3:=hB3.lt;refine Ui Ko hB3 Z ((Ew2.trans E1).trans E2) ?_;rintro w11 E3 hB3 K2 hz2;have E4:=(E1.trans E2).wroteAt exq E3 K2 hz2 Ka;have hO3:=(hO3.ext E2).wrote K2 Ka;have hQ2:=(hQ2.ext E2).wrote K2 Ka;have hT1:=(hT1.toB.ext E2).wrote K2 Ka;refine Yr v1 Z<|Zn ?_
  all_goals
   obtain ⟨la,ha,hGA,ga1,ga2,ga3,ga4⟩:=ansB hT1 Ka Ka hd2
   exact ⟨(b3,u5,q2,v1,_,m2,_,la,ha),⟨rfl,rfl,trivial⟩,Kh,by repeat (first | assumption | refine Ext.trans Kd ?_),hB3,hO3,hQ2,hGA,icu5,icq2,Ka,Ka,Ka,Ka,Ka,Ka,Ka,Ka,Ka,Ka,Ka,Ka⟩
 rintro ⟨b8,g1,g2,vg,lo2,m2,hi2,la,ha⟩ ρ9 w9 ⟨E15,hB8,hG1,hG2,hGA,icg1,icg2,hlo2,hm2,hm2',hb8,hhi2,hb8',hd2,hla,hla2,hha,hd3,hd4⟩
 have stop14:True:=trivial
 focus
  have szE15:=E15.size;have szEw2:=Ew2.size;refine Zq<|Zp<|Xc Ks Ko hB8 Z<|Xc Ks Ko (hB9.ext E15) Z<|Zr Z (Yg (a:=.agg _) (b:=.agg _) Zi Z Z) (kE _ _ _ _ _ ((OwnedB.read hG1)) ((OwnedB.read hG2)) ((Mono.mono E15 (OwnedB.read hX1))) ((Mono.mono E15 (OwnedB.read hX2)))) ?_;rintro _ w10 ⟨rfl,E1⟩;have hs7:=E1.size;refine Ym Z<|Yn Z (Vq (v:=.bool _) Z) (fun h6=>?_) (fun h6=>?_);contradiction;refine Vb vg Z<|Vb vw Z<|Zr Z (Yg (a:=vg) (b:=vw) Tryz.call30 Z Z) (kEB _ _ _ ((Mono.mono E1 (OwnedB.read hGA))) ((Mono.mono exq (OwnedB.read hW)))) ?_;rintro _ w11 ⟨rfl,E2⟩;have hs8:=E2.size;refine Ym Z<|Vp Z<|Zn<|Xa Z fun h7=>?_;refine Zv<|Zq<|Zq ?_
 clear stop14
 focus
  have hB2:=(hB2.ext ((E15.trans E1).trans E2));have hB1:=(hB1.ext ((E15.trans E1).trans E2));have hB9:=(hB9.ext ((E15.trans E1).trans E2));have hX1:=(hX1.ext ((E15.trans E1).trans E2));have hX2:=(hX2.ext ((E15.trans E1).trans E2));have hW:=(hW.ext ((E15.trans E1).trans E2));have hO1:=(hO1.ext ((E15.trans E1).trans E2));have hQ1:=(hQ1.ext ((E15.trans E1).trans E2));have hO2:=(hO2.ext ((E15.trans E1).trans E2));have hB8:=(hB8.ext (E1.trans E2));have hG1:=(hG1.ext (E1.trans E2));have hG2:=(hG2.ext (E1.trans E2));have hGA:=(hGA.ext (E1.trans E2));have Ew1:=(((Ew2.trans E15).trans E1).trans E2);clear Ew2;clear E15;clear szE15;clear szEw2;clear E1;clear E2
 refine W_mid [55,56,57,58,59] (fun _:Unit=>[(59,.bool false)]) (fun _ w'=>Ext w11 w') ?_ ?_
 ·focus
   refine Rb (fun w'=>Ext w w') Xr Z Kb ?_;intro w12 E1 K2 hz2;refine Wha [0,1]<|Vu Z ?_ ?_;refine Xc Ks Ko (hB2.ext E1) Z<|Wnx exq<|Wha [1]<|Wh1 Z<|Xc Zf Zg (hB1.ext E1) Z<|Wnx exq<|Wha [2]<|Wh1 Z<|Zr Z (Vx (a:=.agg _) Zh Z) (kT _ ((Mono.mono exq h1)) ((Mono.mono exq h2))) ?_;rintro _ w13 ⟨u5,q2,m3,rfl,E2,hO3,hQ2,hm3,hn2⟩;refine Wnx exq<|Wha [3]<|Wh1 Z<|Zr Z (Yg (a:=.agg _) (b:=.agg _) Zi Z Z) (kEp _ _ _ _ _ ((Mono.mono exq (OwnedB.read hO1))) ((Mono.mono exq (OwnedB.read hQ1))) ((OwnedB.read hO3)) ((Owned.read hQ2))) ?_;rintro _ w14 ⟨rfl,E3⟩;refine Wnx exq<|Yo 4 Z Kb Kb Z (fun _ _=>Ni Z) exq ?_;refine Yh Kb ?_;rotate_left
   refine Wh1 Z<|Xc Zf Zg (hB1.ext E1) Z<|Wnx exq<|Wha [0,2]<|Vu Z ?_ ?_;refine Xc Ks Ko (hB2.ext E1) Z<|Wnx exq<|Wha [2]<|Wh1 Z<|Zr Z (Vx (a:=.agg _) Zh Z) (kT _ ((Mono.mono exq h1)) ((Mono.mono exq h2))) ?_;rintro _ w13 ⟨u5,q2,m3,rfl,E2,hO3,hQ2,hm3,hn2⟩;refine Wnx exq<|Wha [3]<|Wh1 Z<|Zr Z (Yg (a:=.agg _) (b:=.agg _) Zi Z Z) (kEp _ _ _ _ _ ((Mono.mono exq (OwnedB.read hO1))) ((Mono.mono exq (OwnedB.read hQ1))) ((OwnedB.read hO3)) ((Owned.read hQ2))) ?_;rintro _ w14 ⟨rfl,E3⟩;refine Wnx exq<|Yo 4 Z Kb Kb Z (fun _ _=>Ni Z) exq ?_;refine Yh Kb ?_;rotate_left;refine Wh1 Z<|Zr Z (Vx (a:=.agg _) Zh Z) (kT _ ((Mono.mono exq h1)) ((Mono.mono exq h2))) ?_
   rintro _ w13 ⟨u5,q2,m3,rfl,E2,hO3,hQ2,hm3,hn2⟩;refine Wnx exq<|Wha [0]<|Wh1 Z<|Xc Ks Ko (hB2.ext exq) Z<|Wnx exq<|Wha [3]<|Wh1 Z<|Zr Z (Yg (a:=.agg _) (b:=.agg _) Zi Z Z) (kEp _ _ _ _ _ ((Mono.mono exq (OwnedB.read hO1))) ((Mono.mono exq (OwnedB.read hQ1))) ((OwnedB.read hO3)) ((Owned.read hQ2))) ?_;rintro _ w14 ⟨rfl,E3⟩;refine Wnx exq<|Yo 4 Z Kb Kb Z (fun _ _=>Ni Z) exq ?_;refine Yh Kb ?_;rotate_left
  all_goals exact ⟨(),⟨rfl,trivial⟩,Kh,by repeat (first | assumption | refine Ext.trans Kd ?_)⟩
 rintro ⟨⟩ ρ10 w12 E16
 have hq16:=E16.size
 have stop19:True:=trivial
 focus
  have szE16:=E16.size;have szEw1:=Ew1.size;refine Zx Z ?_;refine Zv<|Zq<|Zp<|Vb u4 Z<|Vb vl Z<|Zr Z (Vx (a:=vl) Tryz.call28 Z) (kD _ ((Mono.mono exq h3))) ?_;rintro u5 w13 ⟨E1,hO3⟩;have hs9:=E1.size;refine Zr Z (Yg (a:=u4) (b:=u5) Tryz.call30 Z Z) (kED _ _ _ ((Mono.mono exq (OwnedB.read hO2))) ((Owned.read hO3))) ?_;rintro _ w14 ⟨rfl,E2⟩;have hs10:=E2.size;refine Ym Z<|Zn<|Xa Z fun h15=>?_;refine Zv<|Zp<|Vg Z<|Zn<|Zq ?_
 clear stop19
 focus
  have hB2:=(hB2.ext ((E16.trans E1).trans E2));have hB1:=(hB1.ext ((E16.trans E1).trans E2));have hB9:=(hB9.ext ((E16.trans E1).trans E2));have hX1:=(hX1.ext ((E16.trans E1).trans E2));have hX2:=(hX2.ext ((E16.trans E1).trans E2));have hW:=(hW.ext ((E16.trans E1).trans E2));have hO1:=(hO1.ext ((E16.trans E1).trans E2));have hQ1:=(hQ1.ext ((E16.trans E1).trans E2));have hO2:=(hO2.ext ((E16.trans E1).trans E2));have hB8:=(hB8.ext ((E16.trans E1).trans E2));have hG1:=(hG1.ext ((E16.trans E1).trans E2));have hG2:=(hG2.ext ((E16.trans E1).trans E2));have hGA:=(hGA.ext ((E16.trans E1).trans E2));have hO3:=(hO3.toB.ext E2);have Ew2:=(((Ew1.trans E16).trans E1).trans E2);clear Ew1;clear E16;clear szE16;clear szEw1;clear E1;clear E2
 have stop20:True:=trivial
 focus
  have szEw2:=Ew2.size;refine Vf<|Xc Ks Ko hB2 Z<|Zu Z<|Zr Z (Yg (a:=.agg _) (b:=.int _ _) Tryz.call31 Z Z) (kM0 _ _ _ _ _ _ (hO1) (hQ1) Kd Kd Ka) ?_;rintro _ w15 ⟨y3,rfl,E1,hy1⟩;have hB2:=hB2.span E1 Ka;have hB1:=hB1.span E1 Ka;have hB9:=hB9.span E1 Ka;have hX1:=hX1.span E1 Ka;have hX2:=hX2.span E1 Ka;have hW:=hW.span E1 Ka;have hO2:=hO2.span E1 Ka;have hB8:=hB8.span E1 Ka;have hG1:=hG1.span E1 Ka;have hG2:=hG2.span E1 Ka;have hGA:=hGA.span E1 Ka;have hO3:=hO3.span E1 Ka;have E2:=Ew2.span E1 Ka;have hs11:=E1.size;refine Vg Z<|Zn<|Zq ?_
 clear stop20
 have kMD : ∀ (w:World),OwnedB w7.heap.size w8.heap.size XS w u4 l→Does Tryz.prog 32 [u4,.int .i64 (1+(total p:Nat)+(total3 pp:Nat))] w (RetS w7.heap.size w8.heap.size w (fun _:Unit=>.int .i64 (1+(total p:Nat)+(total3 pp:Nat)+(l.length:Int))) (fun _ _=>True)):=fun w h=>by
  refine (markStringS_ok w u4 l h _ Ka hll).mono fun v w' h=>?_
  obtain ⟨rfl,hs,_⟩:=h
  exact ⟨(),rfl,hs,trivial⟩
 have stop25:True:=trivial
 focus
  have szE2:=E2.size;have szEw2:=Ew2.size;refine Vf<|Vb u4 Z<|Zu Z<|Zr Z (Yg (a:=u4) (b:=.int _ _) Tryz.call32 Z Z) (kMD _ (hO2)) ?_;rintro _ w16 ⟨y4,rfl,E3,hy2⟩;have hB2:=hB2.span E3 Ka;have hB1:=hB1.span E3 Ka;have hB9:=hB9.span E3 Ka;have hX1:=hX1.span E3 Ka;have hX2:=hX2.span E3 Ka;have hW:=hW.span E3 Ka;have hB8:=hB8.span E3 Ka;have hG1:=hG1.span E3 Ka;have hG2:=hG2.span E3 Ka;have hGA:=hGA.span E3 Ka;have hO3:=hO3.span E3 Ka;have E4:=E2.span E3 Ka;have hs12:=E3.size;refine Vg Z<|Zn<|Zq<|Zq<|Vf<|Zu Z<|Vi Z<|Yw Z fun h16=>?_
  refine Xc Ks Ko hB8 Z<|Xc Ks Ko hB9 Z<|Zr Z (Yg (a:=.agg _) (b:=.agg _) Zi Z Z) (kE _ _ _ _ _ ((OwnedB.read hG1)) ((OwnedB.read hG2)) ((OwnedB.read hX1)) ((OwnedB.read hX2))) ?_;rintro _ w17 ⟨rfl,E5⟩;have hs13:=E5.size;refine Ym Z<|Vp Z<|Yn Z (Vq (v:=.bool _) Z) (fun h17=>?_) (fun h17=>?_);contradiction;refine Vb vg Z<|Vb vw Z<|Zr Z (Yg (a:=vg) (b:=vw) Tryz.call30 Z Z) (kEB _ _ _ ((Mono.mono E5 (OwnedB.read hGA))) ((Mono.mono E5 (OwnedB.read hW)))) ?_;rintro _ w18 ⟨rfl,E6⟩;have hs14:=E6.size;refine Ym Z<|Vp Z<|Zn<|Xa Z fun h18=>?_
  refine Zv<|Zq<|Vf<|Vg Z<|Zn<|Zp<|Xc Ks Ko (hB8.ext exq) Z<|Zu Z<|Zr Z (Yg (a:=.agg _) (b:=.int _ _) Tryz.call31 Z Z) (kM _ _ _ _ _ _ ((hG1.ext exq)) ((hG2.ext exq)) Kd Kd Ka) ?_;rintro _ w19 ⟨y5,rfl,E7,hy3⟩;have hB2:=(hB2.ext (E5.trans E6)).span E7 Ka;have hB1:=(hB1.ext (E5.trans E6)).span E7 Ka;have hB9:=(hB9.ext (E5.trans E6)).span E7 Ka;have hX1:=(hX1.ext (E5.trans E6)).span E7 Ka;have hX2:=(hX2.ext (E5.trans E6)).span E7 Ka;have hW:=(hW.ext (E5.trans E6)).span E7 Ka;have hB8:=(hB8.ext (E5.trans E6)).span E7 Ka;have hGA:=(hGA.ext (E5.trans E6)).span E7 Ka;have hO3:=(hO3.ext (E5.trans E6)).span E7 Ka;have E8:=((E4.trans E5).trans E6).span E7 Ka
  refine Vg Z<|Zn<|Zq ?_
 clear stop25
 obtain ⟨rfl,hOx,hQx⟩:=hy3
 have kMG : ∀ (w:World),OwnedB la ha XS w vg b→Does Tryz.prog 32 [vg,.int .i64 (1+(total now:Nat)+(total3 past:Nat))] w (RetS la ha w (fun _:Unit=>.int .i64 (1+(total now:Nat)+(total3 past:Nat)+(b.length:Int))) (fun _ w'=>OwnedB la ha XS w' vg (mkS (1+(total now:Nat)+(total3 past:Nat)) b.length))):=fun w h=>by
  refine (markStringS_ok w vg b h _ Ka Ka).mono fun v w' h=>?_
  obtain ⟨rfl,hs,h⟩:=h
  exact ⟨(),rfl,hs,h⟩
 have kHB : ∀ (w:World) (v:Value),ESl EStr w v (mkS (1+(total now:Nat)+(total3 past:Nat)) b.length)→Does Tryz.prog 34 [v,.int .i64 (1+(total now:Nat)+(total3 past:Nat))] w (Ret w (.int .i64 (1+(total now:Nat)+(total3 past:Nat)+(b.length:Int)))):=fun w v h=>heldStringS_ok w v _ Ka _ Ka h
 have stop27:True:=trivial
 focus
  have szE8:=E8.size;have szE6:=E6.size;have szE5:=E5.size;have szE4:=E4.size;have szE2:=E2.size;have szEw2:=Ew2.size;refine Vf<|Vb vg Z<|Zu Z<|Zr Z (Yg (a:=vg) (b:=.int _ _) Tryz.call32 Z Z) (kMG _ (hGA)) ?_;rintro _ w20 ⟨y5,rfl,E9,hy3⟩;have hB1:=hB1.span E9 Ka;have hB9:=hB9.span E9 Ka;have hX1:=hX1.span E9 Ka;have hX2:=hX2.span E9 Ka;have hW:=hW.span E9 Ka;have hB8:=hB8.span E9 Ka;have hOx:=hOx.span E9 Ka;have hQx:=hQx.span E9 Ka;have E10:=E8.span E9 Ka;refine Vg Z<|Zn<|Zp<|Vg Z<|Zn<|Zq ?_
 clear stop27
 have stop35:True:=trivial
 focus
  have szE10:=E10.size;have szE8:=E8.size;have szE6:=E6.size;have szE5:=E5.size;have szE4:=E4.size;have szE2:=E2.size;have szEw2:=Ew2.size;refine Vf<|Xc Ks Ko hB8 Z<|Zu Z<|Zr Z (Yg (a:=.agg _) (b:=.int _ _) Tryz.call33 Z Z) (kH _ _ _ ((OwnedB.read hOx)) ((OwnedB.read hQx))) ?_;rintro _ w21 ⟨rfl,E11⟩;refine Vg Z<|Zn<|Zq<|Zp<|Zu Z<|Vi Z<|Zn<|Vj Z fun h19=>?_;refine Zv<|Zp<|Vb vg Z<|Zu Z<|Zr Z (Yg (a:=vg) (b:=.int _ _) Tryz.call34 Z Z) (kHB _ _ ((Mono.mono E11 (OwnedB.read hy3)))) ?_;rintro _ w22 ⟨rfl,E12⟩;refine Vg Z<|Zn<|Zq<|Zp<|Zu Z<|Vi Z<|Zn<|Vj Z fun h20=>?_
  refine Zv<|Zq<|Zp<|Zu Z<|Zu Z<|Xo Z<|Zn<|Uv Z fun h21=>?_;refine Zv<|Zq ?_
 clear stop35
 focus
  have hy3:=(hy3.ext (E11.trans E12));have hB1:=(hB1.ext (E11.trans E12));have hB9:=(hB9.ext (E11.trans E12));have hX1:=(hX1.ext (E11.trans E12));have hX2:=(hX2.ext (E11.trans E12));have hW:=(hW.ext (E11.trans E12));have hB8:=(hB8.ext (E11.trans E12));have hOx:=(hOx.ext (E11.trans E12));have hQx:=(hQx.ext (E11.trans E12));have Ew1:=((E10.trans E11).trans E12);clear Ew2;clear szEw2;clear szEw2;clear szEw2;clear szEw2;clear E2;clear szE2;clear szE2;clear szE2;clear E4;clear E5;clear E6;clear E8;clear szE8;clear szE8;clear szE6;clear szE6;clear szE5;clear szE5;clear szE4;clear szE4;clear E10;clear szE10;clear E11;clear E12
 refine W_mid [105,106,107,108,109,104,110,111,15,16] (fun ((b7,z1,z2,vh):Nat × Value × Value × Value)=>[(15,.pointer (some ⟨b7,0,none⟩)),(16,vh)]) (fun (b7,z1,z2,vh) w'=>Ext w22 w'∧Blk w' b7 [z1,z2]∧ESl Ints w' z1 now∧ESl (ESl Ints) w' z2 past∧ESl EStr w' vh b∧isCell z1=true∧isCell z2=true) ?_ ?_
 ·focus
   have szEw1:=Ew1.size;refine Vf<|Xc Zf Zg hB1 Z<|Zr Z (Vx (a:=.agg _) Zh Z) (kT _ ((Mono.mono Ew1 h1)) ((Mono.mono Ew1 h2))) ?_;rintro _ w23 ⟨u6,q2,m3,rfl,E2,hO4,hQ2,hm3,hn2⟩;have hs19:=E2.size;refine Vb vl Z<|Zr Z (Vx (a:=vl) Tryz.call28 Z) (kD _ ((Mono.mono exq h3))) ?_;rintro u7 w24 ⟨E4,hO5⟩;have hs20:=E4.size;refine Zr Z (Yg (a:=.agg _) (b:=u7) Tryz.call21 Z Z) (kI _ _ _ _ ((Mono.mono exq hM)) ((Mono.mono exq hT)) ((Mono.mono E4 (OwnedB.read hO4))) ((Mono.mono E4 (Owned.read hQ2))) ((Owned.read hO5))) ?_;rintro _ w25 ⟨u8,q3,v1,lo3,m4,hi3,rfl,E5,hO6,hQ3,hT1,hm4,hn3,hp1,hw1,hd5⟩;have icu8:=OwnedB.isC hO6;have icq3:=OwnedB.isC hQ3;have hs21:=E5.size;refine Xl Z<|WsxA Z<|Un v1 Z<|Yp Z Xf ?_;rintro b3 w26 hb3 E6 hB3
   refine Xj Z Ko Z Z Ke Ke hB3 Ka ((((Ew1.trans E2).trans E4).trans E5).trans E6) ?_;rintro w27 E8 hB3 K2 hz2;have E10:=(((E2.trans E4).trans E5).trans E6).wroteAt exq E8 K2 hz2 Ka;have hO6:=(hO6.ext E6).wrote K2 Ka;have hQ3:=(hQ3.ext E6).wrote K2 Ka;have hT1:=(hT1.toB.ext E6).wrote K2 Ka;refine Yr v1 Z<|Zn ?_
  all_goals exact ⟨(b3,u8,q3,v1),⟨rfl,rfl,trivial⟩,Kh,by repeat (first | assumption | refine Ext.trans Kd ?_),hB3,hO6.read,hQ3.read,hT1.read,icu8,icq3⟩
 rintro ⟨b7,z1,z2,vh⟩ ρ11 w23 ⟨E40,hB7,hZ1,hZ2,hZ3,icz1,icz2⟩
 focus
  refine Zq<|Zp<|Xc Ks Ko hB7 Z<|Xc Ks Ko (hB9.ext E40) Z<|Zr Z (Yg (a:=.agg _) (b:=.agg _) Zi Z Z) (kE _ _ _ _ _ (hZ1) (hZ2) ((Mono.mono E40 (OwnedB.read hX1))) ((Mono.mono E40 (OwnedB.read hX2)))) ?_;rintro _ w24 ⟨rfl,E2⟩;refine Ym Z<|Yn Z (Vq (v:=.bool _) Z) (fun h22=>?_) (fun h22=>?_);contradiction;refine Vb vh Z<|Vb vw Z<|Zr Z (Yg (a:=vh) (b:=vw) Tryz.call30 Z Z) (kEB _ _ _ ((Mono.mono E2 hZ3)) ((Mono.mono exq (OwnedB.read hW)))) ?_;rintro _ w25 ⟨rfl,E4⟩;refine Ym Z<|Vp Z<|Zn<|Xa Z fun h23=>?_
  refine Zv<|Zp<|Vg Z<|Zn<|Zp<|Xc Ks Ko (hB8.ext exq) Z<|Zu Z<|Zr Z (Yg (a:=.agg _) (b:=.int _ _) Tryz.call33 Z Z) (kH _ _ _ ((Mono.mono exq (OwnedB.read hOx))) ((Mono.mono exq (OwnedB.read hQx)))) ?_;rintro _ w26 ⟨rfl,E5⟩;refine Vg Z<|Zn<|Zq<|Zp<|Zu Z<|Vi Z<|Zn<|Vj Z fun h24=>?_;refine Zv<|Zp<|Vb vg Z<|Zu Z<|Zr Z (Yg (a:=vg) (b:=.int _ _) Tryz.call34 Z Z) (kHB _ _ ((Mono.mono exq (OwnedB.read hy3)))) ?_;rintro _ w27 ⟨rfl,E6⟩;refine Vg Z<|Zn<|Zq<|Zp<|Zu Z<|Vi Z<|Zn<|Vj Z fun h25=>?_;refine Zv<|Zq<|Zp<|Zu Z<|Zu Z<|Xo Z<|Zn<|Uv Z fun h26=>?_;refine Zv<|Zp<|Zz Z<|Zn<|Zy ?_;exact ⟨rfl,exq⟩
end Go.Proofs.YtbgpppaljpngmaaGreatDoor
namespace Go
variable {H:Type} {enc:TypeId × Value→H}
theorem To {a:Assume} {C:Checked} {os:Os} {f:FuncId} {fn:Func} {s:ChangeSpec} {conds:List PathCond} {apart fresh handsOn again:Bool} {X:World→Array Value→Prop}
  (hX : ∀ (w w':World) (args:Array Value),w.heap=w'.heap→X w args→X w' args)
  (own:ownKnob C.prog.godebug=none) (started:os.Started) (noInit:C.prog.inits.idxOf? f=none) (hfn:C.prog.funcs[f]? = some fn)
  (witness : ∃ (w:World) (tape:Tape) (i:Input),w.os=os∧(w.forCall tape i).Shaped C.prog∧i.vars=[]∧Input.okWide C.prog (w.forCall tape i) .any w.heap.size f i ∧
   ((s.pre enc C.prog fn conds apart (w.forCall tape i).memory i.args∧X (w.forCall tape i).memory i.args)∧sizedMet enc C.prog fn (OpenSpec.ofChange s) apart (w.forCall tape i).memory i.args)∧a.holds C.prog (lone (Frame.enter C.prog f i.args .normal) [] (w.forCall tape i)))
  (contract : ∀ (W:World) (base:Nat) (args:Array Value) (ds gs:List (DataW H)) (before:List MemPlace),
   (∀ (j:Nat) t v,fn.params[j]? = some t→args[j]? = some v→Value.okWide C.prog W .any base t v) →
   DataW.Whole enc C.prog fn.params.toList s.vars apart W args.toList ds gs before→W.ShapedOpen C.prog→X W args →
   Calls C.prog f args W fun e W'=>∃ v,e=.returned v∧s.post enc C.prog fn apart fresh handsOn again W args v W') :
  ReturnsInHanded a C os f .any (fun w args=>(s.pre enc C.prog fn conds apart w args∧X w args)∧sizedMet enc C.prog fn (OpenSpec.ofChange s) apart w args) (s.post enc C.prog fn apart fresh handsOn again):=by
 refine returnsInHanded_of_calls own started noInit witness ?_
 intro w tape i _ hsh _ hok hpre hholds
 obtain ⟨_,_,_,fn',hfn',_,_,_,_,hval⟩:=hok
 have e:fn'=fn:=Option.some.inj (hfn'.symm.trans hfn)
 subst e
 obtain ⟨⟨⟨ds,gs,before,hw,hc⟩,hx⟩,hz⟩:=hpre
 have hw':=DataW.Whole.of_heap (w':=w.forCall tape i) (by rfl) hw
 refine (contract (w.forCall tape i) w.heap.size i.args ds gs before hval hw' hsh (hX _ _ _ (by rfl) hx)).mono fun e W' ⟨v,he,hp⟩=>?_
 subst he
 exact ChangeSpec.post_blind hp
end Go
namespace Go.Proofs.YtbgpppaljpngmaaGreatDoor
open Go.Hs
def isTb (x:String × DataW Unit):Bool:=match x.2 with
 | .agg (.lit (.int .u64 _)::_)=>true
 | _=>false
theorem etb_of {W : World} {l : List (String × DataW Unit)} (h : laidMetH Tryz.prog l W) (hl : l.filter isTb = [("internal/strconv.uint64pow10", Go.Lib.tabData .u64 Go.Lib.pow10Tab)]) : ETb W (.bool true) () := by
 have h1:=laidMetH.filter isTb h
 rw [hl,MakeChecks.laidMetH_plain _ _ _ Kb] at h1
 exact Go.Lib.tabIs_of_head (g:=1) (t:=185) (e:=171) (n:=20) Kb Kb Tryz.underlying185 Tryz.underlying171 Kb Kb h1
end Go.Proofs.YtbgpppaljpngmaaGreatDoor
