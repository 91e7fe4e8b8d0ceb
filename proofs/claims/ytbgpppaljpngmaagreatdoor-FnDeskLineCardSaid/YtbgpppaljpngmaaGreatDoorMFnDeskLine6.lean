/- Lemmas for FnDeskLine. -/
import Derived.Test.YtbgpppaljpngmaaGreatDoorMFnDeskLine5
import Derived.Test.YtbgpppaljpngmaaGreatDoorProg
import Derived.Shelf.LaysM
import Derived.Lib.LaidTab
namespace Go.Proofs.YtbgpppaljpngmaaGreatDoor
open Go.Hs
set_option maxRecDepth 10000
set_option maxHeartbeats 4000000
set_option linter.unusedVariables false
theorem Mf {s:List UInt8} {k:Nat} (h:k < s.length):s.drop k=s.getD k 0::s.drop (k+1):=by
 rw [List.drop_eq_getElem_cons h,List.getD_eq_getElem?_getD,List.getElem?_eq_getElem h];rfl
theorem l10End_ok : ∀ (m:Nat) (s:List UInt8) (k:Nat) (w:World),s.length≤lim→s.length - k≤m →
  Dz 163 [str s,.int .i64 (k:Int)] w (Ret w (.int .i64 (endV (s.drop k) s.length))):=by
 intro m
 induction m with
 | zero =>
   intro s k w hl hm
   unfold lim at hl
   have e : s.drop k = [] := List.drop_eq_nil_of_le Kh
   rw [e, endV, pre_nil]
   refine Yr Tryz.func163 Z Tryz.results163 Tryz.ntmps163 Z ?_
   focus
     refine Vr<|Yx Z<|Vp<|Vt<|Vr<|Vz Z<|Yv Z<|Wo Z (Xo Jr Z)<|Rs Z<|Vp<|Vu Z (fun h1 => ?_) (fun h1 => ?_); refine Vt<|Ym<|Yx Z<|Vp<|Vy ?_; exact ⟨rfl, (Jf _)⟩; exact Kt
 | succ m ih =>
   intro s k w hl hm
   have hl' := hl
   unfold lim at hl'
   by_cases hk : s.length ≤ k
   · have e : s.drop k = [] := List.drop_eq_nil_of_le Kh
     rw [e, endV, pre_nil]
     refine Yr Tryz.func163 Z Tryz.results163 Tryz.ntmps163 Z ?_
     focus
       refine Vr<|Yx Z<|Vp<|Vt<|Vr<|Vz Z<|Yv Z<|Wo Z (Xo Jr Z)<|Rs Z<|Vp<|Vu Z (fun h1 => ?_) (fun h1 => ?_); refine Vt<|Ym<|Yx Z<|Vp<|Vy ?_; exact ⟨rfl, (Jf _)⟩; exact Kt
   have ih1 : ∀ w, Dz 163 [str s, .int .i64 ((k : Int) + 1)] w (Ret w (.int .i64 (endV (s.drop (k + 1)) s.length))) := fun w => ih s (k + 1) w hl Kh
   have ed := Mf (Nat.lt_of_not_le hk)
   rw [ed]
   generalize hc : s.getD k 0 = c
   have hlen : (s.drop (k + 1)).length = s.length - (k + 1) := Kp
   generalize hr : s.drop (k + 1) = r at ih1 hlen
   by_cases c1 : c = 116
   · subst c1
     have hn : (s.getD k 0).toNat = 116 := by rw [hc]; rfl
     have e : endV (116 :: r) s.length = (k : Int) + 1 := by rw [endV, pre_t]; simp only [hlen]; omega
     rw [e]
     refine Yr Tryz.func163 Z Tryz.results163 Tryz.ntmps163 Z ?_
     focus
       refine Vr<|Yx Z<|Vp<|Vt<|Vr<|Vz Z<|Yv Z<|Wo Z (Xo Jr Z)<|Rs Z<|Vp<|Vv Z fun h1 => ?_; refine Vw<|Vt<|Vr<|Yv Z<|Vz Z<|Wo Z (Yq Jr Z Z Kh) ?_; refine Vp<|Yb<|Vr<|Yo Z<|Ya Z<|Vp<|Vu Z (fun h2 => ?_) (fun h2 => ?_); refine Vr<|Vz Z<|Xf Z<|Yx Z<|Vp<|Vy ?_; exact ⟨rfl, (Jf _)⟩; exact Kt
   by_cases c2 : c = 33 ∨ c = 83 ∨ c = 65
   · have hn : (s.getD k 0).toNat = 33 ∨ (s.getD k 0).toNat = 83 ∨ (s.getD k 0).toNat = 65 := by rw [hc]; rcases c2 with rfl | rfl | rfl <;> simp
     have e : endV (c :: r) s.length = endV r s.length := by
       cases hp : pre r with
       | none => rw [endV, endV, hp, pre_un_none hp c2]
       | some p =>
         obtain ⟨f, r1⟩ := p
         rcases c2 with rfl | rfl | rfl
         · rw [endV, endV, hp, pre_neg hp]
         · rw [endV, endV, hp, pre_S hp]
         · rw [endV, endV, hp, pre_A hp]
     rw [e]
     refine Yr Tryz.func163 Z Tryz.results163 Tryz.ntmps163 Z ?_
     focus
       refine Vr<|Yx Z<|Vp<|Vt<|Vr<|Vz Z<|Yv Z<|Wo Z (Xo Jr Z)<|Rs Z<|Vp<|Vv Z fun h1 => ?_; refine Vw<|Vt<|Vr<|Yv Z<|Vz Z<|Wo Z (Yq Jr Z Z Kh) ?_; refine Vp<|Yb<|Vr<|Yo Z<|Ya Z<|Vp<|Vv Z fun h2 => ?_; refine Vt<|Vr<|Yo Z<|Ya Z<|Vp<|Vu Z (fun h3 => ?_) (fun h3 => ?_); refine Vw<|Vu Z (fun h4 => ?_) (fun h4 => ?_); refine Vr<|Yv Z<|Vz Z<|Xf Z<|Vs Z (Xa (a := .string _) (b := .int _ _) Gp Z Z) (ih1 _) ?_; rintro _ w1 ⟨rfl, E1⟩; refine Yx Z<|Vp<|Vy ?_; exact ⟨rfl, E1⟩; exact Ks; refine Vr<|Yo Z<|Ya Z<|Vp<|Vu Z (fun h4 => ?_) (fun h4 => ?_)
       refine Vw<|Vu Z (fun h5 => ?_) (fun h5 => ?_); refine Vr<|Yv Z<|Vz Z<|Xf Z<|Vs Z (Xa (a := .string _) (b := .int _ _) Gp Z Z) (ih1 _) ?_; rintro _ w1 ⟨rfl, E1⟩; refine Yx Z<|Vp<|Vy ?_; exact ⟨rfl, E1⟩; exact Ks; refine Ym<|Yo Z<|Ya Z<|Vp<|Vu Z (fun h5 => ?_) (fun h5 => ?_); refine Vt<|Ym<|Yv Z<|Vz Z<|Xf Z<|Vs Z (Xa (a := .string _) (b := .int _ _) Gp Z Z) (ih1 _) ?_; rintro _ w1 ⟨rfl, E1⟩; refine Yx Z<|Vp<|Vy ?_; exact ⟨rfl, E1⟩; exact Kt
   by_cases c3 : c = 40
   · subst c3
     have hn : (s.getD k 0).toNat = 40 := by rw [hc]; rfl
     cases hp : pre r with
     | none =>
       have e1 : endV r s.length = -1 := by rw [endV, hp]
       rw [e1] at ih1
       have e : endV (40 :: r) s.length = -1 := by rw [endV, pre_br1 hp]
       rw [e]
       refine Yr Tryz.func163 Z Tryz.results163 Tryz.ntmps163 Z ?_
       focus
         refine Vr<|Yx Z<|Vp<|Vt<|Vr<|Vz Z<|Yv Z<|Wo Z (Xo Jr Z)<|Rs Z<|Vp<|Vv Z fun h1 => ?_; refine Vw<|Vt<|Vr<|Yv Z<|Vz Z<|Wo Z (Yq Jr Z Z Kh) ?_; refine Vp<|Yb<|Vr<|Yo Z<|Ya Z<|Vp<|Vv Z fun h2 => ?_; refine Vt<|Vr<|Yo Z<|Ya Z<|Vp<|Vv Z fun h3 => ?_; refine Vr<|Yo Z<|Ya Z<|Vp<|Vv Z fun h4 => ?_; refine Ym<|Yo Z<|Ya Z<|Vp<|Vv Z fun h5 => ?_; refine Vr<|Yo Z<|Ya Z<|Vp<|Vu Z (fun h6 => ?_) (fun h6 => ?_); refine Vr<|Yv Z<|Vz Z<|Xf Z<|Vs Z (Xa (a := .string _) (b := .int _ _) Gp Z Z) (ih1 _) ?_; rintro _ w1 ⟨rfl, E1⟩
         refine Yx Z<|Vp<|Vt<|Vr<|Vz Z<|Yy Z<|Xi Z (fun h7 => ?_) (fun h7 => ?_); refine Vq Z<|Vq Z<|Vq Z<|Vq Z<|Xy Z<|Xp Z<|Vq Z<|Vq Z<|Vq Z<|Vq Z<|Vq Z<|Vq Z<|Vq Z<|Vq Z<|Vq Z<|Vq Z<|Xy Z<|Vp<|Xe Z ?_; refine Vr<|Yx Z<|Vp<|Vy ?_; exact ⟨rfl, E1⟩; exact Ks; exact Kt
     | some p =>
       obtain ⟨f, r1⟩ := p
       have e1 : endV r s.length = ((s.length - r1.length : Nat) : Int) := by rw [endV, hp]
       have hd := Ro hp
       have hl1 : r.length = f.enc.length + r1.length := by rw [hd]; simp
       have hdm : s.drop (s.length - r1.length) = r1 := by
         have : s.length - r1.length = (k + 1) + f.enc.length := Kh
         rw [this, ← List.drop_drop, hr, hd]; simp
       rw [e1] at ih1
       have J1 : s.length - r1.length + r1.length = s.length := Kh
       have hmk : k < s.length - r1.length := by have := f.enc_pos; omega
       clear e1 hl1 hd
       generalize s.length - r1.length = q at ih1 hdm J1 hmk
       cases r1 with
       | nil =>
         have e : endV (40 :: r) s.length = -1 := by rw [endV, pre_br2 hp (by intro c r2 h; cases h)]
         rw [e]
         simp only [List.length_nil] at J1
         refine Yr Tryz.func163 Z Tryz.results163 Tryz.ntmps163 Z ?_
         focus
           refine Vr<|Yx Z<|Vp<|Vt<|Vr<|Vz Z<|Yv Z<|Wo Z (Xo Jr Z)<|Rs Z<|Vp<|Vv Z fun h1 => ?_; refine Vw<|Vt<|Vr<|Yv Z<|Vz Z<|Wo Z (Yq Jr Z Z Kh) ?_; refine Vp<|Yb<|Vr<|Yo Z<|Ya Z<|Vp<|Vv Z fun h2 => ?_; refine Vt<|Vr<|Yo Z<|Ya Z<|Vp<|Vv Z fun h3 => ?_; refine Vr<|Yo Z<|Ya Z<|Vp<|Vv Z fun h4 => ?_; refine Ym<|Yo Z<|Ya Z<|Vp<|Vv Z fun h5 => ?_; refine Vr<|Yo Z<|Ya Z<|Vp<|Vu Z (fun h6 => ?_) (fun h6 => ?_); refine Vr<|Yv Z<|Vz Z<|Xf Z<|Vs Z (Xa (a := .string _) (b := .int _ _) Gp Z Z) (ih1 _) ?_; rintro _ w1 ⟨rfl, E1⟩
           refine Yx Z<|Vp<|Vt<|Vr<|Vz Z<|Yy Z<|Ui Z fun h7 => ?_; refine Vz Z<|Yv Z<|Wo Z (Xo Jr Z)<|Rs Z<|Xb Z<|Xi Z (fun h8 => ?_) (fun h8 => ?_); refine Vq Z<|Vq Z<|Vq Z<|Vq Z<|Vq Z<|Vq Z<|Vq Z<|Vq Z<|Vq Z<|Vq Z<|Xy Z<|Vp<|Xe Z ?_; refine Vr<|Yx Z<|Vp<|Vy ?_; exact ⟨rfl, E1⟩; exact Kt; exact Kt
       | cons d r2 =>
         simp only [List.length_cons] at J1
         have ed2 := Mf (show q < s.length by omega)
         rw [hdm] at ed2
         obtain ⟨hd1, hd2⟩ := List.cons.inj ed2
         by_cases c4 : d = 38 ∨ d = 124
         · have hn2 : (s.getD q 0).toNat = 38 ∨ (s.getD q 0).toNat = 124 := by rw [← hd1]; rcases c4 with rfl | rfl <;> simp
           have ih2 : ∀ w, Dz 163 [str s, .int .i64 ((q : Int) + 1)] w (Ret w (.int .i64 (endV r2 s.length))) := fun w => by
             have := ih s (q + 1) w hl Kh
             rw [← hd2] at this
             exact this
           have hl2 : r2.length = s.length - (q + 1) := Kh
           cases I2 : pre r2 with
           | none =>
             have e2 : endV r2 s.length = -1 := by rw [endV, I2]
             rw [e2] at ih2
             have e : endV (40 :: r) s.length = -1 := by rw [endV, pre_br3 hp I2]
             rw [e]
             clear ed2 hd1 hd2 hdm hr hc ed e2 e
             refine Yr Tryz.func163 Z Tryz.results163 Tryz.ntmps163 Z ?_
             focus
               refine Vr<|Yx Z<|Vp<|Vt<|Vr<|Vz Z<|Yv Z<|Wo Z (Xo Jr Z)<|Rs Z<|Vp<|Vv Z fun h1 => ?_; refine Vw<|Vt<|Vr<|Yv Z<|Vz Z<|Wo Z (Yq Jr Z Z Kh) ?_; refine Vp<|Yb<|Vr<|Yo Z<|Ya Z<|Vp<|Vv Z fun h2 => ?_; refine Vt<|Vr<|Yo Z<|Ya Z<|Vp<|Vv Z fun h3 => ?_; refine Vr<|Yo Z<|Ya Z<|Vp<|Vv Z fun h4 => ?_; refine Ym<|Yo Z<|Ya Z<|Vp<|Vv Z fun h5 => ?_; refine Vr<|Yo Z<|Ya Z<|Vp<|Vu Z (fun h6 => ?_) (fun h6 => ?_); refine Vr<|Yv Z<|Vz Z<|Xf Z<|Vs Z (Xa (a := .string _) (b := .int _ _) Gp Z Z) (ih1 _) ?_; rintro _ w1 ⟨rfl, E1⟩
               refine Yx Z<|Vp<|Vt<|Vr<|Vz Z<|Yy Z<|Ui Z fun h7 => ?_; refine Vz Z<|Yv Z<|Wo Z (Xo Jr Z)<|Rs Z<|Xb Z<|Qw Z fun h8 => ?_; refine Yv Z<|Vz Z<|Wo Z (Yq Jr Z Z Kh) ?_; refine Qg Z<|Qv Z (fun h9 => ?_) (fun h9 => ?_); refine Yv Z<|Vz Z<|Wo Z (Yq Jr Z Z Kh) ?_; refine Qg Z<|Xy Z<|Xb Z<|Vp<|Qi Z fun h10 => ?_; refine Vw<|Vr<|Yv Z<|Vz Z<|Xf Z<|Vs Z (Xa (a := .string _) (b := .int _ _) Gp Z Z) (ih2 _) ?_; rintro _ w2 ⟨rfl, E2⟩; refine Yx Z<|Vp<|Vt<|Vr<|Vz Z<|Yy Z<|Xi Z (fun h11 => ?_) (fun h11 => ?_)
               refine Vq Z<|Vq Z<|Vq Z<|Vq Z<|Xy Z<|Xp Z<|Vq Z<|Vq Z<|Vq Z<|Vq Z<|Xy Z<|Vp<|Xe Z ?_; refine Vr<|Yx Z<|Vp<|Vy ?_; exact ⟨rfl, exq⟩; exact Ks; refine Vq Z<|Vq Z<|Vq Z<|Vq Z<|Xb Z<|Xb Z<|Vp<|Vx Z ?_; refine Vw<|Vr<|Yv Z<|Vz Z<|Xf Z<|Vs Z (Xa (a := .string _) (b := .int _ _) Gp Z Z) (ih2 _) ?_; rintro _ w2 ⟨rfl, E2⟩; refine Yx Z<|Vp<|Vt<|Vr<|Vz Z<|Yy Z<|Xi Z (fun h10 => ?_) (fun h10 => ?_); refine Vq Z<|Vq Z<|Vq Z<|Vq Z<|Xy Z<|Xp Z<|Vq Z<|Vq Z<|Vq Z<|Vq Z<|Xy Z<|Vp<|Xe Z ?_
               refine Vr<|Yx Z<|Vp<|Vy ?_; exact ⟨rfl, exq⟩; exact Ks; exact Kt
           | some p2 =>
             obtain ⟨g, r3⟩ := p2
             have e2 : endV r2 s.length = ((s.length - r3.length : Nat) : Int) := by rw [endV, I2]
             have hd3 := Ro I2
             have hl3 : r2.length = g.enc.length + r3.length := by rw [hd3]; simp
             have hdm2 : s.drop (s.length - r3.length) = r3 := by
               have : s.length - r3.length = (q + 1) + g.enc.length := Kh
               rw [this, ← List.drop_drop, ← hd2, hd3]; simp
             rw [e2] at ih2
             have J2 : s.length - r3.length + r3.length = s.length := Kh
             clear e2 hl3 hd3 hl2
             generalize s.length - r3.length = z at ih2 hdm2 J2
             cases r3 with
             | nil =>
               have e : endV (40 :: r) s.length = -1 := by rw [endV, pre_br4 hp I2 (by intro r4 h; cases h)]
               rw [e]
               simp only [List.length_nil] at J2
               clear ed2 hd1 hd2 hdm hdm2 hr hc ed e
               refine Yr Tryz.func163 Z Tryz.results163 Tryz.ntmps163 Z ?_
               focus
                 refine Vr<|Yx Z<|Vp<|Vt<|Vr<|Vz Z<|Yv Z<|Wo Z (Xo Jr Z)<|Rs Z<|Vp<|Vv Z fun h1 => ?_; refine Vw<|Vt<|Vr<|Yv Z<|Vz Z<|Wo Z (Yq Jr Z Z Kh) ?_; refine Vp<|Yb<|Vr<|Yo Z<|Ya Z<|Vp<|Vv Z fun h2 => ?_; refine Vt<|Vr<|Yo Z<|Ya Z<|Vp<|Vv Z fun h3 => ?_; refine Vr<|Yo Z<|Ya Z<|Vp<|Vv Z fun h4 => ?_; refine Ym<|Yo Z<|Ya Z<|Vp<|Vv Z fun h5 => ?_; refine Vr<|Yo Z<|Ya Z<|Vp<|Vu Z (fun h6 => ?_) (fun h6 => ?_); refine Vr<|Yv Z<|Vz Z<|Xf Z<|Vs Z (Xa (a := .string _) (b := .int _ _) Gp Z Z) (ih1 _) ?_; rintro _ w1 ⟨rfl, E1⟩
                 refine Yx Z<|Vp<|Vt<|Vr<|Vz Z<|Yy Z<|Ui Z fun h7 => ?_; refine Vz Z<|Yv Z<|Wo Z (Xo Jr Z)<|Rs Z<|Xb Z<|Qw Z fun h8 => ?_; refine Yv Z<|Vz Z<|Wo Z (Yq Jr Z Z Kh) ?_; refine Qg Z<|Qv Z (fun h9 => ?_) (fun h9 => ?_); refine Yv Z<|Vz Z<|Wo Z (Yq Jr Z Z Kh) ?_; refine Qg Z<|Xy Z<|Xb Z<|Vp<|Qi Z fun h10 => ?_; refine Vw<|Vr<|Yv Z<|Vz Z<|Xf Z<|Vs Z (Xa (a := .string _) (b := .int _ _) Gp Z Z) (ih2 _) ?_; rintro _ w2 ⟨rfl, E2⟩; refine Yx Z<|Vp<|Vt<|Vr<|Vz Z<|Yy Z<|Ui Z fun h11 => ?_
                 refine Vz Z<|Yv Z<|Wo Z (Xo Jr Z)<|Rs Z<|Xb Z<|Xi Z (fun h12 => ?_) (fun h12 => ?_); refine Vq Z<|Vq Z<|Vq Z<|Vq Z<|Xy Z<|Vp<|Xe Z ?_; refine Vr<|Yx Z<|Vp<|Vy ?_; exact ⟨rfl, exq⟩; exact Kt; refine Vq Z<|Vq Z<|Vq Z<|Vq Z<|Xb Z<|Xb Z<|Vp<|Vx Z ?_; refine Vw<|Vr<|Yv Z<|Vz Z<|Xf Z<|Vs Z (Xa (a := .string _) (b := .int _ _) Gp Z Z) (ih2 _) ?_; rintro _ w2 ⟨rfl, E2⟩; refine Yx Z<|Vp<|Vt<|Vr<|Vz Z<|Yy Z<|Ui Z fun h10 => ?_; refine Vz Z<|Yv Z<|Wo Z (Xo Jr Z)<|Rs Z<|Xb Z<|Xi Z (fun h11 => ?_) (fun h11 => ?_)
                 refine Vq Z<|Vq Z<|Vq Z<|Vq Z<|Xy Z<|Vp<|Xe Z ?_; refine Vr<|Yx Z<|Vp<|Vy ?_; exact ⟨rfl, exq⟩; exact Kt; exact Kt
             | cons d3 r4 =>
               simp only [List.length_cons] at J2
               have ed3 := Mf (show z < s.length by omega)
               rw [hdm2] at ed3
               obtain ⟨hd3, hd4⟩ := List.cons.inj ed3
               by_cases c5 : d3 = 41
               · subst c5
                 have hn3 : (s.getD z 0).toNat = 41 := by rw [← hd3]; rfl
                 have e : endV (40 :: r) s.length = (z : Int) + 1 := by
                   have : pre (40 :: r) = some (if d = 38 then Fm.and f g else Fm.or f g, r4) := by
                     rcases c4 with rfl | rfl
                     · exact pre_and hp I2
                     · exact pre_or hp I2
                   rw [endV, this]
                   simp only
                   omega
                 rw [e]
                 clear ed2 hd1 hd2 hdm hdm2 hr hc ed e ed3 hd3 hd4
                 refine Yr Tryz.func163 Z Tryz.results163 Tryz.ntmps163 Z ?_
                 focus
                   refine Vr<|Yx Z<|Vp<|Vt<|Vr<|Vz Z<|Yv Z<|Wo Z (Xo Jr Z)<|Rs Z<|Vp<|Vv Z fun h1 => ?_; refine Vw<|Vt<|Vr<|Yv Z<|Vz Z<|Wo Z (Yq Jr Z Z Kh) ?_; refine Vp<|Yb<|Vr<|Yo Z<|Ya Z<|Vp<|Vv Z fun h2 => ?_; refine Vt<|Vr<|Yo Z<|Ya Z<|Vp<|Vv Z fun h3 => ?_; refine Vr<|Yo Z<|Ya Z<|Vp<|Vv Z fun h4 => ?_; refine Ym<|Yo Z<|Ya Z<|Vp<|Vv Z fun h5 => ?_; refine Vr<|Yo Z<|Ya Z<|Vp<|Vu Z (fun h6 => ?_) (fun h6 => ?_); refine Vr<|Yv Z<|Vz Z<|Xf Z<|Vs Z (Xa (a := .string _) (b := .int _ _) Gp Z Z) (ih1 _) ?_; rintro _ w1 ⟨rfl, E1⟩
                   refine Yx Z<|Vp<|Vt<|Vr<|Vz Z<|Yy Z<|Ui Z fun h7 => ?_; refine Vz Z<|Yv Z<|Wo Z (Xo Jr Z)<|Rs Z<|Xb Z<|Qw Z fun h8 => ?_; refine Yv Z<|Vz Z<|Wo Z (Yq Jr Z Z Kh) ?_; refine Qg Z<|Qv Z (fun h9 => ?_) (fun h9 => ?_); refine Yv Z<|Vz Z<|Wo Z (Yq Jr Z Z Kh) ?_; refine Qg Z<|Xy Z<|Xb Z<|Vp<|Qi Z fun h10 => ?_; refine Vw<|Vr<|Yv Z<|Vz Z<|Xf Z<|Vs Z (Xa (a := .string _) (b := .int _ _) Gp Z Z) (ih2 _) ?_; rintro _ w2 ⟨rfl, E2⟩; refine Yx Z<|Vp<|Vt<|Vr<|Vz Z<|Yy Z<|Ui Z fun h11 => ?_
                   refine Vz Z<|Yv Z<|Wo Z (Xo Jr Z)<|Rs Z<|Xb Z<|Qw Z fun h12 => ?_; refine Yv Z<|Vz Z<|Wo Z (Yq Jr Z Z Kh) ?_; refine Qg Z<|Xb Z<|Vp<|Qi Z fun h13 => ?_; refine Vw<|Vr<|Vz Z<|Xf Z<|Yx Z<|Vp<|Vy ?_; exact ⟨rfl, exq⟩; refine Vq Z<|Vq Z<|Vq Z<|Vq Z<|Xb Z<|Xb Z<|Vp<|Vx Z ?_; refine Vw<|Vr<|Yv Z<|Vz Z<|Xf Z<|Vs Z (Xa (a := .string _) (b := .int _ _) Gp Z Z) (ih2 _) ?_; rintro _ w2 ⟨rfl, E2⟩; refine Yx Z<|Vp<|Vt<|Vr<|Vz Z<|Yy Z<|Ui Z fun h10 => ?_
                   refine Vz Z<|Yv Z<|Wo Z (Xo Jr Z)<|Rs Z<|Xb Z<|Qw Z fun h11 => ?_; refine Yv Z<|Vz Z<|Wo Z (Yq Jr Z Z Kh) ?_; refine Qg Z<|Xb Z<|Vp<|Qi Z fun h12 => ?_; refine Vw<|Vr<|Vz Z<|Xf Z<|Yx Z<|Vp<|Vy ?_; exact ⟨rfl, exq⟩; exact Kt
               · have hn3 : (s.getD z 0).toNat ≠ 41 := by rw [← hd3]; exact fun h => c5 (UInt8.toNat_inj.1 h)
                 have e : endV (40 :: r) s.length = -1 := by rw [endV, pre_br4 hp I2 (by intro r4 h; exact c5 (List.cons.inj h).1)]
                 rw [e]
                 clear ed2 hd1 hd2 hdm hdm2 hr hc ed e ed3 hd3 hd4
                 refine Yr Tryz.func163 Z Tryz.results163 Tryz.ntmps163 Z ?_
                 focus
                   refine Vr<|Yx Z<|Vp<|Vt<|Vr<|Vz Z<|Yv Z<|Wo Z (Xo Jr Z)<|Rs Z<|Vp<|Vv Z fun h1 => ?_; refine Vw<|Vt<|Vr<|Yv Z<|Vz Z<|Wo Z (Yq Jr Z Z Kh) ?_; refine Vp<|Yb<|Vr<|Yo Z<|Ya Z<|Vp<|Vv Z fun h2 => ?_; refine Vt<|Vr<|Yo Z<|Ya Z<|Vp<|Vv Z fun h3 => ?_; refine Vr<|Yo Z<|Ya Z<|Vp<|Vv Z fun h4 => ?_; refine Ym<|Yo Z<|Ya Z<|Vp<|Vv Z fun h5 => ?_; refine Vr<|Yo Z<|Ya Z<|Vp<|Vu Z (fun h6 => ?_) (fun h6 => ?_); refine Vr<|Yv Z<|Vz Z<|Xf Z<|Vs Z (Xa (a := .string _) (b := .int _ _) Gp Z Z) (ih1 _) ?_; rintro _ w1 ⟨rfl, E1⟩
                   refine Yx Z<|Vp<|Vt<|Vr<|Vz Z<|Yy Z<|Ui Z fun h7 => ?_; refine Vz Z<|Yv Z<|Wo Z (Xo Jr Z)<|Rs Z<|Xb Z<|Qw Z fun h8 => ?_; refine Yv Z<|Vz Z<|Wo Z (Yq Jr Z Z Kh) ?_; refine Qg Z<|Qv Z (fun h9 => ?_) (fun h9 => ?_); refine Yv Z<|Vz Z<|Wo Z (Yq Jr Z Z Kh) ?_; refine Qg Z<|Xy Z<|Xb Z<|Vp<|Qi Z fun h10 => ?_; refine Vw<|Vr<|Yv Z<|Vz Z<|Xf Z<|Vs Z (Xa (a := .string _) (b := .int _ _) Gp Z Z) (ih2 _) ?_; rintro _ w2 ⟨rfl, E2⟩; refine Yx Z<|Vp<|Vt<|Vr<|Vz Z<|Yy Z<|Ui Z fun h11 => ?_
                   refine Vz Z<|Yv Z<|Wo Z (Xo Jr Z)<|Rs Z<|Xb Z<|Qw Z fun h12 => ?_; refine Yv Z<|Vz Z<|Wo Z (Yq Jr Z Z Kh) ?_; refine Qg Z<|Xb Z<|Vp<|Xn Z (fun h13 => ?_) (fun h13 => ?_); refine Vr<|Yx Z<|Vp<|Vy ?_; exact ⟨rfl, exq⟩; exact Kt; refine Vq Z<|Vq Z<|Vq Z<|Vq Z<|Xb Z<|Xb Z<|Vp<|Vx Z ?_; refine Vw<|Vr<|Yv Z<|Vz Z<|Xf Z<|Vs Z (Xa (a := .string _) (b := .int _ _) Gp Z Z) (ih2 _) ?_; rintro _ w2 ⟨rfl, E2⟩; refine Yx Z<|Vp<|Vt<|Vr<|Vz Z<|Yy Z<|Ui Z fun h10 => ?_
                   refine Vz Z<|Yv Z<|Wo Z (Xo Jr Z)<|Rs Z<|Xb Z<|Qw Z fun h11 => ?_; refine Yv Z<|Vz Z<|Wo Z (Yq Jr Z Z Kh) ?_; refine Qg Z<|Xb Z<|Vp<|Xn Z (fun h12 => ?_) (fun h12 => ?_); refine Vr<|Yx Z<|Vp<|Vy ?_; exact ⟨rfl, exq⟩; exact Kt; exact Kt
         · have hn2 : (s.getD q 0).toNat ≠ 38 ∧ (s.getD q 0).toNat ≠ 124 := by
             rw [← hd1]; exact ⟨fun h => c4 (.inl (UInt8.toNat_inj.1 h)), fun h => c4 (.inr (UInt8.toNat_inj.1 h))⟩
           have e : endV (40 :: r) s.length = -1 := by
             rw [endV, pre_br2 hp (by
               intro c r2 h
               obtain ⟨rfl, _⟩ := List.cons.inj h
               exact ⟨fun h => c4 (.inl h), fun h => c4 (.inr h)⟩)]
           rw [e]
           clear ed2 hd1 hd2 hdm hr hc ed e
           refine Yr Tryz.func163 Z Tryz.results163 Tryz.ntmps163 Z ?_
           focus
             refine Vr<|Yx Z<|Vp<|Vt<|Vr<|Vz Z<|Yv Z<|Wo Z (Xo Jr Z)<|Rs Z<|Vp<|Vv Z fun h1 => ?_; refine Vw<|Vt<|Vr<|Yv Z<|Vz Z<|Wo Z (Yq Jr Z Z Kh) ?_; refine Vp<|Yb<|Vr<|Yo Z<|Ya Z<|Vp<|Vv Z fun h2 => ?_; refine Vt<|Vr<|Yo Z<|Ya Z<|Vp<|Vv Z fun h3 => ?_; refine Vr<|Yo Z<|Ya Z<|Vp<|Vv Z fun h4 => ?_; refine Ym<|Yo Z<|Ya Z<|Vp<|Vv Z fun h5 => ?_; refine Vr<|Yo Z<|Ya Z<|Vp<|Vu Z (fun h6 => ?_) (fun h6 => ?_); refine Vr<|Yv Z<|Vz Z<|Xf Z<|Vs Z (Xa (a := .string _) (b := .int _ _) Gp Z Z) (ih1 _) ?_; rintro _ w1 ⟨rfl, E1⟩
             refine Yx Z<|Vp<|Vt<|Vr<|Vz Z<|Yy Z<|Ui Z fun h7 => ?_; refine Vz Z<|Yv Z<|Wo Z (Xo Jr Z)<|Rs Z<|Xb Z<|Qw Z fun h8 => ?_; refine Yv Z<|Vz Z<|Wo Z (Yq Jr Z Z Kh) ?_; refine Qg Z<|Qv Z (fun h9 => ?_) (fun h9 => ?_); refine Yv Z<|Vz Z<|Wo Z (Yq Jr Z Z Kh) ?_; refine Qg Z<|Xy Z<|Xb Z<|Vp<|Xn Z (fun h10 => ?_) (fun h10 => ?_); refine Vr<|Yx Z<|Vp<|Vy ?_; exact ⟨rfl, E1⟩; exact Kt; exact Kt; exact Kt
   · have hn : (s.getD k 0).toNat ≠ 116 ∧ (s.getD k 0).toNat ≠ 33 ∧ (s.getD k 0).toNat ≠ 83 ∧ (s.getD k 0).toNat ≠ 65 ∧ (s.getD k 0).toNat ≠ 40 := by
       rw [hc]
       refine ⟨fun h => c1 (UInt8.toNat_inj.1 h), fun h => c2 (.inl (UInt8.toNat_inj.1 h)), fun h => c2 (.inr (.inl (UInt8.toNat_inj.1 h))), fun h => c2 (.inr (.inr (UInt8.toNat_inj.1 h))), fun h => c3 (UInt8.toNat_inj.1 h)⟩
     have e : endV (c :: r) s.length = -1 := by
       rw [endV, pre_other ⟨c1, fun h => c2 (.inl h), fun h => c2 (.inr (.inl h)), fun h => c2 (.inr (.inr h)), c3⟩]
     rw [e]
     refine Yr Tryz.func163 Z Tryz.results163 Tryz.ntmps163 Z ?_
     focus
       refine Vr<|Yx Z<|Vp<|Vt<|Vr<|Vz Z<|Yv Z<|Wo Z (Xo Jr Z)<|Rs Z<|Vp<|Vv Z fun h1 => ?_; refine Vw<|Vt<|Vr<|Yv Z<|Vz Z<|Wo Z (Yq Jr Z Z Kh) ?_; refine Vp<|Yb<|Vr<|Yo Z<|Ya Z<|Vp<|Vv Z fun h2 => ?_; refine Vt<|Vr<|Yo Z<|Ya Z<|Vp<|Vv Z fun h3 => ?_; refine Vr<|Yo Z<|Ya Z<|Vp<|Vv Z fun h4 => ?_; refine Ym<|Yo Z<|Ya Z<|Vp<|Vv Z fun h5 => ?_; refine Vr<|Yo Z<|Ya Z<|Vp<|Vv Z fun h6 => ?_; refine Vw<|Vr<|Yx Z<|Vp<|Vy ?_; exact ⟨rfl, (Jf _)⟩
theorem Xs {w0:World} (w:World) {br m:Nat} (n:Int) (hr:Rdr w0 w br m) (hm:m≤1000000000) :
  Dz 75 [.pointer (some ⟨br,0,none⟩),.int .i64 n] w (RetD w0 w br (m+1) (fun x:Nat=>.int .i64 (x:Int)) (fun x _=>1≤n→(x:Int) < n)):=by
 obtain ⟨E0,hge,hlt,vb,bs,p,hb,hlen,hB,hp⟩:=hr
 have hbs:=hb.le
 refine Yr Tryz.func75 Z Tryz.results75 Tryz.ntmps75 Z ?_
 have hG:w.grownBy w (some br):=Ru _ _
 have I1:(p:Int)+1 - 1=p:=Kh
 rcases Nat.eq_zero_or_pos bs.length with h0 | h0
 ·have e0:bs=[]:=List.eq_nil_of_length_eq_zero h0
  focus
   have:=E0.Z;refine Vr<|Yx Z<|Vp<|Vr<|Uv Z<|Uv Z<|Wo Z (Ud Z)<|Yl Zi Ji Z<|Xx Jk hB Z<|Xf Z<|Wo Z (Ud Z)<|Yl Zi Ji Z<|Um (v:=.int _ _) Z Ji Z Z Z hB Kp Kh E0 ?_;rintro w1 E1 hB K1 Z1;simp only [List.set] at hB;have hG:=Yw hG E0 E1 K1 Z1 Kd;refine Vp<|Vt<|Vr<|Vz Z<|Yy Z<|Xi Z (fun h1=>?_) (fun h1=>?_);refine Vq Z<|Vq Z<|Vq Z<|Vq Z<|Vq Z<|Vq Z<|Xy Z<|Vp<|Xe Z ?_;refine Vr<|Yx Z<|Vp<|Vy ?_;refine Yh (v:=.int _ _) Z ?_;rotate_left
   refine Uv Z<|Wo Z (Ud Z)<|Yl Zi Zu Z<|Xw vb Zv hB Z<|Ys Gm Z hb<|Yo Z<|Xb Z<|Vp<|Vu Z (fun h2=>?_) (fun h2=>?_);refine Vr<|Yx Z<|Vp<|Vy ?_;refine Yh (v:=.int _ _) Z ?_;rotate_left;exact Kt
  all_goals exact ⟨0,rfl,hG,⟨Kk,hge,hB.lt,vb,bs,p+1,hb,hlen,hB,Kh⟩,fun h=>Kh⟩
 have hL:(0:Int) < (bs.length:Int):=Kh
 have J1:=Int.emod_lt_of_pos (p:Int) hL
 have J2:=Int.emod_nonneg (p:Int) (show (bs.length:Int)≠0 by omega)
 have J3:=Int.emod_lt_of_pos ((p:Int)*7+3) hL
 have J4:=Int.emod_nonneg ((p:Int)*7+3) (show (bs.length:Int)≠0 by omega)
 have J5:(p:Int) / (bs.length:Int)≤p:=Int.ediv_le_self _ Kh
 have J6:0≤(p:Int) / (bs.length:Int):=Int.ediv_nonneg Kh Kh
 have J1:=Int.emod_lt_of_pos ((p:Int)+1 - 1) hL
 have J2:=Int.emod_nonneg ((p:Int)+1 - 1) (show (bs.length:Int)≠0 by omega)
 have J3:=Int.emod_lt_of_pos (((p:Int)+1 - 1)*7+3) hL
 have J4:=Int.emod_nonneg (((p:Int)+1 - 1)*7+3) (show (bs.length:Int)≠0 by omega)
 have J5:((p:Int)+1 - 1) / (bs.length:Int)≤p:=by rw [I1];exact J5
 have J6:0≤((p:Int)+1 - 1) / (bs.length:Int):=by rw [I1];exact J6
 focus
  have:=E0.Z;refine Vr<|Yx Z<|Vp<|Vr<|Uv Z<|Uv Z<|Wo Z (Ud Z)<|Yl Zi Ji Z<|Xx Jk hB Z<|Xf Z<|Wo Z (Ud Z)<|Yl Zi Ji Z<|Um (v:=.int _ _) Z Ji Z Z Z hB Kp Kh E0 ?_;rintro w1 E1 hB K1 Z1;simp only [List.set] at hB;have hG:=Yw hG E0 E1 K1 Z1 Kd;refine Vp<|Vt<|Vr<|Vz Z<|Yy Z<|Xi Z (fun h1=>?_) (fun h1=>?_);refine Vq Z<|Vq Z<|Vq Z<|Vq Z<|Vq Z<|Vq Z<|Xy Z<|Vp<|Xe Z ?_;refine Vr<|Yx Z<|Vp<|Vy ?_;refine Yh (v:=.int _ _) Z ?_;rotate_left
  refine Uv Z<|Wo Z (Ud Z)<|Yl Zi Zu Z<|Xw vb Zv hB Z<|Ys Gm Z hb<|Yo Z<|Xb Z<|Vp<|Vv Z fun h2=>?_;refine Vw<|Vt<|Ym<|Uv Z<|Wo Z (Ud Z)<|Yl Zi Ji Z<|Xx Jk hB Z<|Sc Z<|Yx Z<|Vp<|Vt<|Vt<|Ym<|Vz Z<|Uv Z<|Wo Z (Ud Z)<|Yl Zi Zu Z<|Xw vb Zv hB Z<|Ys Gm Z hb<|Yy Z<|Vp<|Vu Z (fun h3=>?_) (fun h3=>?_)
  refine Vr<|Uv Z<|Wo Z (Ud Z)<|Yl Zi Zu Z<|Xw vb Zv hB Z<|Vz Z<|Wo_getB_z Gm Gz Zw Z (fun _=>Z) Z hb E1 Z Km ?_;rintro _ n1 hn1 hn1';refine Wo Z (Rv Gw Zl Z Kh) ?_;refine Vz Z<|Wo Z (Li Z Z Kh) ?_;refine Yx Z<|Vp<|Vy ?_;refine Yh (v:=.int _ _) Z ?_;rotate_left;refine Vw<|Vt<|Qe mixed Ki Z ?_;refine WqmP Z<|Uq Z (fun _ _=>Ud Z) ?_;refine Qu Zi Zu Z<|Uq (v:=vb) Z (fun w' hw'=>Xd Zv Z ((hB.J hw').cell Z)) ?_;refine Sv Z<|WqmP Z<|Uq Z (fun _ _=>Ud Z) ?_
  refine Qu Zi Zu Z<|Uq (v:=vb) Z (fun w' hw'=>Xd Zv Z ((hB.J hw').cell Z)) ?_;refine Uq Z (fun _ _=>Rw Gm Z hb) ?_;refine Uq Z (fun _ _=>Li Z Z Kh) ?_;refine Wq_getB_z Gm Gz Zw Z (fun _=>Z) Z hb E1 Z Km ?_;rintro _ n1 hn1 hn1';refine Uq Z (fun _ _=>Rv Gw Zl Z Kh) ?_;refine Uq Z (fun _ _=>Qz Z Z Kh) ?_;refine WqmP Z<|Uq Z (fun _ _=>Ud Z) ?_;refine Qu Zi Zu Z<|Uq (v:=vb) Z (fun w' hw'=>Xd Zv Z ((hB.J hw').cell Z)) ?_;refine Sv Z<|Uq Z (fun _ _=>Qz Z Z Kh) ?_
  refine Uq Z (fun _ _=>Qj Z Z Kh) ?_;refine WqmP Z<|Uq Z (fun _ _=>Ud Z) ?_;refine Qu Zi Zu Z<|Uq (v:=vb) Z (fun w' hw'=>Xd Zv Z ((hB.J hw').cell Z)) ?_;refine Uq Z (fun _ _=>Rw Gm Z hb) ?_;refine Uq Z (fun _ _=>Li Z Z Kh) ?_;refine Wq_getB_z Gm Gz Zw Z (fun _=>Z) Z hb E1 Z Km ?_;rintro _ n2 hn2 hn2';refine Uq Z (fun _ _=>Rv Gw Zl Z Kh) ?_;refine Uq Z (fun _ _=>Qz Z Z Kh) ?_;refine Uq Z (fun _ _=>Qj Z Z Kh) ?_;refine Sv Z<|Uq Z (fun _ _=>Qz Z Z Kh) ?_;refine Uq Z (fun _ _=>Qj Z Z Kh) ?_
  refine Sv Z<|WqmP Z<|Uq Z (fun _ _=>Ud Z) ?_;refine Qu Zi Zu Z<|Uq (v:=vb) Z (fun w' hw'=>Xd Zv Z ((hB.J hw').cell Z)) ?_;refine Uq Z (fun _ _=>Rw Gm Z hb) ?_;refine Uq Z (fun _ _=>Rd Z Z Kh) ?_;refine Uq Z (fun _ _=>Qz Z Z Kh) ?_;refine Uq Z (fun _ _=>Qj Z Z Kh) ?_;refine WqaI Z<|Ux (fun w2 E2=>?_);have hG:=Yf hG E2;have:=E2.Z;refine Vt<|Ym<|Vz Z<|Vz Z<|Wo Z (Rd Z Z Kh) ?_;refine Wo Z (opv_xor Z Z Kh) ?_;refine Yx Z<|Vp<|Vr<|Vz Z<|Vz Z<|Wo Z (Li Z Z Kh) ?_;refine Yx Z<|Vp<|Vy ?_;refine Yh (v:=.int _ _) Z ?_;rotate_left
 ·exact ⟨0,rfl,hG,⟨Kk,hge,hB.lt,vb,bs,p+1,hb,hlen,hB,Kh⟩,fun h=>Kh⟩
 ·have e:=Int.emod_nonneg (n1:Int) (show n≠0 by omega)
  refine ⟨((n1:Int) % n).toNat,by simp only [Int.toNat_of_nonneg e],hG,⟨Kk,hge,hB.lt,vb,bs,p+1,hb,hlen,hB,Kh⟩,fun h=>?_⟩
  simp only [Int.toNat_of_nonneg e]
  exact Int.emod_lt_of_pos _ Kh
 ·refine Yh (v:=.int .i64 _) Z ?_
  generalize hz:((((n1*131:Int)+n2*1117+((p:Int)+1 - 1)*29+((p:Int)+1 - 1) / (bs.length:Int)*53).toNat ^^^ (((n1*131:Int)+n2*1117+((p:Int)+1 - 1)*29+((p:Int)+1 - 1) / (bs.length:Int)*53) / 64).toNat:Nat):Int)=z
  have Z0:0≤z:=by rw [← hz];omega
  have hB:=hB.J (show Ext w1 w2 by assumption)
  have e:=Int.emod_nonneg z (show n≠0 by omega)
  refine ⟨(z % n).toNat,by simp only [Int.toNat_of_nonneg e],hG,⟨E1.K Kk,hge,hB.lt,vb,bs,p+1,hb,hlen,hB,Kh⟩,fun h=>?_⟩
  simp only [Int.toNat_of_nonneg e]
  exact Int.emod_lt_of_pos _ Kh
theorem odd_ok {w0:World} (w:World) {br m:Nat} (n:Int) (hr:Rdr w0 w br m) (hm:m≤1000000000) (hn : -1000000≤n∧n≤1000000) :
  Dz 76 [.pointer (some ⟨br,0,none⟩),.int .i64 n] w (RetD w0 w br (m+1) Value.bool (fun _ _=>True)):=by
 refine Yr Tryz.func76 Z Tryz.results76 Tryz.ntmps76 Z ?_
 have hG:w.grownBy w (some br):=Ru _ _
 focus
  refine Vr<|Ya Z<|Vp<|Vr<|Vz Z<|Qo Z<|Xi Z (fun h1=>?_) (fun h1=>?_);refine Uv Z<|Vz Z<|Vs Z (Xa (a:=.pointer _) (b:=.int _ _) Jy Z Z) (Xs _ _ Kk Kk) ?_;rintro _ w1 ⟨y1,rfl,E1,Q1,L1⟩;(try dsimp only at L1);have:=Q1.lt;have D1:=Q1.old;have hG:=Ye hG E1;have:=E1.Z;refine Vz Z<|Sc Z<|Yo Z<|Xy Z<|Ya Z<|Vp<|Vy ?_;refine Yh (v:=.bool _) Z ?_;rotate_left;refine Vq Z<|Vq Z<|Vq Z<|Vq Z<|Vq Z<|Vq Z<|Xb Z<|Ya Z<|Vp<|Vy ?_;refine Yh (v:=.bool _) Z ?_;rotate_left
 all_goals first | exact ⟨_,rfl,hG,Q1,trivial⟩ | exact ⟨_,rfl,hG,hr.le Kh,trivial⟩
theorem flat112:Flat Tryz.prog 112 [.slice none 0 0,.int .i64 0]:=⟨_,Tryz.underlying112,fun _=>Ki,fun _=>Ki⟩
theorem open_ok (w:World) (v:Value) (xs:List UInt8) (h:Bytes w v xs) (hc:CapOk v) :
  Dz 55 [v] w (RetX w (fun br:Nat=>.pointer (some ⟨br,0,none⟩)) (fun br w'=>Rdr w w' br 0)):=by
 refine Yr Tryz.func55 Z Tryz.results55 Tryz.ntmps55 Z ?_
 have hl:=h.le
 obtain ⟨a,c,rfl,hR⟩:=id h
 obtain ⟨a',l',c',e,hcap⟩:=hc
 cases e
 by_cases h2:2000 < xs.length
 ·obtain ⟨b,o,u,rfl,_⟩:=hR.at (show 0 < xs.length by omega)
  have hT:=h.take (cap':=c) 2000 Kh
  focus
   refine Vr<|Qn Z<|Vp<|Vt<|Vr<|Ri Z<|Ys Gm Z h<|Qo Z<|Vp<|Vu Z (fun h1=>?_) (fun h1=>?_);refine Ym<|Ri Z<|Wo Z (So Gm Gz Z Z Kh) ?_;refine Uj Z<|Vp<|Vt<|Ym<|Ri Z<|Wo Z (Yu (ps:=[(0,.slice _ _ _)]) (cs:=[_,_]) flat112 Z Z)<|Xu Z Z Z ?_;rintro b1 w1 H1 E1 B1;have:=B1.lt;have:=E1.Z;refine Qn Z<|Vp<|Vy ?_;refine Yh (v:=.pointer _) Z ?_;refine ⟨E1,_,Z,?_⟩;(try dsimp only);rotate_left;exact Kt
  all_goals exact ⟨Kk,Kk,Kk,_,_,0,hT,Kg,Kk,Kh⟩
 ·focus
   refine Vr<|Qn Z<|Vp<|Vt<|Vr<|Ri Z<|Ys Gm Z h<|Qo Z<|Vp<|Vv Z fun h1=>?_;refine Vw<|Vt<|Ym<|Ri Z<|Wo Z (Yu (ps:=[(0,.slice _ _ _)]) (cs:=[_,_]) flat112 Z Z)<|Xu Z Z Z ?_;rintro b1 w1 H1 E1 B1;have:=B1.lt;have:=E1.Z;refine Qn Z<|Vp<|Vy ?_;refine Yh (v:=.pointer _) Z ?_;refine ⟨E1,_,Z,?_⟩;(try dsimp only)
  all_goals exact ⟨Kk,Kk,Kk,_,_,0,h,Kh,Kk,Kh⟩
set_option linter.unusedSimpArgs false
theorem isCode_ok (n:Int) (w:World):Dz 127 [.int .i64 n] w (Ret w (.bool (decide (0≤n∧n≤65535)))):=by
 refine Yr Tryz.func127 Z Tryz.results127 Tryz.ntmps127 Z ?_
 focus
  refine Vr<|Ya Z<|Vp<|Vr<|Vz Z<|Rs Z<|Xi Z (fun h1=>?_) (fun h1=>?_);refine Vz Z<|Wsleq Z<|Xy Z<|Ya Z<|Vp<|Vy ?_;refine Yh (v:=.bool _) Z ?_;refine ⟨congrArg Value.bool ?_,(Jf _)⟩;rotate_left;refine Vq Z<|Vq Z<|Xb Z<|Ya Z<|Vp<|Vy ?_;refine Yh (v:=.bool _) Z ?_;refine ⟨congrArg Value.bool ?_,(Jf _)⟩;rotate_left
 ·exact decide_eq_decide.2 Kh
 ·exact (Jc Kh).symm
def hasC (n m:Int):Bool:=decide (0≤n∧n≤65535∧0≤m∧m≤15) && n.toNat.testBit m.toNat
theorem and_one (x:Nat) (k:Nat):(((x >>> k) &&& 1:Nat):Int)=1↔x.testBit k=true:=by
 rw [Nat.testBit_eq_decide_div_mod_eq,Nat.and_one_is_mod,Nat.shiftRight_eq_div_pow,decide_eq_true_iff]
 generalize x / 2 ^ k=q
 omega
theorem Has_ok (n m:Int) (w:World):Dz 74 [.int .i64 n,.int .i64 m] w (Ret w (.bool (hasC n m))):=by
 refine Yr Tryz.func74 Z Tryz.results74 Tryz.ntmps74 Z ?_
 focus
  refine Vr<|Ya Z<|Vp<|Vr<|Vz Z<|Vs Z (Xh (a:=.int _ _) Tryz.call127 Z) (isCode_ok _ _) ?_;rintro _ w1 ⟨rfl,E1⟩;refine Xi Z (fun h1=>?_) (fun h1=>?_);refine Vz Z<|Vs Z (Xh (a:=.int _ _) Tryz.call127 Z) (isCode_ok _ _) ?_;rintro _ w2 ⟨rfl,E2⟩;refine Xy Z<|Xi Z (fun h2=>?_) (fun h2=>?_);refine Vz Z<|Wsleq Z<|Xy Z<|Xi Z (fun h3=>?_) (fun h3=>?_);refine Vz Z<|Vz Z<|Wo Z (opv_shr Z Z Kh) ?_;refine Wo Z (opv_and Z Z ⟨Int.natCast_nonneg _,Kh⟩) ?_;refine Yo Z<|Xy Z<|Ya Z<|Vp<|Vy ?_;refine Yh (v:=.bool _) Z ?_;refine ⟨congrArg Value.bool ?_,exq⟩;rotate_left;refine Vq Z<|Vq Z<|Vq Z<|Vq Z<|Vq Z<|Xb Z<|Ya Z<|Vp<|Vy ?_
  refine Yh (v:=.bool _) Z ?_;refine ⟨congrArg Value.bool ?_,exq⟩;rotate_left;refine Vq Z<|Vq Z<|Xb Z<|Xp Z<|Vq Z<|Vq Z<|Vq Z<|Vq Z<|Vq Z<|Xb Z<|Ya Z<|Vp<|Vy ?_;refine Yh (v:=.bool _) Z ?_;refine ⟨congrArg Value.bool ?_,exq⟩;rotate_left;refine Vq Z<|Vq Z<|Xb Z<|Xp Z<|Vq Z<|Vq Z<|Xb Z<|Xp Z<|Vq Z<|Vq Z<|Vq Z<|Vq Z<|Vq Z<|Xb Z<|Ya Z<|Vp<|Vy ?_;refine Yh (v:=.bool _) Z ?_;refine ⟨congrArg Value.bool ?_,E1⟩;rotate_left
 ·have hn:0≤n∧n≤65535∧0≤m∧m≤15:=by omega
  unfold hasC
  rw [decide_eq_true hn,Bool.true_and,Bool.eq_iff_iff,decide_eq_true_iff]
  exact and_one _ _
 all_goals
  have hn : ¬(0≤n∧n≤65535∧0≤m∧m≤15):=Kh
  unfold hasC
  rw [decide_eq_false hn];rfl
theorem alive_ok (w:World):Dz 18 [] w (Ret w (.bool true)):=by
 have h1 : ∀ w,Dz 74 [.int .i64 5,.int .i64 2] w (Ret w (.bool true)):=fun w=>by
  have:=Has_ok 5 2 w
  have e:hasC 5 2=true:=Kj
  rw [e] at this;exact this
 have h2 : ∀ w,Dz 74 [.int .i64 5,.int .i64 1] w (Ret w (.bool false)):=fun w=>by
  have:=Has_ok 5 1 w
  have e:hasC 5 1=false:=Kj
  rw [e] at this;exact this
 refine Yr Tryz.func18 Z Tryz.results18 Tryz.ntmps18 Z ?_
 focus
  refine Vr<|Ya Z<|Vp<|Vr<|Vs Z (Xa (a:=.int _ _) (b:=.int _ _) Tryz.call74 Z Z) (h1 _) ?_;rintro _ w1 ⟨rfl,E1⟩;refine Xp Z<|Vs Z (Xa (a:=.int _ _) (b:=.int _ _) Tryz.call74 Z Z) (h2 _) ?_;rintro _ w2 ⟨rfl,E2⟩;refine Xz Z<|Xy Z<|Ya Z<|Vp<|Vy ?_;exact ⟨rfl,exq⟩
end Go.Proofs.YtbgpppaljpngmaaGreatDoor
set_option linter.unusedVariables false
namespace Go.Hs
section
variable {p:List (List Int)} {i j k n m:Nat}
theorem fnd_succ:fnd p (n+1) k=true↔∀ j ∈ arr p k,fnd p n j=true:=by
 show fstep p (fnd p n) k=true↔_
 unfold fstep
 rw [Bool.not_eq_true',List.any_eq_false]
 simp
theorem fnd_cback (hp:Pic p) : ∀ (n k:Nat),k < p.length→fnd p n k=true→cback p k=false:=by
 intro n
 induction n with
 | zero=>intro k _ h;cases h
 | succ n ih =>
   intro k hk h
   cases hc : cback p k with
   | false => rfl
   | true =>
     obtain ⟨j, hj, h2⟩ := (cback_step hp hk).1 hc
     rw [ih j ((Rc hp hk).1 hj).1 (fnd_succ.1 h j hj)] at h2; cases h2
theorem Ng (hp:Pic p) (hk:k < p.length) (h:cback p k=false) (hj:j ∈ arr p k):cback p j=false:=by
 cases hc:cback p j with
 | false=>rfl
 | true=>rw [(cback_step hp hk).2 ⟨j,hj,hc⟩] at h;cases h
theorem rf_lt (hp:Pic p) (hk:k < p.length) (h:cback p k=false) (hj:j ∈ arr p k):(rf p j).length < (rf p k).length:=by
 have hjl:=((Rc hp hk).1 hj).1
 have hn:=pw_nodup (Ta (rch p j) p.length)
 have hnk:k ∉ rf p j:=fun hm=>by
  rw [(Mw hp hk).2 ⟨k,j,.refl _,hj,(Sd hp hjl).1 hm⟩] at h;cases h
 have:=List.Nodup.length_le_of_subset (l₁:=k::rf p j) (l₂:=rf p k) (List.nodup_cons.2 ⟨hnk,hn⟩) (fun x hx=>by
  rcases List.mem_cons.1 hx with rfl | hx
  ·exact (Sd hp hk).2 (.refl _)
  ·exact (Sd hp hk).2 (Rch.head hj ((Sd hp hjl).1 hx)))
 rw [List.length_cons] at this;omega
theorem cback_fnd (hp:Pic p) : ∀ (n k:Nat),k < p.length→(rf p k).length≤n→cback p k=false→fnd p n k=true:=by
 intro n
 induction n with
 | zero =>
   intro k hk h _
   have hm := (Sd hp hk).2 (.refl k)
   rw [List.length_eq_zero_iff.1 (Nat.le_zero.1 h)] at hm; cases hm
 | succ n ih =>
   intro k hk h hc
   refine fnd_succ.2 fun j hj => ih j ((Rc hp hk).1 hj).1 ?_ (Ng hp hk hc hj)
   have := rf_lt hp hk hc hj; omega
theorem fnd_len (hp:Pic p) (hk:k < p.length):fnd p p.length k = !cback p k:=by
 cases hc:cback p k with
 | false=>exact cback_fnd hp _ _ hk Lq hc
 | true =>
   cases hf : fnd p p.length k with
   | false => rfl
   | true => rw [fnd_cback hp _ _ hk hf] at hc; cases hc
def dpt (p:List (List Int)):Nat→Nat→Nat
 | 0,_=>0
 | r+1,k=>(arr p k).foldl (fun n j=>max n (dpt p r j+1)) 0
theorem fold_lt (g:Nat→Nat) (n:Nat) : ∀ (l:List Nat) (a:Nat),l.foldl (fun n j=>max n (g j+1)) a < n+1↔a < n+1∧∀ j ∈ l,g j < n:=by
 intro l
 induction l with
 | nil=>intro a;simp
 | cons x xs ih =>
   intro a
   rw [List.foldl_cons, ih]
   simp only [List.mem_cons, forall_eq_or_imp]
   constructor
   · rintro ⟨h1, h2⟩; exact ⟨Kh, Kh, h2⟩
   · rintro ⟨h1, h2, h3⟩; exact ⟨Kh, h3⟩
theorem dpt_fnd (hp:Pic p) : ∀ (r k:Nat),k < p.length→(rf p k).length≤r→cback p k=false→∀ n,fnd p n k=true↔dpt p r k < n:=by
 intro r
 induction r with
 | zero =>
   intro k hk h _
   have hm := (Sd hp hk).2 (.refl k)
   rw [List.length_eq_zero_iff.1 (Nat.le_zero.1 h)] at hm; cases hm
 | succ r ih =>
   intro k hk h hc n
   cases n with
   | zero => exact ⟨fun h => (by cases h), fun h => Kh⟩
   | succ n =>
     rw [fnd_succ]
     show _ ↔ (arr p k).foldl (fun n j => max n (dpt p r j + 1)) 0 < n + 1
     rw [fold_lt]
     have key : ∀ j ∈ arr p k, (fnd p n j = true ↔ dpt p r j < n) := fun j hj => by
       have := rf_lt hp hk hc hj
       exact ih j ((Rc hp hk).1 hj).1 Kh (Ng hp hk hc hj) n
     exact ⟨fun h => ⟨Kh, fun j hj => (key j hj).1 (h j hj)⟩, fun h j hj => (key j hj).2 (h.2 j hj)⟩
theorem dpt_lt (hp:Pic p) {r:Nat} (hk:k < p.length) (h:(rf p k).length≤r) (hc:cback p k=false):dpt p r k < p.length:=by
 rw [← dpt_fnd hp r k hk h hc,fnd_len hp hk,hc];rfl
end
end Go.Hs
namespace Go.Proofs.YtbgpppaljpngmaaGreatDoor
open Go.Hs
set_option maxRecDepth 10000
set_option maxHeartbeats 4000000
set_option linter.unusedVariables false
set_option linter.unusedSimpArgs false
theorem l6ArrP_ok (w:World) (v:Value) (p:List (List Int)) (h:ESl Ints w v p) (hp:Pic p) (i:Nat) (hi:i < p.length):Dz 119 [v,.int .i64 (i:Int)] w (RetO w XI (ints (arr p i))):=by
 have hle:=h.le
 have hrow:=hp.row hi
 have I5:=hp.2.1
 unfold arr
 rw [Xl hi]
 refine Yr Tryz.func119 Z Tryz.results119 Tryz.ntmps119 Z ?_
 focus
  refine Vr<|Uj Z<|Vp<|Vr<|Un XInt Z Rl Ji ?_;rintro b1 w1 H1 b1lt E1 O1;refine Uj Z<|Vp<|Vt<|Vr<|Yx Z<|Vp<|Yb ?_
 refine Xt [5,6,8,9,10,11,12,13,14,15,16,17,18,19,20,21,22,23,24,25] (fun (k,u)=>[(6,.int .i64 (k:Nat)),(5,u)]) (fun (k,u) w'=>Ext w w'∧k≤p.length∧Owned w.heap.size XI w' u (ints ((List.range k).filter fun j=>decide (p[i].getD j 0=1)))) (fun x=>p.length - x.1) (0,.slice (some ⟨b1,0,none⟩) 0 0) Kn ?_ ?_
 ·exact ⟨Kk,Ja _,by simpa [ints] using O1⟩
 rintro ⟨k,u⟩ ρj w2 ⟨E2,hk,O2⟩
 have hll:(ints ((List.range k).filter fun j=>decide (p[i].getD j 0=1))).length≤k:=by
  simp only [ints,List.length_map];exact Jd (List.length_filter_le _ _) Kp
 have hfs:=Qb (fun j=>decide (p[i].getD j 0=1)) k
 focus
  have:=E2.Z;refine Vt<|Vr<|Vz Z<|Yj v Z<|Ys Jm Z h<|Yy Z<|Vp<|Vu Z (fun h1=>?_) (fun h1=>?_);refine Vw<|Vt<|Yb<|Vt<|Ym<|Yj v Z<|Vz Z<|Xv Jm Jw Jz Z (fun _=>Z) Z h E2 Z Km ?_;rintro _ u1 C1;refine Vz Z<|Xv Jl Ji Jk Z (fun _=>Z) Z C1 E2 Z Km ?_;rintro _ _ rfl;refine Yo Z<|Vp<|Vu Z (fun h2=>?_) (fun h2=>?_);refine Ym<|Yj u Z<|Vz Z<|Xg (ps:=[(0,.int _ _)]) (cs:=[_]) Z Jl Ji Gf Z Z Z Z ?_;rintro b2 w3 H2 E3 B1 Y2;have:=E3.Z
  refine Ur Z Rl Z Z B1 (O2.toB.J E3) Owned.int (Kz _) Km Kh Kh (E2.K E3) Kh ?_;rintro v1 w4 O2 E4 M1;refine Uc v1 Z<|Vp<|Ym<|Vz Z<|Xf Z<|Yx Z<|Vp ?_;rotate_left;refine Vw<|Ym<|Vz Z<|Xf Z<|Yx Z<|Vp ?_;rotate_left;refine Xm ?_;refine Yn ?_;refine Vr<|Yj u Z<|Uc u Z<|Vp<|Vy ?_;refine ⟨E2,(congrArg (Owned _ _ _ _) ?_).mp (O2.toB.o.mono Kh)⟩;rotate_left
 ·refine ⟨(k+1,v1),Kn,Ko,?_,?_⟩
  ·refine ⟨Kk,Kh,?_⟩
   rw [hfs,Xl Kh,if_pos (by simpa using by assumption)]
   simpa [ints] using O2
  ·simp only;omega
 ·refine ⟨(k+1,u),Kn,Ko,?_,?_⟩
  ·refine ⟨E2,Kh,?_⟩
   rw [hfs,Xl Kh,if_neg (by simpa using by assumption)]
   simpa [ints] using O2
  ·simp only;omega
 ·obtain rfl:k=p[i].length:=by omega
  rfl
theorem dpt_fold {p:List (List Int)} (hp:Pic p) {r k:Nat} (hk:k < p.length) (hc:cback p k=false) (hr:(rf p k).length≤r+1) (j:Nat) :
  ((arr p k).take j).foldl (fun n j=>max n (dpt p r j+1)) 0 < p.length+1:=by
 rw [fold_lt]
 refine ⟨Kh,fun i hi=>?_⟩
 have hi':=List.mem_of_mem_take hi
 have:=rf_lt hp hk hc hi'
 exact dpt_lt hp ((Rc hp hk).1 hi').1 Kh (Ng hp hk hc hi')
theorem deepAt_ok (p:List (List Int)) (hp:Pic p) : ∀ (r:Nat) (w:World) (v:Value) (k:Nat),ESl Ints w v p→k < p.length→cback p k=false→(rf p k).length≤r →
  Dz 189 [v,.int .i64 (k:Int)] w (Ret w (.int .i64 (dpt p r k:Int))):=by
 have I5:=hp.2.1
 have harr : ∀ (w:World) (pv:Value) (z:Nat),ESl Ints w pv p→z < p.length→Dz 130 [pv,.int .i64 (z:Int)] w (RetO w XI (ints (arr p z))):=fun w pv z h hz =>
  Rf w pv p h (z:Int) Kh (by rw [Xl Kh,hp.row Kh];omega)
 intro r
 induction r with
 | zero =>
   intro w v k h hk hc hr
   have hm := (Sd hp hk).2 (.refl k)
   rw [List.length_eq_zero_iff.1 (Nat.le_zero.1 hr)] at hm; cases hm
 | succ r ih =>
   intro w v k h hk hc hr
   have hla := Ul (arr p k)
   have ha5 := arr_lt5 hp hk
   refine Yr Tryz.func189 Z Tryz.results189 Tryz.ntmps189 Z ?_
   focus
     refine Vr<|Yx Z<|Vp<|Vr<|Yx Z<|Vp<|Vt<|Vr<|Yj v Z<|Vz Z<|Vs Z (Xa (a := v) (b := .int _ _) Gy Z Z) (harr _ _ _ (h) Kk) ?_; rintro u1 w1 ⟨E1, O1⟩; refine Ys Jl Z (Kv O1)<|Vz Z<|Vp<|Yb ?_
   refine Xt [5, 7, 12, 13, 14, 15, 16, 17, 18, 19, 20, 21, 22] (fun (j, m) => [(12, .int .i64 (j : Nat)), (5, .int .i64 m)]) (fun (j, (m : Int)) w' => Ext w1 w' ∧ j ≤ (arr p k).length ∧ m = ((((arr p k).take j).foldl (fun n j => max n (dpt p r j + 1)) 0 : Nat) : Int)) (fun x => (arr p k).length - x.1) (0, 0) Kn ?_ ?_
   · exact ⟨Jf _, Ja _, Kp⟩
   rintro ⟨j, m⟩ ρj w2 ⟨E2, hj, hm⟩
   have hmb := dpt_fold hp hk hc hr j
   obtain ⟨q, hq⟩ : ∃ q, q = ((arr p k).take j).foldl (fun n j => max n (dpt p r j + 1)) 0 := ⟨_, rfl⟩
   rw [← hq] at hm hmb
   by_cases hjl : j < (arr p k).length
   · have hmm := List.getElem_mem hjl
     have hga := Qh hjl
     have hts := Ua _ _ hjl
     have hxl := ((Rc hp hk).1 hmm).1
     have hrl := rf_lt hp hk hc hmm
     have hcb := Ng hp hk hc hmm
     have hdl := dpt_lt hp (r := r) hxl Kh hcb
     have k2 : ∀ (w : World) (pv : Value), ESl Ints w pv p → Dz 189 [pv, .int .i64 ((ints (arr p k))[j]'Kh)] w (Ret w (.int .i64 (dpt p r (arr p k)[j] : Int))) := by
       rw [hga]; exact fun w pv h => ih w pv _ h hxl hcb Kh
     have hnew : max q (dpt p r (arr p k)[j] + 1) = ((arr p k).take (j + 1)).foldl (fun n j => max n (dpt p r j + 1)) 0 := by
       rw [hts, List.foldl_append, ← hq]; rfl
     subst hm
     generalize dpt p r (arr p k)[j] = d at *
     focus
       refine Vr<|Yy Z<|Vp<|Vt<|Vu Z (fun h1 => ?_) (fun h1 => ?_); refine Vw<|Vt<|Yb<|Vr<|Xv Jl Ji Jk Z (fun _ => Z) Z (Kv O1) E2 Z Km ?_; rintro _ _ rfl; refine Yx Z<|Vp<|Ym<|Vz Z<|Yj v Z<|Vz Z<|Vs Z (Xa (a := v) (b := .int _ _) Tryz.call189 Z Z) (k2 _ _ (Ku exq h)) ?_; rintro _ w3 ⟨rfl, E3⟩; refine Xf Z<|Wo Z (opv_max Z Z)<|Yx Z<|Vp<|Ym<|Xf Z<|Vz Z<|Vp ?_; rotate_left; exact Kt
     refine ⟨((j + 1, max (q : Int) ((d : Int) + 1))), Kn, Ko, ?_, ?_⟩
     · exact ⟨E2.K E3, Kh, by rw [← hnew]; omega⟩
     · simp only; omega
   · obtain rfl : j = (arr p k).length := by omega
     rw [List.take_length] at hq
     have hfin : dpt p (r + 1) k = q := hq.symm
     rw [hfin, ← hm]
     focus
       refine Vr<|Yy Z<|Vp<|Vt<|Vv Z fun h1 => ?_; refine Xm ?_; refine Yn ?_; refine Vr<|Vz Z<|Yx Z<|Vp<|Vy ?_; exact ⟨rfl, exq⟩
theorem spec_DeepAt_ok1 (p:List (List Int)) (hp:Pic p) : ∀ (r:Nat) (w:World) (v:Value) (k:Nat),ESl Ints w v p→k < p.length→cback p k=false→(rf p k).length≤r →
  Dz 68 [v,.int .i64 (k:Int)] w (Ret w (.int .i64 (dpt p r k:Int))):=by
 have I5:=hp.2.1
 have hN : ∀ (k:Nat),k < p.length→∀ (w:World) (pv:Value),ESl Ints w pv p→Dz 118 [pv,.int .i64 (k:Int)] w (Ret w (.bool true)):=fun k hk w pv h=>by
  have:=Rq w pv p h (k:Int)
  rw [decide_eq_true (show Nod p (k:Int) from ⟨hp,Kh,Kh⟩)] at this;exact this
 intro r
 induction r with
 | zero =>
   intro w v k h hk hc hr
   have hm := (Sd hp hk).2 (.refl k)
   rw [List.length_eq_zero_iff.1 (Nat.le_zero.1 hr)] at hm; cases hm
 | succ r ih =>
   intro w v k h hk hc hr
   have hla := Ul (arr p k)
   have ha5 := arr_lt5 hp hk
   have k1 := hN k hk
   have k3 : ∀ (w : World) (pv : Value), ESl Ints w pv p → Dz 117 [pv, .int .i64 (k : Int)] w (Ret w (.bool false)) := fun w pv h => by
     have := Nb w pv p h hp k hk
     rw [hc] at this; exact this
   have k4 : ∀ (w : World) (pv : Value), ESl Ints w pv p → Dz 119 [pv, .int .i64 (k : Int)] w (RetO w XI (ints (arr p k))) := fun w pv h => l6ArrP_ok w pv p h hp k hk
   refine Yr Tryz.func68 Z Tryz.results68 Tryz.ntmps68 Z ?_
   focus
     refine Vr<|Yx Z<|Vp<|Vt<|Vr<|Yj v Z<|Vz Z<|Vs Z (Xa (a := v) (b := .int _ _) Zd Z Z) (k1 _ _ (h)) ?_; rintro _ w1 ⟨rfl, E1⟩; refine Xz Z<|Uf Z (Xj (v := .bool _) Z) (fun h1 => ?_) (fun h1 => ?_); exact Ks; refine Yj v Z<|Vz Z<|Vs Z (Xa (a := v) (b := .int _ _) Tryz.call117 Z Z) (k3 _ _ (Ku E1 h)) ?_; rintro _ w2 ⟨rfl, E2⟩; refine Xb Z<|Vp<|Vx Z ?_; refine Vw<|Vr<|Yx Z<|Vp<|Vr<|Yj v Z<|Vz Z<|Vs Z (Xa (a := v) (b := .int _ _) Zt Z Z) (k4 _ _ (Ku exq h)) ?_; rintro u1 w3 ⟨E3, O1⟩; refine Uc u1 Z<|Vp<|Vt<|Vr<|Yx Z<|Vp<|Yb ?_
   refine Xt [5, 7, 20, 21, 22, 23, 24, 25, 26, 27, 28, 29, 30, 31, 32, 33, 34] (fun (j, m) => [(7, .int .i64 (j : Nat)), (5, .int .i64 m)]) (fun (j, (m : Int)) w' => Ext w3 w' ∧ j ≤ (arr p k).length ∧ m = ((((arr p k).take j).foldl (fun n j => max n (dpt p r j + 1)) 0 : Nat) : Int)) (fun x => (arr p k).length - x.1) (0, 0) Kn ?_ ?_
   · exact ⟨Jf _, Ja _, Kp⟩
   rintro ⟨j, m⟩ ρj w4 ⟨E4, hj, hm⟩
   have hmb := dpt_fold hp hk hc hr j
   obtain ⟨q, hq⟩ : ∃ q, q = ((arr p k).take j).foldl (fun n j => max n (dpt p r j + 1)) 0 := ⟨_, rfl⟩
   rw [← hq] at hm hmb
   by_cases hjl : j < (arr p k).length
   · have hmm := List.getElem_mem hjl
     have hga := Qh hjl
     have hts := Ua _ _ hjl
     have hxl := ((Rc hp hk).1 hmm).1
     have hrl := rf_lt hp hk hc hmm
     have hcb := Ng hp hk hc hmm
     have hdl := dpt_lt hp (r := r) hxl Kh hcb
     have k2 : ∀ (w : World) (pv : Value), ESl Ints w pv p → Dz 68 [pv, .int .i64 ((ints (arr p k))[j]'Kh)] w (Ret w (.int .i64 (dpt p r (arr p k)[j] : Int))) := by
       rw [hga]; exact fun w pv h => ih w pv _ h hxl hcb Kh
     have hnew : max q (dpt p r (arr p k)[j] + 1) = ((arr p k).take (j + 1)).foldl (fun n j => max n (dpt p r j + 1)) 0 := by
       rw [hts, List.foldl_append, ← hq]; rfl
     subst hm
     generalize dpt p r (arr p k)[j] = d at *
     focus
       refine Vt<|Vr<|Vz Z<|Yj u1 Z<|Ys Jl Z (Kv O1)<|Yy Z<|Vp<|Vu Z (fun h2 => ?_) (fun h2 => ?_); refine Vw<|Vt<|Yb<|Ym<|Vz Z<|Yj v Z<|Yj u1 Z<|Vz Z<|Xv Jl Ji Jk Z (fun _ => Z) Z (Kv O1) E4 Z Km ?_; rintro _ _ rfl; refine Vs Z (Xa (a := v) (b := .int _ _) Vm Z Z) (k2 _ _ (Ku exq h)) ?_; rintro _ w5 ⟨rfl, E5⟩; refine Xf Z<|Wo Z (opv_max Z Z)<|Yx Z<|Vp<|Ym<|Vz Z<|Xf Z<|Yx Z<|Vp ?_; rotate_left; exact Kt
     refine ⟨((j + 1, max (q : Int) ((d : Int) + 1))), Kn, Ko, ?_, ?_⟩
     · exact ⟨E4.K E5, Kh, by rw [← hnew]; omega⟩
     · simp only; omega
   · obtain rfl : j = (arr p k).length := by omega
     rw [List.take_length] at hq
     have hfin : dpt p (r + 1) k = q := hq.symm
     rw [hfin, ← hm]
     focus
       refine Vt<|Vr<|Vz Z<|Yj u1 Z<|Ys Jl Z (Kv O1)<|Yy Z<|Vp<|Vv Z fun h2 => ?_; refine Xm ?_; refine Yn ?_; refine Vr<|Vz Z<|Yx Z<|Vp<|Vy ?_; exact ⟨rfl, exq⟩
noncomputable def deepAtV (p:List (List Int)) (z:Int):Int:=if Nod p z∧cback p z.toNat=false then (dpt p p.length z.toNat:Int) else -1
theorem spec_DeepAt_ok (w:World) (v:Value) (p:List (List Int)) (h:ESl Ints w v p) (z:Int):Dz 68 [v,.int .i64 z] w (Ret w (.int .i64 (deepAtV p z))):=by
 have hnn : ∀ (x:Bool),decide (Nod p z)=x→∀ (w:World) (pv:Value),ESl Ints w pv p→Dz 118 [pv,.int .i64 z] w (Ret w (.bool x)):=fun x e w pv h=>by
  subst e;exact Rq w pv p h z
 by_cases hz:Nod p z
 ·have hp:=hz.1
  have hz':=hz.2
  cases hc:cback p z.toNat with
  | false =>
    rw [show deepAtV p z = (dpt p p.length z.toNat : Int) from if_pos ⟨hz, hc⟩]
    have := spec_DeepAt_ok1 p hp p.length w v z.toNat h Kh hc Lq
    rw [Int.toNat_of_nonneg hz'.1] at this; exact this
  | true =>
    rw [show deepAtV p z = -1 from if_neg (fun h => by rw [hc] at h; cases h.2)]
    have k1 := hnn true (Jb hz)
    have k2 : ∀ (w : World) (pv : Value), ESl Ints w pv p → Dz 117 [pv, .int .i64 z] w (Ret w (.bool true)) := fun w pv h => by
      have := Nb w pv p h hp z.toNat Kh
      rw [hc, Int.toNat_of_nonneg hz'.1] at this; exact this
    clear hnn
    refine Yr Tryz.func68 Z Tryz.results68 Tryz.ntmps68 Z ?_
    focus
      refine Vr<|Yx Z<|Vp<|Vt<|Vr<|Yj v Z<|Vz Z<|Vs Z (Xa (a := v) (b := .int _ _) Zd Z Z) (k1 _ _ (h)) ?_; rintro _ w1 ⟨rfl, E1⟩; refine Xz Z<|Uf Z (Xj (v := .bool _) Z) (fun h1 => ?_) (fun h1 => ?_); exact Ks; refine Yj v Z<|Vz Z<|Vs Z (Xa (a := v) (b := .int _ _) Tryz.call117 Z Z) (k2 _ _ (Ku E1 h)) ?_; rintro _ w2 ⟨rfl, E2⟩; refine Xb Z<|Vp<|Xe Z ?_; refine Vr<|Yx Z<|Vp<|Vy ?_; exact ⟨rfl, exq⟩
 ·rw [show deepAtV p z = -1 from if_neg (fun h=>hz h.1)]
  have k1:=hnn false (Jc hz)
  clear hnn
  refine Yr Tryz.func68 Z Tryz.results68 Tryz.ntmps68 Z ?_
  focus
   refine Vr<|Yx Z<|Vp<|Vt<|Vr<|Yj v Z<|Vz Z<|Vs Z (Xa (a:=v) (b:=.int _ _) Zd Z Z) (k1 _ _ (h)) ?_;rintro _ w1 ⟨rfl,E1⟩;refine Xz Z<|Uf Z (Xj (v:=.bool _) Z) (fun h1=>?_) (fun h1=>?_);refine Vq Z<|Vq Z<|Vq Z<|Xy Z<|Vp<|Xe Z ?_;refine Vr<|Yx Z<|Vp<|Vy ?_;exact ⟨rfl,E1⟩;exact Ks
theorem impl_DeepAt_ok (w:World) (v:Value) (p:List (List Int)) (h:ESl Ints w v p) (z:Int):Dz 157 [v,.int .i64 z] w (Ret w (.int .i64 (deepAtV p z))):=by
 have hnn : ∀ (x:Bool),decide (Nod p z)=x→∀ (w:World) (pv:Value),ESl Ints w pv p→Dz 94 [pv,.int .i64 z] w (Ret w (.bool x)):=fun x e w pv h=>by
  subst e;exact Sj w pv p h z
 by_cases hz:Nod p z
 ·have hp:=hz.1
  have hz':=hz.2
  have k1:=hnn true (Jb hz)
  have hcb : ∀ x,cback p z.toNat=x→∀ (w:World) (pv:Value),ESl Ints w pv p→Dz 187 [pv,.int .i64 z] w (Ret w (.bool x)):=fun x e w pv h=>by
   subst e
   have:=Mc w pv p h hp z.toNat Kh
   rw [Int.toNat_of_nonneg hz'.1] at this;exact this
  clear hnn
  cases hc:cback p z.toNat with
  | false =>
    rw [show deepAtV p z = (dpt p p.length z.toNat : Int) from if_pos ⟨hz, hc⟩]
    have k2 := hcb _ hc
    have k3 : ∀ (w : World) (pv : Value), ESl Ints w pv p → Dz 189 [pv, .int .i64 z] w (Ret w (.int .i64 (dpt p p.length z.toNat : Int))) := fun w pv h => by
      have := deepAt_ok p hp p.length w pv z.toNat h Kh hc Lq
      rw [Int.toNat_of_nonneg hz'.1] at this; exact this
    clear hcb
    refine Yr Tryz.func157 Z Tryz.results157 Tryz.ntmps157 Z ?_
    focus
      refine Vr<|Yx Z<|Vp<|Vt<|Vr<|Yj v Z<|Vz Z<|Vs Z (Xa (a := v) (b := .int _ _) Zf Z Z) (k1 _ _ (h)) ?_; rintro _ w1 ⟨rfl, E1⟩; refine Xz Z<|Uf Z (Xj (v := .bool _) Z) (fun h1 => ?_) (fun h1 => ?_); exact Ks; refine Yj v Z<|Vz Z<|Vs Z (Xa (a := v) (b := .int _ _) Vk Z Z) (k2 _ _ (Ku E1 h)) ?_; rintro _ w2 ⟨rfl, E2⟩; refine Xb Z<|Vp<|Vx Z ?_; refine Vw<|Vr<|Yj v Z<|Vz Z<|Vs Z (Xa (a := v) (b := .int _ _) Tryz.call189 Z Z) (k3 _ _ (Ku exq h)) ?_; rintro _ w3 ⟨rfl, E3⟩; refine Yx Z<|Vp<|Vy ?_; exact ⟨rfl, exq⟩
  | true =>
    rw [show deepAtV p z = -1 from if_neg (fun h => by rw [hc] at h; cases h.2)]
    have k2 := hcb _ hc
    clear hcb
    refine Yr Tryz.func157 Z Tryz.results157 Tryz.ntmps157 Z ?_
    focus
      refine Vr<|Yx Z<|Vp<|Vt<|Vr<|Yj v Z<|Vz Z<|Vs Z (Xa (a := v) (b := .int _ _) Zf Z Z) (k1 _ _ (h)) ?_; rintro _ w1 ⟨rfl, E1⟩; refine Xz Z<|Uf Z (Xj (v := .bool _) Z) (fun h1 => ?_) (fun h1 => ?_); exact Ks; refine Yj v Z<|Vz Z<|Vs Z (Xa (a := v) (b := .int _ _) Vk Z Z) (k2 _ _ (Ku E1 h)) ?_; rintro _ w2 ⟨rfl, E2⟩; refine Xb Z<|Vp<|Xe Z ?_; refine Vr<|Yx Z<|Vp<|Vy ?_; exact ⟨rfl, exq⟩
 ·rw [show deepAtV p z = -1 from if_neg (fun h=>hz h.1)]
  have k1:=hnn false (Jc hz)
  clear hnn
  refine Yr Tryz.func157 Z Tryz.results157 Tryz.ntmps157 Z ?_
  focus
   refine Vr<|Yx Z<|Vp<|Vt<|Vr<|Yj v Z<|Vz Z<|Vs Z (Xa (a:=v) (b:=.int _ _) Zf Z Z) (k1 _ _ (h)) ?_;rintro _ w1 ⟨rfl,E1⟩;refine Xz Z<|Uf Z (Xj (v:=.bool _) Z) (fun h1=>?_) (fun h1=>?_);refine Vq Z<|Vq Z<|Vq Z<|Xy Z<|Vp<|Xe Z ?_;refine Vr<|Yx Z<|Vp<|Vy ?_;exact ⟨rfl,E1⟩;exact Ks
theorem Picture_ok {w0:World} (w:World) {br m:Nat} (n:Int) (hr:Rdr w0 w br m) (hm:m≤100000000) (hn:0≤n∧n≤1000) :
  Dz 151 [.pointer (some ⟨br,0,none⟩),.int .i64 n] w (RetDO w0 w br (m+60) XR (fun p=>p.length≤5∧∀ r ∈ p,r.length≤6)):=by
 refine Yr Tryz.func151 Z Tryz.results151 Tryz.ntmps151 Z ?_
 have hG:w.grownBy w (some br):=Ru _ _
 have hlr:=hr.lt
 have hgr:=hr.ge
 have E0:=hr.old
 focus
  refine Vr<|Uj Z<|Vp<|Vr<|Uv Z<|Vs Z (Xa (a:=.pointer _) (b:=.int _ _) Jy Z Z) (Xs _ _ Kk Kh) ?_;rintro _ w1 ⟨y1,rfl,E1,Q1,L1⟩;(try dsimp only at L1);have:=Q1.lt;have hG:=Ye hG E1;have:=E1.Z;refine Xf Z<|Yx Z<|Vp<|Vr<|Un (XSl 3 XInt) Z Sk Jw ?_;rintro b1 w2 H1 b1lt E2 O1;have Q1:=Q1.J E2;have hG:=Yf hG E2;refine Uj Z<|Vp<|Vr<|Uv Z<|Vs Z (Xa (a:=.pointer _) (b:=.int _ _) Jy Z Z) (Xs _ _ Kk Kh) ?_;rintro _ w3 ⟨y2,rfl,E3,Q2,L2⟩;(try dsimp only at L2);have O1:=O1.toB.G E3 Kh;have hG:=Ye hG E3;refine Yx Z<|Vp<|Vt<|Vr<|Yx Z<|Vp<|Yb ?_
 have hy1':=L1 Kh
 have hn5:(1+(y1:Int)).toNat=1+y1:=Kh
 refine Xt [6,8,9,10,17,18,19,20,21,22,23,24,25,26,27,28,29,30,31,32,33,34,35,36,37,38,39,40,41,42,43,44,45,46,47,48,49,50,51,52,53,54,55,56,57,58,59,60,61,62] (fun (k,u,rows)=>[(8,.int .i64 (k:Nat)),(6,u)]) (fun (k,u,rows) w'=>w.grownBy w' (some br)∧Rdr w0 w' br (m+2+6*k)∧k≤1+y1∧Owned w.heap.size XR w' u rows∧rows.length=k∧∀ r ∈ rows,r.length=1+y1) (fun x=>1+y1 - x.1) (0,.slice (some ⟨b1,0,none⟩) 0 0,[]) Kn ?_ ?_
 ·exact ⟨hG,Q2,Ja _,O1.o.mono Kh,rfl,Kp⟩
 rintro ⟨k,u,rows⟩ ρj w4 ⟨U4,Q4,hk,O4,hrl,hrr⟩
 have hg4:=U4.size
 by_cases hlt:k < 1+y1
 ·focus
   refine Vt<|Vr<|Vz Z<|Vz Z<|Yy Z<|Vp<|Vu Z (fun h1=>?_) (fun h1=>?_);refine Vw<|Vt<|Yb<|Vt<|Ym<|Vz Z<|Mh Z Rl (int_z Kh Z) Kh ?_;rintro b2 w5 H2 b2lt E5 O2;have U4:=Yf U4 E5;have Q4:=Q4.J E5;refine Uj Z<|Vp<|Vt<|Vr<|Yx Z<|Vp<|Yb ?_;rotate_left;exact Kt
  refine Xt [10,24,25,26,27,28,29,30,31,32,33,34,35,36,37,38,39,40,41,42,43,44,45] (fun (j,row)=>[(10,.int .i64 (j:Nat))]) (fun (j,row) w'=>w.grownBy w' (some br)∧Rdr w0 w' br (m+2+6*k+j)∧j≤1+y1∧OwnedB w.heap.size w4.heap.size XR w' u rows∧Owned w4.heap.size XI w' (.slice (some ⟨b2,0,none⟩) (1+(y1:Int)).toNat (1+(y1:Int)).toNat) row∧row.length=1+y1) (fun x=>1+y1 - x.1) (0,List.replicate (1+(y1:Int)).toNat 0) Kn ?_ ?_
  ·exact ⟨U4,Q4,Ja _,O4.toB.J E5,O2,Kg⟩
  rintro ⟨j,row⟩ ρi w6 ⟨U6,Q6,hj,O6,hR6,hrow⟩
  have E6:=Q6.old
  have H6:=hR6.lt_own (k:=b2) rfl
  have P6:w4.heap.size≤w6.heap.size:=Kh
  by_cases hjl:j < 1+y1
  ·focus
    refine Vt<|Vr<|Vz Z<|Vz Z<|Yy Z<|Vp<|Vu Z (fun h2=>?_) (fun h2=>?_);refine Vw<|Vt<|Yb<|Vr<|Vz Z<|Yo Z<|Xi Z (fun h3=>?_) (fun h3=>?_);refine Vz Z<|Vz Z<|Qo Z<|Xy Z<|Xi Z (fun h4=>?_) (fun h4=>?_);refine Vq Z<|Vq Z<|Xy Z<|Vp<|Xe Z ?_;refine Ym<|Ri Z<|Vz Z<|Uv Z<|Vs Z (Xa (a:=.pointer _) (b:=.int _ _) Jy Z Z) (Xs _ _ Kk Kh) ?_;rintro _ w7 ⟨y3,rfl,E7,Q3,L3⟩;(try dsimp only at L3);have D3:=Q3.old;have U6:=Ye U6 E7;have O6:=O6.G E7 Kh;have hR6:=hR6.toB.G E7 Kh;refine Wo Z (Rd Z Z Kh) ?_;refine Wo Z (Yk Jl Ji Z Z Kh) ?_
    refine Wo_set Z Ji Z Z hR6 Km Owned.int (Kz _) Kh ?_;rintro w8 hR6 On1 K1 Z1;have E8:=On1.ext1 D3 Kh;have Q3:=Q3.W E8 (K1 _ Kh) Z1;have U6:=Yw U6 D3 E8 K1 Z1 Kd;have O6:=O6.W K1 Kh;refine Vp<|Ym<|Vz Z<|Xf Z<|Yx Z<|Vp ?_;rotate_left;refine Vz Z<|Qo Z<|Xb Z<|Vp<|Vv Z fun h5=>?_;refine Vw<|Ym<|Vz Z<|Xf Z<|Yx Z<|Vp ?_;rotate_left;refine Vq Z<|Vq Z<|Vq Z<|Xb Z<|Xp Z<|Vz Z<|Qo Z<|Xb Z<|Vp<|Vu Z (fun h4=>?_) (fun h4=>?_)
    refine Ym<|Ri Z<|Vz Z<|Uv Z<|Vs Z (Xa (a:=.pointer _) (b:=.int _ _) Jy Z Z) (Xs _ _ Kk Kh) ?_;rintro _ w7 ⟨y3,rfl,E7,Q3,L3⟩;(try dsimp only at L3);have D3:=Q3.old;have U6:=Ye U6 E7;have O6:=O6.G E7 Kh;have hR6:=hR6.toB.G E7 Kh;refine Wo Z (Rd Z Z Kh) ?_;refine Wo Z (Yk Jl Ji Z Z Kh) ?_;refine Wo_set Z Ji Z Z hR6 Km Owned.int (Kz _) Kh ?_;rintro w8 hR6 On1 K1 Z1;have E8:=On1.ext1 D3 Kh;have Q3:=Q3.W E8 (K1 _ Kh) Z1;have U6:=Yw U6 D3 E8 K1 Z1 Kd;have O6:=O6.W K1 Kh
    refine Vp<|Ym<|Vz Z<|Xf Z<|Yx Z<|Vp ?_;rotate_left;exact Kt;exact Kt
   ·refine ⟨((j+1,row.set j ((y3:Int) / 2))),Kn,Ko,?_,?_⟩
    ·exact ⟨Kk,Rdr.le Kk Kh,Kh,Kk,Kk,by simp [hrow]⟩
    ·simp only;omega
   ·refine ⟨(j+1,row),Kn,Ko,?_,?_⟩
    ·exact ⟨Kk,Rdr.le Kk Kh,Kh,Kk,Kk,hrow⟩
    ·simp only;omega
   ·refine ⟨((j+1,row.set j ((y3:Int) / 2))),Kn,Ko,?_,?_⟩
    ·exact ⟨Kk,Rdr.le Kk Kh,Kh,Kk,Kk,by simp [hrow]⟩
    ·simp only;omega
  ·obtain rfl:j=1+y1:=by omega
   have hrs : ∀ (rw':List Int),rw'.length=1+y1→∀ r ∈ rows++[rw'],r.length=1+y1:=by
    intro rw' h9 r Q9
    rcases List.mem_append.1 Q9 with h | h
    ·exact hrr r h
    ·rw [List.mem_singleton.1 h];exact h9
   focus
    have:=E0.Z;refine Vt<|Vr<|Vz Z<|Vz Z<|Yy Z<|Vp<|Vv Z fun h2=>?_;refine Xm ?_;refine Yn ?_;refine Vt<|Vr<|Vz Z<|Xf Z<|Vz Z<|Yy Z<|Xi Z (fun h3=>?_) (fun h3=>?_);refine Uv Z<|Vs Z (Xa (a:=.pointer _) (b:=.int _ _) Jy Z Z) (Xs _ _ Kk Kh) ?_;rintro _ w7 ⟨y3,rfl,E7,Q3,L3⟩;(try dsimp only at L3);have D3:=Q3.old;have U6:=Ye U6 E7;have O6:=O6.G E7 Kh;have hR6:=hR6.toB.G E7 Kh;have:=E7.Z;refine Qo Z<|Xy Z<|Vp<|Vu Z (fun h4=>?_) (fun h4=>?_);refine Ym<|Ri Z<|Vz Z<|Xf Z<|Wo Z (Qr Jl Ji Z Z Kh) ?_
    refine Wo_set Z Ji Z Z hR6 Km Owned.int (Kz _) Kh ?_;rintro w8 hR6 On1 K1 Z1;have E8:=On1.ext1 D3 Kh;have Q3:=Q3.W E8 (K1 _ Kh) Z1;have U6:=Yw U6 D3 E8 K1 Z1 Kd;have O6:=O6.W K1 Kh;refine Vp<|Ym<|Yj u Z<|Ri Z<|Xc (ps:=[(0,.slice _ _ _)]) (cs:=[_]) Z Jm Jw Gq Z Z Z Z ?_;rintro b3 w9 H3 E9 B1;have:=B1.lt;have Q3:=Q3.J E9;have U6:=Yf U6 E9;refine Ur Z Sk Z Z B1 (O6.J E9) (hR6.toB.J E9).o Kh Km Kh Kh (E8.K E9) Kh ?_;have T1:=(O6.J E9);rintro v1 w10 O6 E10 M1;have Q3:=Q3.moves E10 M1 T1 Kh
    have U6:=Nk U6 M1 T1 Kh;refine Uc v1 Z<|Vp<|Ym<|Vz Z<|Xf Z<|Yx Z<|Vp ?_;rotate_left;refine Vw<|Ym<|Yj u Z<|Ri Z<|Xc (ps:=[(0,.slice _ _ _)]) (cs:=[_]) Z Jm Jw Gq Z Z Z Z ?_;rintro b3 w8 H3 E8 B1;have:=B1.lt;have Q3:=Q3.J E8;have U6:=Yf U6 E8;refine Ur Z Sk Z Z B1 (O6.J E8) (hR6.J E8).o Kh Km Kh Kh (D3.trans E8) Kh ?_;have T1:=(O6.J E8);rintro v1 w9 O6 E9 M1;have Q3:=Q3.moves E9 M1 T1 Kh;have U6:=Nk U6 M1 T1 Kh;refine Uc v1 Z<|Vp<|Ym<|Vz Z<|Xf Z<|Yx Z<|Vp ?_;rotate_left
    refine Vq Z<|Vq Z<|Vq Z<|Xb Z<|Vp<|Vx Z ?_;refine Vw<|Ym<|Yj u Z<|Ri Z<|Xc (ps:=[(0,.slice _ _ _)]) (cs:=[_]) Z Jm Jw Gq Z Z Z Z ?_;rintro b3 w7 H3 E7 B1;have:=B1.lt;have U6:=Yf U6 E7;have Q6:=Q6.J E7;refine Ur Z Sk Z Z B1 (O6.J E7) (hR6.toB.J E7).o Kh Km Kh Kh (E6.K E7) Kh ?_;have T1:=(O6.J E7);rintro v1 w8 O6 E8 M1;have U6:=Nk U6 M1 T1 Kh;have Q6:=Q6.moves E8 M1 T1 Kh;refine Uc v1 Z<|Vp<|Ym<|Vz Z<|Xf Z<|Yx Z<|Vp ?_;rotate_left
   ·refine ⟨((k+1,v1,rows++[row.set ((k:Int)+1).toNat 1])),Kn,Ko,?_,?_⟩
    ·exact ⟨Kk,Rdr.le Kk Kh,Kh,Kk,by simp [hrl],hrs _ (by simp [hrow])⟩
    ·simp only;omega
   ·refine ⟨(k+1,v1,rows++[row]),Kn,Ko,?_,?_⟩
    ·exact ⟨Kk,Rdr.le Kk Kh,Kh,Kk,by simp [hrl],hrs _ hrow⟩
    ·simp only;omega
   ·refine ⟨(k+1,v1,rows++[row]),Kn,Ko,?_,?_⟩
    ·exact ⟨Kk,Rdr.le Kk Kh,Kh,Kk,by simp [hrl],hrs _ hrow⟩
    ·simp only;omega
 ·obtain rfl:k=1+y1:=by omega
  obtain ⟨ub,uc,rfl,_⟩:=O4.lit Kh
  have hub:=O4.lt_own (k:=ub) rfl
  have hrow:=hrr rows[0] (List.getElem_mem Kh)
  obtain ⟨brw,crw,hRow,hbw1,hbw2⟩:=O4.rowAt (i:=0) Kh Kh
  focus
   refine Vt<|Vr<|Vz Z<|Vz Z<|Yy Z<|Vp<|Vv Z fun h1=>?_;refine Xm ?_;refine Yn ?_;refine Vt<|Vr<|Uv Z<|Vz Z<|Vs Z (Xa (a:=.pointer _) (b:=.int _ _) Tryz.call76 Z Z) (odd_ok _ _ Kk Kh Kh) ?_;rintro _ w5 ⟨y3,rfl,E5,Q3,L3⟩;(try dsimp only at L3);have U4:=Ye U4 E5;have O4:=O4.toB.G E5 Kh;have hRow:=hRow.G E5 (by simp [Value.ownBlock];omega);have:=E5.Z;refine Vp<|Up Z (fun h2=>?_) (fun h2=>?_);refine Vr<|Uv Z<|Vs Z (Xa (a:=.pointer _) (b:=.int _ _) Jy Z Z) (Xs _ _ Kk Kh) ?_;rintro _ w6 ⟨y4,rfl,E6,Q5,L4⟩;(try dsimp only at L4);have D5:=Q5.old;have U4:=Ye U4 E6;have O4:=O4.G E6 Kh
   have hRow:=hRow.G E6 (by simp [Value.ownBlock];omega);have:=E6.Z;refine Vp<|Yb<|Vr<|Yo Z<|Ya Z<|Vp<|Vu Z (fun h3=>?_) (fun h3=>?_);refine Vr<|Un (XSl 3 XInt) Z Sk Jw ?_;rintro b2 w7 H2 b2lt E7 O2;have Q5:=Q5.J E7;have U4:=Yf U4 E7;refine Uj Z<|Vp<|Vy ?_;refine Yh (v:=.slice _ _ _) Z ?_;rotate_left;refine Vr<|Yo Z<|Ya Z<|Vp<|Vu Z (fun h4=>?_) (fun h4=>?_);refine Ym<|Ri Z<|Nw Jm Jw Jz Z (fun _=>Z) Z ⟨_,_,Z⟩ Z hRow Km ?_;rintro _;refine Wo Z (Yk (k:=0) Jl Ji Z Z Kh) ?_
   refine Th Z Ji Z Z O4 hRow Km Km ?_;rintro w7 O4 hRow On1 K1 Z1;have E7:=On1.ext1 D5 Kh;have Q5:=Q5.W E7 (K1 _ Kh) Z1;have U4:=Yw U4 D5 E7 K1 Z1 Kd;refine Vp<|Vr<|Ri Z<|Uj Z<|Vp<|Vy ?_;refine Yh (v:=.slice _ _ _) Z ?_;rotate_left;refine Ym<|Ri Z<|Ri Z<|Nw Jm Jw Jz Z (fun _=>Z) Z ⟨_,_,Z⟩ Z hRow Km ?_;rintro _;refine Xg (ps:=[(0,.int _ _)]) (cs:=[_]) Z Jl Ji Gf Z Z Z Z ?_;rintro b2 w7 H2 E7 B1 Y2;have:=B1.lt;have Q5:=Q5.J E7;have U4:=Yf U4 E7;rotate_left
   refine Vw<|Vr<|Ri Z<|Uj Z<|Vp<|Vy ?_;refine Yh (v:=.slice _ _ _) Z ?_;rotate_left
  ·exact ⟨Kk,Rdr.le Kk Kh,[],Owned.mono Kk Kh,Kp⟩
  ·refine ⟨Kk,Rdr.le Kk Kh,_,Kk,Kg,fun r Q9=>?_⟩
   rcases List.mem_or_eq_of_mem_set Q9 with h | h
   ·have:=hrr r h;omega
   ·rw [h];simp;omega
  ·have O7:=O4.J (show Ext w6 w7 by assumption)
   have hR7:=hRow.J (show Ext w6 w7 by assumption)
   obtain ⟨hme,hRO⟩:=O7.rowOwn hR7 Kh
   focus
    refine Ur Z Rl Z Z B1 hRO Owned.int (Kz _) Km Kh Kh (D5.trans E7) Kh ?_;have T1:=hRO;rintro v1 w8 hRO E8 M1;have Q5:=Q5.moves E8 M1 T1 Kh;have U4:=Nk U4 M1 T1 Kh;refine Wo Z (Yk (k:=0) Jm Jw Z Z Kh) ?_
   obtain ⟨q1,q2,⟨q3,q4⟩,q5⟩:=O7.rowBack hR7 Kh (show Moves w7 (.slice (some ⟨brw,0,none⟩) rows[0].length crw) w8 v1 from M1) hRO Kh
   refine Lc (w':=w8.setCell ⟨ub,0,none⟩ v1) Z (ops_store Jw Z Z q2 q4 q5) ?_
   have E9:Ext w0 (w8.setCell ⟨ub,0,none⟩ v1):=E8.setCell Kq v1
   have Q9:=Q5.W E9 (Hs.heap_setCell_other v1 (show br≠ub by omega)) (size_setCell _ _)
   have U9:=Yw (b:=ub) U4 E8 E9 (fun k hk=>Hs.heap_setCell_other v1 hk) (size_setCell _ _) (.inl hub.1)
   generalize w8.setCell ⟨ub,0,none⟩ v1=w9 at q1 Q9 U9 E9
   focus
    refine Vp<|Vr<|Ri Z<|Uj Z<|Vp<|Vy ?_;refine Yh (v:=.slice _ _ _) Z ?_
   refine ⟨U9,Q9.le Kh,_,q1,Kg,fun r hr'=>?_⟩
   rcases List.mem_or_eq_of_mem_set hr' with h | h
   ·have:=hrr r h;omega
   ·rw [h];simp;omega
  ·refine ⟨Kk,Rdr.le Kk Kh,_,OwnedB.o Kk,Kh,fun r Q9=>?_⟩
   have:=hrr r Q9;omega
end Go.Proofs.YtbgpppaljpngmaaGreatDoor
set_option linter.unusedVariables false
namespace Go.Hs
section
variable {p:List (List Int)} {j k n m c:Nat}
def codS (o x:Option Nat):Option Nat:=match o,x with
 | some s,some m=>if m≤15 then some (s ||| 1 <<< m) else none
 | _,_=>none
def cod (p:List (List Int)):Nat→Nat→Option Nat
 | 0,_=>none
 | r+1,k=>(arr p k).foldl (fun o j=>codS o (cod p r j)) (some 0)
theorem codS_none (x:Option Nat):codS none x=none:=rfl
theorem cod_none (g:Nat→Option Nat) : ∀ (l:List Nat),l.foldl (fun o j=>codS o (g j)) none=none:=by
 intro l
 induction l with
 | nil=>rfl
 | cons a l ih=>rw [List.foldl_cons,codS_none];exact ih
theorem cod_fold (g:Nat→Option Nat) : ∀ (l:List Nat) (s c:Nat),l.foldl (fun o j=>codS o (g j)) (some s)=some c →
  (∀ j ∈ l,∃ m,g j=some m∧m≤15)∧(∀ i,c.testBit i=true↔s.testBit i=true∨∃ j ∈ l,g j=some i)∧(s < 65536→c < 65536):=by
 intro l
 induction l with
 | nil=>intro s c h;cases h;exact ⟨fun j hj=>by simp at hj,fun i=>Kp,id⟩
 | cons a l ih =>
   intro s c h
   rw [List.foldl_cons] at h
   cases hg : g a with
   | none => rw [hg, show codS (some s) none = none from rfl, cod_none] at h; cases h
   | some m =>
     by_cases hm : m ≤ 15
     · rw [hg, show codS (some s) (some m) = some (s ||| 1 <<< m) from if_pos hm] at h
       obtain ⟨h1, h2, h3⟩ := ih _ _ h
       refine ⟨fun j hj => ?_, fun i => ?_, fun hs => h3 ?_⟩
       · rcases List.mem_cons.1 hj with rfl | hj
         · exact ⟨m, hg, hm⟩
         · exact h1 j hj
       · rw [h2 i, Nat.testBit_or, Nat.one_shiftLeft, Nat.testBit_two_pow]
         simp only [Bool.or_eq_true, decide_eq_true_eq, List.mem_cons]
         constructor
         · rintro ((h | h) | ⟨j, hj, h⟩)
           · exact .inl h
           · exact .inr ⟨a, .inl rfl, by rw [hg, h]⟩
           · exact .inr ⟨j, .inr hj, h⟩
         · rintro (h | ⟨j, rfl | hj, h⟩)
           · exact .inl (.inl h)
           · rw [hg] at h; cases h; exact .inl (.inr rfl)
           · exact .inr ⟨j, hj, h⟩
       · have h4 : 2 ^ m < 2 ^ 16 := Nat.pow_lt_pow_right Kh Kh
         rw [Nat.one_shiftLeft]
         exact Nat.or_lt_two_pow (n := 16) hs h4
     · rw [hg, show codS (some s) (some m) = none from if_neg hm, cod_none] at h; cases h
theorem cod_lt {r:Nat} (h:cod p r k=some c):c < 65536:=by
 cases r with
 | zero=>cases h
 | succ r=>exact (cod_fold _ _ _ _ h).2.2 Kh
end
end Go.Hs
namespace Go.Proofs.YtbgpppaljpngmaaGreatDoor
open Go.Hs
set_option maxRecDepth 10000
set_option maxHeartbeats 4000000
set_option linter.unusedVariables false
set_option linter.unusedSimpArgs false
def codP (o:Option Nat):Nat × Bool:=match o with
 | some c=>(c,true)
 | none=>(0,false)
theorem codeAt_ok (p:List (List Int)) (hp:Pic p) : ∀ (r:Nat) (w:World) (v:Value) (k:Nat),ESl Ints w v p→k < p.length→cback p k=false→(rf p k).length≤r →
  Dz 188 [v,.int .i64 (k:Int)] w (Ret w (.tuple #[.int .i64 ((codP (cod p r k)).1:Int),.bool (codP (cod p r k)).2])):=by
 have I5:=hp.2.1
 have harr : ∀ (w:World) (pv:Value) (z:Nat),ESl Ints w pv p→z < p.length→Dz 130 [pv,.int .i64 (z:Int)] w (RetO w XI (ints (arr p z))):=fun w pv z h hz =>
  Rf w pv p h (z:Int) Kh (by rw [Xl Kh,hp.row Kh];omega)
 intro r
 induction r with
 | zero =>
   intro w v k h hk hc hr
   have hm := (Sd hp hk).2 (.refl k)
   rw [List.length_eq_zero_iff.1 (Nat.le_zero.1 hr)] at hm; cases hm
 | succ r ih =>
   intro w v k h hk hc hr
   have hla := Ul (arr p k)
   have ha5 := arr_lt5 hp hk
   refine Uy Tryz.func188 Z Tryz.results188 Tryz.ntmps188 Z ?_
   focus
     refine Vr<|Yx Z<|Ya Z<|Vp<|Vr<|Yx Z<|Vp<|Vt<|Vr<|Yj v Z<|Vz Z<|Vs Z (Xa (a := v) (b := .int _ _) Gy Z Z) (harr _ _ _ (h) Kk) ?_; rintro u1 w1 ⟨E1, O1⟩; refine Ys Jl Z (Kv O1)<|Vz Z<|Vp<|Yb ?_
   refine Xt [4, 5, 6, 8, 9, 10, 15, 16, 17, 18, 19, 20, 21, 22, 23, 24, 25, 26, 27, 28, 29, 30, 31, 32, 33, 34, 35] (fun (j, s) => [(15, .int .i64 (j : Nat)), (6, .int .i64 (s : Nat))]) (fun (j, (s : Nat)) w' => Ext w1 w' ∧ j ≤ (arr p k).length ∧ s < 65536 ∧ ((arr p k).take j).foldl (fun o j => codS o (cod p r j)) (some 0) = some s) (fun x => (arr p k).length - x.1) (0, 0) Kn ?_ ?_
   · exact ⟨Jf _, Ja _, Kh, Kp⟩
   rintro ⟨j, s⟩ ρj w2 ⟨E2, hj, hs, hf⟩
   by_cases hjl : j < (arr p k).length
   · have hmm := List.getElem_mem hjl
     have hga := Qh hjl
     have hts := Ua _ _ hjl
     obtain ⟨x, hx⟩ : ∃ x, x = (arr p k)[j] := ⟨_, rfl⟩
     rw [← hx] at hmm hga hts
     have hxl := ((Rc hp hk).1 hmm).1
     have hrl := rf_lt hp hk hc hmm
     have hcb := Ng hp hk hc hmm
     have k2 : ∀ y, cod p r x = y → ∀ (w : World) (pv : Value), ESl Ints w pv p → Dz 188 [pv, .int .i64 ((ints (arr p k))[j]'Kh)] w (Ret w (.tuple #[.int .i64 ((codP y).1 : Int), .bool (codP y).2])) := fun y e => by
       subst e
       rw [hga]; exact fun w pv h => ih w pv x h hxl hcb Kh
     have hstep : ((arr p k).take (j + 1)).foldl (fun o j => codS o (cod p r j)) (some 0) = codS (some s) (cod p r x) := by rw [hts, List.foldl_append, hf]; rfl
     have hdead : codS (some s) (cod p r x) = none → cod p (r + 1) k = none := fun e => by
       show (arr p k).foldl (fun o j => codS o (cod p r j)) (some 0) = none
       rw [← List.take_append_drop (j + 1) (arr p k), List.foldl_append, hstep, e, cod_none]
     cases hy : cod p r x with
     | none =>
       have k3 : ∀ (w : World) (pv : Value), ESl Ints w pv p → Dz 188 [pv, .int .i64 ((ints (arr p k))[j]'Kh)] w (Ret w (.tuple #[.int .i64 0, .bool false])) := k2 none hy
       have hn := hdead (by rw [hy]; rfl)
       simp only [hn, codP]
       clear k2
       focus
         refine Vr<|Yy Z<|Vp<|Vt<|Vu Z (fun h1 => ?_) (fun h1 => ?_); refine Vw<|Vt<|Yb<|Vr<|Xv Jl Ji Jk Z (fun _ => Z) Z (Kv O1) E2 Z Km ?_; rintro _ _ rfl; refine Yx Z<|Vp<|Vr<|Yj v Z<|Vz Z<|Vs Z (Xa (a := v) (b := .int _ _) Tryz.call188 Z Z) (k3 _ _ (Ku exq h)) ?_; rintro _ w3 ⟨rfl, E3⟩; refine Ut Z<|WsxI Z<|Uz Z<|Yx Z<|Ya Z<|Vp<|Vt<|Vr<|Xp Z<|Xz Z<|Uf Z (Xj (v := .bool _) Z) (fun h2 => ?_) (fun h2 => ?_); refine Vq Z<|Vq Z<|Xy Z<|Vp<|Xe Z ?_; refine Vr<|Yx Z<|Ya Z<|Vp<|Vy ?_; exact ⟨rfl, exq⟩; exact Ks; exact Kt
     | some m =>
       have k3 : ∀ (w : World) (pv : Value), ESl Ints w pv p → Dz 188 [pv, .int .i64 ((ints (arr p k))[j]'Kh)] w (Ret w (.tuple #[.int .i64 (m : Int), .bool true])) := k2 (some m) hy
       have J6 := cod_lt hy
       clear k2
       by_cases J15 : m ≤ 15
       · rw [hy, show codS (some s) (some m) = some (s ||| 1 <<< m) from if_pos J15] at hstep
         have hsh : (1 : Int).toNat <<< ((m : Nat) : Int).toNat ≤ 32768 := by
           show 1 <<< m ≤ 32768
           rw [Nat.one_shiftLeft]; exact Nat.pow_le_pow_right (show 2 > 0 by omega) J15
         have hns : s ||| 1 <<< m < 65536 := Nat.or_lt_two_pow (n := 16) hs (by have : 1 <<< m ≤ 32768 := hsh; omega)
         focus
           refine Vr<|Yy Z<|Vp<|Vt<|Vu Z (fun h1 => ?_) (fun h1 => ?_); refine Vw<|Vt<|Yb<|Vr<|Xv Jl Ji Jk Z (fun _ => Z) Z (Kv O1) E2 Z Km ?_; rintro _ _ rfl; refine Yx Z<|Vp<|Vr<|Yj v Z<|Vz Z<|Vs Z (Xa (a := v) (b := .int _ _) Tryz.call188 Z Z) (k3 _ _ (Ku exq h)) ?_; rintro _ w3 ⟨rfl, E3⟩; refine Ut Z<|WsxI Z<|Uz Z<|Yx Z<|Ya Z<|Vp<|Vt<|Vr<|Xp Z<|Xz Z<|Uf Z (Xj (v := .bool _) Z) (fun h2 => ?_) (fun h2 => ?_); exact Ks; refine Vz Z<|Qo Z<|Xb Z<|Vp<|Vv Z fun h3 => ?_; refine Vw<|Ym<|Vz Z<|Vz Z<|Wo Z (opv_shl Z Z Kh) ?_; rotate_left; exact Kt
         refine Wo Z (opv_or Z Z ⟨Int.natCast_nonneg _, Kh, Int.natCast_nonneg _, Int.le_trans (Int.ofNat_le.2 (show _ ≤ 32768 by assumption)) Kj⟩) ?_
         focus
           refine Yx Z<|Vp<|Ym<|Xf Z<|Vz Z<|Vp ?_
         refine ⟨(j + 1, s ||| 1 <<< m), Kn, Ko, ?_, ?_⟩
         · exact ⟨E2.K E3, Kh, hns, hstep⟩
         · simp only; omega
       · have hn := hdead (by rw [hy]; exact if_neg J15)
         simp only [hn, codP]
         focus
           refine Vr<|Yy Z<|Vp<|Vt<|Vu Z (fun h1 => ?_) (fun h1 => ?_); refine Vw<|Vt<|Yb<|Vr<|Xv Jl Ji Jk Z (fun _ => Z) Z (Kv O1) E2 Z Km ?_; rintro _ _ rfl; refine Yx Z<|Vp<|Vr<|Yj v Z<|Vz Z<|Vs Z (Xa (a := v) (b := .int _ _) Tryz.call188 Z Z) (k3 _ _ (Ku exq h)) ?_; rintro _ w3 ⟨rfl, E3⟩; refine Ut Z<|WsxI Z<|Uz Z<|Yx Z<|Ya Z<|Vp<|Vt<|Vr<|Xp Z<|Xz Z<|Uf Z (Xj (v := .bool _) Z) (fun h2 => ?_) (fun h2 => ?_); exact Ks; refine Vz Z<|Qo Z<|Xb Z<|Vp<|Vu Z (fun h3 => ?_) (fun h3 => ?_); refine Vt<|Ym<|Yx Z<|Ya Z<|Vp<|Vy ?_; exact ⟨rfl, exq⟩; exact Kt
           exact Kt
   · obtain rfl : j = (arr p k).length := by omega
     rw [List.take_length] at hf
     have hfin : cod p (r + 1) k = some s := hf
     simp only [hfin, codP]
     focus
       refine Vr<|Yy Z<|Vp<|Vt<|Vv Z fun h1 => ?_; refine Xm ?_; refine Yn ?_; refine Vr<|Vz Z<|Yx Z<|Ya Z<|Vp<|Vy ?_; exact ⟨rfl, exq⟩
noncomputable def codeV (p:List (List Int)) (z:Int):Int × Bool:=if Nod p z∧cback p z.toNat=false then (match cod p p.length z.toNat with | some c=>((c:Int),true) | none=>(-1,false)) else (-1,false)
theorem CodeAt_ok (w:World) (v:Value) (p:List (List Int)) (h:ESl Ints w v p) (z:Int) (hz:Nod p z) (hc:cback p z.toNat=false):Dz 155 [v,.int .i64 z] w (Ret w (.tuple #[.int .i64 (codeV p z).1,.bool (codeV p z).2])):=by
 have hp:=hz.1
 have hz':=hz.2
 have k1 : ∀ (w:World) (pv:Value),ESl Ints w pv p→Dz 94 [pv,.int .i64 z] w (Ret w (.bool true)):=fun w pv h=>by
  have:=Sj w pv p h z
  rw [decide_eq_true hz] at this;exact this
 have k2 : ∀ (w:World) (pv:Value),ESl Ints w pv p→Dz 187 [pv,.int .i64 z] w (Ret w (.bool false)):=fun w pv h=>by
  have:=Mc w pv p h hp z.toNat Kh
  rw [hc,Int.toNat_of_nonneg hz'.1] at this;exact this
 have k3 : ∀ y,cod p p.length z.toNat=y→∀ (w:World) (pv:Value),ESl Ints w pv p→Dz 188 [pv,.int .i64 z] w (Ret w (.tuple #[.int .i64 ((codP y).1:Int),.bool (codP y).2])):=fun y e w pv h=>by
  subst e
  have:=codeAt_ok p hp p.length w pv z.toNat h Kh hc Lq
  rw [Int.toNat_of_nonneg hz'.1] at this;exact this
 have hV:codeV p z=match cod p p.length z.toNat with | some c=>((c:Int),true) | none=>(-1,false):=if_pos ⟨hz,hc⟩
 rw [hV]
 cases hy:cod p p.length z.toNat with
 | none =>
   have k4 : ∀ (w : World) (pv : Value), ESl Ints w pv p → Dz 188 [pv, .int .i64 z] w (Ret w (.tuple #[.int .i64 0, .bool false])) := k3 none hy
   clear k3
   refine Uy Tryz.func155 Z Tryz.results155 Tryz.ntmps155 Z ?_
   focus
     refine Vr<|Yx Z<|Ya Z<|Vp<|Vt<|Vr<|Yj v Z<|Vz Z<|Vs Z (Xa (a := v) (b := .int _ _) Zf Z Z) (k1 _ _ (h)) ?_; rintro _ w1 ⟨rfl, E1⟩; refine Xz Z<|Uf Z (Xj (v := .bool _) Z) (fun h1 => ?_) (fun h1 => ?_); exact Ks; refine Yj v Z<|Vz Z<|Vs Z (Xa (a := v) (b := .int _ _) Vk Z Z) (k2 _ _ (Ku E1 h)) ?_; rintro _ w2 ⟨rfl, E2⟩; refine Xb Z<|Vp<|Vx Z ?_; refine Vw<|Vr<|Yj v Z<|Vz Z<|Vs Z (Xa (a := v) (b := .int _ _) Tryz.call188 Z Z) (k4 _ _ (Ku exq h)) ?_; rintro _ w3 ⟨rfl, E3⟩; refine Ut Z<|WsxI Z<|Uz Z<|Yx Z<|Ya Z<|Vp<|Vt<|Vr<|Xp Z<|Xz Z<|Vp<|Up Z (fun h2 => ?_) (fun h2 => ?_)
     refine Vt<|Ym<|Yx Z<|Ya Z<|Vp<|Vy ?_; exact ⟨rfl, exq⟩; exact Ks
 | some c =>
   have k4 : ∀ (w : World) (pv : Value), ESl Ints w pv p → Dz 188 [pv, .int .i64 z] w (Ret w (.tuple #[.int .i64 (c : Int), .bool true])) := k3 (some c) hy
   clear k3
   refine Uy Tryz.func155 Z Tryz.results155 Tryz.ntmps155 Z ?_
   focus
     refine Vr<|Yx Z<|Ya Z<|Vp<|Vt<|Vr<|Yj v Z<|Vz Z<|Vs Z (Xa (a := v) (b := .int _ _) Zf Z Z) (k1 _ _ (h)) ?_; rintro _ w1 ⟨rfl, E1⟩; refine Xz Z<|Uf Z (Xj (v := .bool _) Z) (fun h1 => ?_) (fun h1 => ?_); exact Ks; refine Yj v Z<|Vz Z<|Vs Z (Xa (a := v) (b := .int _ _) Vk Z Z) (k2 _ _ (Ku E1 h)) ?_; rintro _ w2 ⟨rfl, E2⟩; refine Xb Z<|Vp<|Vx Z ?_; refine Vw<|Vr<|Yj v Z<|Vz Z<|Vs Z (Xa (a := v) (b := .int _ _) Tryz.call188 Z Z) (k4 _ _ (Ku exq h)) ?_; rintro _ w3 ⟨rfl, E3⟩; refine Ut Z<|WsxI Z<|Uz Z<|Yx Z<|Ya Z<|Vp<|Vt<|Vr<|Xp Z<|Xz Z<|Vp<|Uk Z fun h2 => ?_
     refine Vw<|Vr<|Vz Z<|Yx Z<|Ya Z<|Vp<|Vy ?_; exact ⟨rfl, exq⟩
def EFm (w:World) (v:Value):Fm→Prop
 | .t=>∃ b,v=.pointer (some ⟨b,0,none⟩)∧Blk w b [.int .u8 116,str (Fm.enc .t),.slice none 0 0]
 | .neg f=>∃ b bp u,v=.pointer (some ⟨b,0,none⟩)∧Blk w b [.int .u8 33,str (Fm.enc (.neg f)),.slice (some ⟨bp,0,none⟩) 1 1]∧Blk w bp [u]∧EFm w u f
 | .S f=>∃ b bp u,v=.pointer (some ⟨b,0,none⟩)∧Blk w b [.int .u8 83,str (Fm.enc (.S f)),.slice (some ⟨bp,0,none⟩) 1 1]∧Blk w bp [u]∧EFm w u f
 | .A f=>∃ b bp u,v=.pointer (some ⟨b,0,none⟩)∧Blk w b [.int .u8 65,str (Fm.enc (.A f)),.slice (some ⟨bp,0,none⟩) 1 1]∧Blk w bp [u]∧EFm w u f
 | .and f g=>∃ b bp u u',v=.pointer (some ⟨b,0,none⟩)∧Blk w b [.int .u8 38,str (Fm.enc (.and f g)),.slice (some ⟨bp,0,none⟩) 2 2]∧Blk w bp [u,u']∧EFm w u f∧EFm w u' g
 | .or f g=>∃ b bp u u',v=.pointer (some ⟨b,0,none⟩)∧Blk w b [.int .u8 124,str (Fm.enc (.or f g)),.slice (some ⟨bp,0,none⟩) 2 2]∧Blk w bp [u,u']∧EFm w u f∧EFm w u' g
theorem EFm.ptr {w:World} {v:Value} {f:Fm} (h:EFm w v f) : ∃ a,v=.pointer (some a):=by
 cases f
 ·obtain ⟨b,rfl,_⟩:=h;exact ⟨_,rfl⟩
 all_goals (first | (obtain ⟨b,_,_,rfl,_⟩:=h;exact ⟨_,rfl⟩) | (obtain ⟨b,_,_,_,rfl,_⟩:=h;exact ⟨_,rfl⟩))
instance mono_EFm:Mono EFm:=⟨by
 intro w w' v f he
 induction f generalizing v with
 | t=>rintro ⟨b,rfl,h⟩;exact ⟨b,rfl,h.J he⟩
 | neg f ih=>rintro ⟨b,bp,u,rfl,h1,h2,h3⟩;exact ⟨b,bp,u,rfl,h1.J he,h2.J he,ih h3⟩
 | S f ih=>rintro ⟨b,bp,u,rfl,h1,h2,h3⟩;exact ⟨b,bp,u,rfl,h1.J he,h2.J he,ih h3⟩
 | A f ih=>rintro ⟨b,bp,u,rfl,h1,h2,h3⟩;exact ⟨b,bp,u,rfl,h1.J he,h2.J he,ih h3⟩
 | and f g ih1 ih2=>rintro ⟨b,bp,u,u',rfl,h1,h2,h3,h4⟩;exact ⟨b,bp,u,u',rfl,h1.J he,h2.J he,ih1 h3,ih2 h4⟩
 | or f g ih1 ih2=>rintro ⟨b,bp,u,u',rfl,h1,h2,h3,h4⟩;exact ⟨b,bp,u,u',rfl,h1.J he,h2.J he,ih1 h3,ih2 h4⟩⟩
def PartP (w:World) (s:List UInt8):Value→World→Prop:=fun v w'=>Ext w w'∧match pre s with
 | some (f,r)=>∃ u,v=.tuple #[u,str r]∧Above w.heap.size EFm w' u f
 | none=>v=.tuple #[.pointer none,str s]
theorem Na:Flat Tryz.prog 160 [.int .u8 0,str [],.slice none 0 0]:=⟨_,Tryz.underlying160,fun _=>Ki,fun _=>Ki⟩
theorem readPart_ok : ∀ (m:Nat) (s:List UInt8) (w:World),s.length≤lim→s.length≤m→Dz 190 [str s] w (PartP w s):=by
 intro m
 induction m with
 | zero =>
   intro s w hl hm
   obtain rfl : s = [] := List.eq_nil_of_length_eq_zero Kh
   refine Uy Tryz.func190 Z Tryz.results190 Tryz.ntmps190 Z ?_
   focus
     refine Vr<|Qn Z<|Xr Z<|Vp<|Vt<|Vr<|Yv Z<|Wo Z (Yi Z Z)<|Vp<|Vu Z (fun h1 => ?_) (fun h1 => ?_); refine Vr<|Yv Z<|Qn Z<|Xr Z<|Vp<|Vy ?_; refine Yh (v := .tuple #[.pointer _, .string _]) Z ?_; rotate_left; exact Ks
   exact ⟨Jf _, by rw [pre_nil]⟩
 | succ m ih =>
   intro s w hl hm
   have hl' := hl
   unfold lim at hl'
   by_cases P0 : s = []
   · subst P0
     refine Uy Tryz.func190 Z Tryz.results190 Tryz.ntmps190 Z ?_
     focus
       refine Vr<|Qn Z<|Xr Z<|Vp<|Vt<|Vr<|Yv Z<|Wo Z (Yi Z Z)<|Vp<|Vu Z (fun h1 => ?_) (fun h1 => ?_); refine Vr<|Yv Z<|Qn Z<|Xr Z<|Vp<|Vy ?_; refine Yh (v := .tuple #[.pointer _, .string _]) Z ?_; rotate_left; exact Ks
     exact ⟨Jf _, by rw [pre_nil]⟩
   have hlen : 0 < s.length := List.length_pos_iff.2 P0
   have es : s = s.getD 0 0 :: s.drop 1 := by have := Mf hlen; simpa using this
   have hrl : (s.drop 1).length = s.length - 1 := Kp
   generalize hc : s.getD 0 0 = c at es
   have ih1 : ∀ w, Dz 190 [str (s.drop 1)] w (PartP w (s.drop 1)) := fun w => ih _ w (by unfold lim; omega) Kh
   have fin : ∀ (f : Fm) (r : List UInt8), s = f.enc ++ r → s.take ((s.length : Int) - (r.length : Int)).toNat = f.enc := by
     intro f r h
     have : ((s.length : Int) - (r.length : Int)).toNat = f.enc.length := by rw [h]; simp
     rw [this, h]; simp
   by_cases c1 : c = 116
   · subst c1
     have hn : (s.getD 0 0).toNat = 116 := by rw [hc]; rfl
     have hp : pre s = some (.t, s.drop 1) := by rw [es]; simp [pre_t]
     clear es
     refine Uy Tryz.func190 Z Tryz.results190 Tryz.ntmps190 Z ?_
     focus
       refine Vr<|Qn Z<|Xr Z<|Vp<|Vt<|Vr<|Yv Z<|Wo Z (Yi Z Z)<|Vp<|Yt Z fun h1 => ?_; refine Vw<|Vt<|Ym<|Yv Z<|Wo Z (Ue (l := 1) Jr Z Z Kh) ?_; refine Xr Z<|Vp<|Vr<|Yv Z<|Wo Z (Yq (k := 0) Jr Z Z Kh) ?_; refine Wo Z (Yu (ps := [(0, .int _ _)]) (cs := [_, _, _]) Na Z Z)<|Xu Z Z Z ?_; rintro b1 w1 H1 E1 B1; refine Qn Z<|Vp<|Vt<|Vr<|Yv Z<|Wo Z (Yq (k := 0) Jr Z Z Kh) ?_; refine Vp<|Yb<|Vr<|Yo Z<|Ya Z<|Vp<|Vu Z (fun h2 => ?_) (fun h2 => ?_)
       refine Vw<|Vr<|Uv Z<|Yv Z<|Yv Z<|Wo Z (Xo Jr Z)<|Yv Z<|Wo Z (Xo Jr Z)<|Sc Z<|Wo Z (Rr Jr Z Z Kh) ?_; refine Wo Z (Ud Z)<|Yl Gh Jo Z<|Um (v := .string _) Z Jo Z Z Z B1 Kp Kh E1 ?_; rintro w2 E2 B1 K1 Z1; simp only [List.set] at B1; refine Vp<|Vr<|Uv Z<|Yv Z<|Qn Z<|Xr Z<|Vp<|Vy ?_; refine Yh (v := .tuple #[.pointer _, .string _]) Z ?_; rotate_left; exact Kt
     refine ⟨E2, ?_⟩
     rw [hp]
     refine ⟨_, Z, fun w3 k hs => ⟨b1, Z, (B1.keep k H1).cast ?_⟩⟩
     rw [fin _ _ (Ro hp), hn]; rfl
   by_cases c2 : c = 33 ∨ c = 83 ∨ c = 65
   · have hn : (s.getD 0 0).toNat = 33 ∨ (s.getD 0 0).toNat = 83 ∨ (s.getD 0 0).toNat = 65 := by rw [hc]; rcases c2 with rfl | rfl | rfl <;> simp
     cases hp : pre (s.drop 1) with
     | none =>
       have ih2 : ∀ w, Dz 190 [str (s.drop 1)] w (Ret w (.tuple #[.pointer none, str (s.drop 1)])) := fun w =>
         (ih1 w).mono fun v w' ⟨e, h⟩ => ⟨by rw [hp] at h; exact h, e⟩
       have hp' : pre s = none := by rw [es]; exact pre_un_none hp c2
       clear es ih1
       refine Uy Tryz.func190 Z Tryz.results190 Tryz.ntmps190 Z ?_
       focus
         refine Vr<|Qn Z<|Xr Z<|Vp<|Vt<|Vr<|Yv Z<|Wo Z (Yi Z Z)<|Vp<|Yt Z fun h1 => ?_; refine Vw<|Vt<|Ym<|Yv Z<|Wo Z (Ue (l := 1) Jr Z Z Kh) ?_; refine Xr Z<|Vp<|Vr<|Yv Z<|Wo Z (Yq (k := 0) Jr Z Z Kh) ?_; refine Wo Z (Yu (ps := [(0, .int _ _)]) (cs := [_, _, _]) Na Z Z)<|Xu Z Z Z ?_; rintro b1 w1 H1 E1 B1; refine Qn Z<|Vp<|Vt<|Vr<|Yv Z<|Wo Z (Yq (k := 0) Jr Z Z Kh) ?_; refine Vp<|Yb<|Vr<|Yo Z<|Ya Z<|Vp<|Vv Z fun h2 => ?_; refine Vt<|Vr<|Yo Z<|Ya Z<|Vp<|Vu Z (fun h3 => ?_) (fun h3 => ?_)
         refine Vw<|Vu Z (fun h4 => ?_) (fun h4 => ?_); refine Vr<|Yv Z<|Vs Z (Xh (a := .string _) Gk Z) (ih2 _) ?_; rintro _ w2 ⟨rfl, E2⟩; refine Ut Z<|Ma Z<|Sr Z<|Qn Z<|Xr Z<|Vp<|Vt<|Vr<|Uv Z<|Wo Z (Tw Gj Z Z)<|Vp<|Xe Z ?_; refine Vr<|Yv Z<|Qn Z<|Xr Z<|Vp<|Vy ?_; refine Yh (v := .tuple #[.pointer _, .string _]) Z ?_; rotate_left; exact Ks; refine Vr<|Yo Z<|Ya Z<|Vp<|Vu Z (fun h4 => ?_) (fun h4 => ?_); refine Vw<|Vu Z (fun h5 => ?_) (fun h5 => ?_); refine Vr<|Yv Z<|Vs Z (Xh (a := .string _) Gk Z) (ih2 _) ?_; rintro _ w2 ⟨rfl, E2⟩
         refine Ut Z<|Ma Z<|Sr Z<|Qn Z<|Xr Z<|Vp<|Vt<|Vt<|Ym<|Uv Z<|Wo Z (Tw Gj Z Z)<|Vp<|Xe Z ?_; refine Vr<|Yv Z<|Qn Z<|Xr Z<|Vp<|Vy ?_; refine Yh (v := .tuple #[.pointer _, .string _]) Z ?_; rotate_left; exact Ks; refine Ym<|Yo Z<|Ya Z<|Vp<|Vu Z (fun h5 => ?_) (fun h5 => ?_); refine Vr<|Yv Z<|Vs Z (Xh (a := .string _) Gk Z) (ih2 _) ?_; rintro _ w2 ⟨rfl, E2⟩; refine Ut Z<|Ma Z<|Sr Z<|Qn Z<|Xr Z<|Vp<|Vt<|Vr<|Uv Z<|Wo Z (Tw Gj Z Z)<|Vp<|Xe Z ?_; refine Vr<|Yv Z<|Qn Z<|Xr Z<|Vp<|Vy ?_; refine Yh (v := .tuple #[.pointer _, .string _]) Z ?_; rotate_left
         exact Kt
       all_goals exact ⟨E1.K E2, by rw [hp']⟩
     | some q =>
       obtain ⟨f, r1⟩ := q
       have ih2 : ∀ w, Dz 190 [str (s.drop 1)] w (RetX w (fun ad => .tuple #[.pointer (some ad), str r1]) fun ad w' => Above w.heap.size EFm w' (.pointer (some ad)) f) := fun w =>
         (ih1 w).mono fun v w' ⟨e, h⟩ => by
           rw [hp] at h
           obtain ⟨u, hv, hu⟩ := h
           obtain ⟨ad, rfl⟩ := hu.here.ptr
           exact ⟨e, ad, hv, hu⟩
       have hl1 : r1.length ≤ s.length - 1 := by have := congrArg List.length (Ro hp); simp at this; omega
       clear ih1
       have hd : ∃ g : Fm, pre s = some (g, r1) ∧ ∀ (w : World) (b bp : Nat) (u : Value), Blk w b [.int .u8 ((s.getD 0 0).toNat : Int), str g.enc, .slice (some ⟨bp, 0, none⟩) 1 1] → Blk w bp [u] → EFm w u f → EFm w (.pointer (some ⟨b, 0, none⟩)) g := by
         rw [hc]
         rcases c2 with rfl | rfl | rfl
         · exact ⟨.neg f, by rw [es]; exact pre_neg hp, fun w b bp u h1 h2 h3 => ⟨b, bp, u, rfl, h1, h2, h3⟩⟩
         · exact ⟨.S f, by rw [es]; exact pre_S hp, fun w b bp u h1 h2 h3 => ⟨b, bp, u, rfl, h1, h2, h3⟩⟩
         · exact ⟨.A f, by rw [es]; exact pre_A hp, fun w b bp u h1 h2 h3 => ⟨b, bp, u, rfl, h1, h2, h3⟩⟩
       obtain ⟨g, hp', hg⟩ := hd
       clear es
       refine Uy Tryz.func190 Z Tryz.results190 Tryz.ntmps190 Z ?_
       focus
         refine Vr<|Qn Z<|Xr Z<|Vp<|Vt<|Vr<|Yv Z<|Wo Z (Yi Z Z)<|Vp<|Yt Z fun h1 => ?_; refine Vw<|Vt<|Ym<|Yv Z<|Wo Z (Ue (l := 1) Jr Z Z Kh) ?_; refine Xr Z<|Vp<|Vr<|Yv Z<|Wo Z (Yq (k := 0) Jr Z Z Kh) ?_; refine Wo Z (Yu (ps := [(0, .int _ _)]) (cs := [_, _, _]) Na Z Z)<|Xu Z Z Z ?_; rintro b1 w1 H1 E1 B1; have := B1.lt; have := E1.Z; refine Qn Z<|Vp<|Vt<|Vr<|Yv Z<|Wo Z (Yq (k := 0) Jr Z Z Kh) ?_; refine Vp<|Yb<|Vr<|Yo Z<|Ya Z<|Vp<|Vv Z fun h2 => ?_; refine Vt<|Vr<|Yo Z<|Ya Z<|Vp<|Vu Z (fun h3 => ?_) (fun h3 => ?_)
         refine Vw<|Vu Z (fun h4 => ?_) (fun h4 => ?_); refine Vr<|Yv Z<|Vs Z (Xh (a := .string _) Gk Z) (ih2 _) ?_; rintro _ w2 ⟨E2, y1, rfl, L1⟩; have := E2.Z; refine Ut Z<|Ma Z<|Sr Z<|Qn Z<|Xr Z<|Vp<|Vt<|Vr<|Uv Z<|Wo Z (Qp Gj Z Z)<|Vp<|Vx Z ?_; refine Vw<|Vr<|Uv Z<|Uv Z<|Xc (ps := [(0, .pointer _)]) (cs := [_]) Z Zm Zn Vo Z Z Z Z ?_; rintro b2 w3 H2 E3 B2; refine Wo Z (Ud Z)<|Yl Gh Zb Z<|Um (v := .slice _ _ _) Z Zb Z Z Z (B1.J (E2.K E3)) Kp Kh ((E1.K E2).K E3) ?_; rintro w4 E4 B1 K1 Z1; simp only [List.set] at B1
         have L1 := (L1.J E3).keep (fun k h1 h2 => K1 k Kh) Kh; have B2 := B2.Y (K1 _ Kh); refine Vp<|Ym<|Yv Z<|Xr Z<|Vp<|Vr<|Uv Z<|Yv Z<|Yv Z<|Wo Z (Xo Jr Z)<|Yv Z<|Wo Z (Xo Jr Z)<|Sc Z<|Wo Z (Rr Jr Z Z Kh) ?_; refine Wo Z (Ud Z)<|Yl Gh Jo Z<|Um (v := .string _) Z Jo Z Z Z B1 Kp Kh E4 ?_; rintro w5 E5 B1 K2 Z2; simp only [List.set] at B1; have L1 := L1.keep (fun k h1 h2 => K2 k Kh) Kh; have B2 := B2.Y (K2 _ Kh); refine Vp<|Vr<|Uv Z<|Yv Z<|Qn Z<|Xr Z<|Vp<|Vy ?_; refine Yh (v := .tuple #[.pointer _, .string _]) Z ?_; rotate_left
         exact Ks; refine Vr<|Yo Z<|Ya Z<|Vp<|Vu Z (fun h4 => ?_) (fun h4 => ?_); refine Vw<|Vu Z (fun h5 => ?_) (fun h5 => ?_); refine Vr<|Yv Z<|Vs Z (Xh (a := .string _) Gk Z) (ih2 _) ?_; rintro _ w2 ⟨E2, y1, rfl, L1⟩; have := E2.Z; refine Ut Z<|Ma Z<|Sr Z<|Qn Z<|Xr Z<|Vp<|Vt<|Vt<|Ym<|Uv Z<|Wo Z (Qp Gj Z Z)<|Vp<|Vx Z ?_; refine Vw<|Vt<|Ym<|Uv Z<|Uv Z<|Xc (ps := [(0, .pointer _)]) (cs := [_]) Z Zm Zn Vo Z Z Z Z ?_; rintro b2 w3 H2 E3 B2
         refine Wo Z (Ud Z)<|Yl Gh Zb Z<|Um (v := .slice _ _ _) Z Zb Z Z Z (B1.J (E2.K E3)) Kp Kh ((E1.K E2).K E3) ?_; rintro w4 E4 B1 K1 Z1; simp only [List.set] at B1; have L1 := (L1.J E3).keep (fun k h1 h2 => K1 k Kh) Kh; have B2 := B2.Y (K1 _ Kh); refine Vp<|Ym<|Yv Z<|Xr Z<|Vp<|Vr<|Uv Z<|Yv Z<|Yv Z<|Wo Z (Xo Jr Z)<|Yv Z<|Wo Z (Xo Jr Z)<|Sc Z<|Wo Z (Rr Jr Z Z Kh) ?_; refine Wo Z (Ud Z)<|Yl Gh Jo Z<|Um (v := .string _) Z Jo Z Z Z B1 Kp Kh E4 ?_; rintro w5 E5 B1 K2 Z2; simp only [List.set] at B1
         have L1 := L1.keep (fun k h1 h2 => K2 k Kh) Kh; have B2 := B2.Y (K2 _ Kh); refine Vp<|Vr<|Uv Z<|Yv Z<|Qn Z<|Xr Z<|Vp<|Vy ?_; refine Yh (v := .tuple #[.pointer _, .string _]) Z ?_; rotate_left; exact Ks; refine Ym<|Yo Z<|Ya Z<|Vp<|Vu Z (fun h5 => ?_) (fun h5 => ?_); refine Vr<|Yv Z<|Vs Z (Xh (a := .string _) Gk Z) (ih2 _) ?_; rintro _ w2 ⟨E2, y1, rfl, L1⟩; have := E2.Z; refine Ut Z<|Ma Z<|Sr Z<|Qn Z<|Xr Z<|Vp<|Vt<|Vr<|Uv Z<|Wo Z (Qp Gj Z Z)<|Vp<|Vx Z ?_; refine Vw<|Vr<|Uv Z<|Uv Z<|Xc (ps := [(0, .pointer _)]) (cs := [_]) Z Zm Zn Vo Z Z Z Z ?_
         rintro b2 w3 H2 E3 B2; refine Wo Z (Ud Z)<|Yl Gh Zb Z<|Um (v := .slice _ _ _) Z Zb Z Z Z (B1.J (E2.K E3)) Kp Kh ((E1.K E2).K E3) ?_; rintro w4 E4 B1 K1 Z1; simp only [List.set] at B1; have L1 := (L1.J E3).keep (fun k h1 h2 => K1 k Kh) Kh; have B2 := B2.Y (K1 _ Kh); refine Vp<|Ym<|Yv Z<|Xr Z<|Vp<|Vr<|Uv Z<|Yv Z<|Yv Z<|Wo Z (Xo Jr Z)<|Yv Z<|Wo Z (Xo Jr Z)<|Sc Z<|Wo Z (Rr Jr Z Z Kh) ?_; refine Wo Z (Ud Z)<|Yl Gh Jo Z<|Um (v := .string _) Z Jo Z Z Z B1 Kp Kh E4 ?_; rintro w5 E5 B1 K2 Z2
         simp only [List.set] at B1; have L1 := L1.keep (fun k h1 h2 => K2 k Kh) Kh; have B2 := B2.Y (K2 _ Kh); refine Vp<|Vr<|Uv Z<|Yv Z<|Qn Z<|Xr Z<|Vp<|Vy ?_; refine Yh (v := .tuple #[.pointer _, .string _]) Z ?_; rotate_left; exact Kt
       all_goals
         refine ⟨Kk, ?_⟩
         rw [hp']
         refine ⟨_, Z, fun w6 k hs => hg w6 b1 b2 _ ((B1.keep k H1).cast ?_) (B2.keep k Kh) (L1 w6 (k.mono Kh) Kh)⟩
         rw [fin _ _ (Ro hp')]
   by_cases c3 : c = 40
   · subst c3
     have hn : (s.getD 0 0).toNat = 40 := by rw [hc]; rfl
     cases hp : pre (s.drop 1) with
     | none =>
       have ih2 : ∀ w, Dz 190 [str (s.drop 1)] w (Ret w (.tuple #[.pointer none, str (s.drop 1)])) := fun w =>
         (ih1 w).mono fun v w' ⟨e, h⟩ => ⟨by rw [hp] at h; exact h, e⟩
       have hp' : pre s = none := by rw [es]; exact pre_br1 hp
       clear es ih1
       refine Uy Tryz.func190 Z Tryz.results190 Tryz.ntmps190 Z ?_
       focus
         refine Vr<|Qn Z<|Xr Z<|Vp<|Vt<|Vr<|Yv Z<|Wo Z (Yi Z Z)<|Vp<|Yt Z fun h1 => ?_; refine Vw<|Vt<|Ym<|Yv Z<|Wo Z (Ue (l := 1) Jr Z Z Kh) ?_; refine Xr Z<|Vp<|Vr<|Yv Z<|Wo Z (Yq (k := 0) Jr Z Z Kh) ?_; refine Wo Z (Yu (ps := [(0, .int _ _)]) (cs := [_, _, _]) Na Z Z)<|Xu Z Z Z ?_; rintro b1 w1 H1 E1 B1; refine Qn Z<|Vp<|Vt<|Vr<|Yv Z<|Wo Z (Yq (k := 0) Jr Z Z Kh) ?_; refine Vp<|Yb<|Vr<|Yo Z<|Ya Z<|Vp<|Vv Z fun h2 => ?_; refine Vt<|Vr<|Yo Z<|Ya Z<|Vp<|Vv Z fun h3 => ?_
         refine Vr<|Yo Z<|Ya Z<|Vp<|Vv Z fun h4 => ?_; refine Ym<|Yo Z<|Ya Z<|Vp<|Vv Z fun h5 => ?_; refine Vr<|Yo Z<|Ya Z<|Vp<|Vu Z (fun h6 => ?_) (fun h6 => ?_); refine Vr<|Yv Z<|Vs Z (Xh (a := .string _) Gk Z) (ih2 _) ?_; rintro _ w2 ⟨rfl, E2⟩; refine Ut Z<|Ma Z<|Sr Z<|Qn Z<|Xr Z<|Vp<|Vt<|Vt<|Ym<|Uv Z<|Wo Z (Tw Gj Z Z)<|Xp Z<|Vq Z<|Vq Z<|Xy Z<|Xp Z<|Vq Z<|Vq Z<|Vq Z<|Vq Z<|Vq Z<|Vq Z<|Vq Z<|Vq Z<|Xy Z<|Vp<|Xe Z ?_; refine Vr<|Yv Z<|Qn Z<|Xr Z<|Vp<|Vy ?_; refine Yh (v := .tuple #[.pointer _, .string _]) Z ?_
         rotate_left; exact Kt
       all_goals exact ⟨E1.K E2, by rw [hp']⟩
     | some q =>
       obtain ⟨f, r1⟩ := q
       have ih2 : ∀ w, Dz 190 [str (s.drop 1)] w (RetX w (fun ad => .tuple #[.pointer (some ad), str r1]) fun ad w' => Above w.heap.size EFm w' (.pointer (some ad)) f) := fun w =>
         (ih1 w).mono fun v w' ⟨e, h⟩ => by
           rw [hp] at h
           obtain ⟨u, hv, hu⟩ := h
           obtain ⟨ad, rfl⟩ := hu.here.ptr
           exact ⟨e, ad, hv, hu⟩
       have hl1 : r1.length + f.enc.length = s.length - 1 := by have := congrArg List.length (Ro hp); simp at this; omega
       clear ih1
       by_cases r0 : r1 = []
       · have hp' : pre s = none := by rw [es]; exact pre_br2 hp (by rintro c r2 rfl; cases r0)
         subst r0
         clear es
         refine Uy Tryz.func190 Z Tryz.results190 Tryz.ntmps190 Z ?_
         focus
           refine Vr<|Qn Z<|Xr Z<|Vp<|Vt<|Vr<|Yv Z<|Wo Z (Yi Z Z)<|Vp<|Yt Z fun h1 => ?_; refine Vw<|Vt<|Ym<|Yv Z<|Wo Z (Ue (l := 1) Jr Z Z Kh) ?_; refine Xr Z<|Vp<|Vr<|Yv Z<|Wo Z (Yq (k := 0) Jr Z Z Kh) ?_; refine Wo Z (Yu (ps := [(0, .int _ _)]) (cs := [_, _, _]) Na Z Z)<|Xu Z Z Z ?_; rintro b1 w1 H1 E1 B1; refine Qn Z<|Vp<|Vt<|Vr<|Yv Z<|Wo Z (Yq (k := 0) Jr Z Z Kh) ?_; refine Vp<|Yb<|Vr<|Yo Z<|Ya Z<|Vp<|Vv Z fun h2 => ?_; refine Vt<|Vr<|Yo Z<|Ya Z<|Vp<|Vv Z fun h3 => ?_
           refine Vr<|Yo Z<|Ya Z<|Vp<|Vv Z fun h4 => ?_; refine Ym<|Yo Z<|Ya Z<|Vp<|Vv Z fun h5 => ?_; refine Vr<|Yo Z<|Ya Z<|Vp<|Vu Z (fun h6 => ?_) (fun h6 => ?_); refine Vr<|Yv Z<|Vs Z (Xh (a := .string _) Gk Z) (ih2 _) ?_; rintro _ w2 ⟨E2, y1, rfl, L1⟩; refine Ut Z<|Ma Z<|Sr Z<|Qn Z<|Xr Z<|Vp<|Vt<|Vt<|Ym<|Uv Z<|Wo Z (Qp Gj Z Z)<|Xp Z<|Yv Z<|Wo Z (Yi Z Z)<|Xb Z<|Xi Z (fun h7 => ?_) (fun h7 => ?_); refine Vq Z<|Vq Z<|Vq Z<|Vq Z<|Vq Z<|Vq Z<|Vq Z<|Vq Z<|Xy Z<|Vp<|Xe Z ?_; refine Vr<|Yv Z<|Qn Z<|Xr Z<|Vp<|Vy ?_
           refine Yh (v := .tuple #[.pointer _, .string _]) Z ?_; rotate_left; exact Ks; exact Kt
         all_goals exact ⟨E1.K E2, by rw [hp']⟩
       have Q1 : 0 < r1.length := List.length_pos_iff.2 r0
       have er : r1 = r1.getD 0 0 :: r1.drop 1 := by have := Mf Q1; simpa using this
       have hr1l : (r1.drop 1).length = r1.length - 1 := Kp
       generalize hd : r1.getD 0 0 = d at er
       by_cases c4 : d = 38 ∨ d = 124
       · have hn2 : (r1.getD 0 0).toNat = 38 ∨ (r1.getD 0 0).toNat = 124 := by rw [hd]; rcases c4 with rfl | rfl <;> simp
         have ih3 : ∀ w, Dz 190 [str (r1.drop 1)] w (PartP w (r1.drop 1)) := fun w => ih _ w (by unfold lim; omega) Kh
         rw [er] at hp
         cases I2 : pre (r1.drop 1) with
         | none =>
           have ih4 : ∀ w, Dz 190 [str (r1.drop 1)] w (Ret w (.tuple #[.pointer none, str (r1.drop 1)])) := fun w =>
             (ih3 w).mono fun v w' ⟨e, h⟩ => ⟨by rw [I2] at h; exact h, e⟩
           have hp' : pre s = none := by rw [es]; exact pre_br3 hp I2
           clear es er ih3
           refine Uy Tryz.func190 Z Tryz.results190 Tryz.ntmps190 Z ?_
           focus
             refine Vr<|Qn Z<|Xr Z<|Vp<|Vt<|Vr<|Yv Z<|Wo Z (Yi Z Z)<|Vp<|Yt Z fun h1 => ?_; refine Vw<|Vt<|Ym<|Yv Z<|Wo Z (Ue (l := 1) Jr Z Z Kh) ?_; refine Xr Z<|Vp<|Vr<|Yv Z<|Wo Z (Yq (k := 0) Jr Z Z Kh) ?_; refine Wo Z (Yu (ps := [(0, .int _ _)]) (cs := [_, _, _]) Na Z Z)<|Xu Z Z Z ?_; rintro b1 w1 H1 E1 B1; refine Qn Z<|Vp<|Vt<|Vr<|Yv Z<|Wo Z (Yq (k := 0) Jr Z Z Kh) ?_; refine Vp<|Yb<|Vr<|Yo Z<|Ya Z<|Vp<|Vv Z fun h2 => ?_; refine Vt<|Vr<|Yo Z<|Ya Z<|Vp<|Vv Z fun h3 => ?_
             refine Vr<|Yo Z<|Ya Z<|Vp<|Vv Z fun h4 => ?_; refine Ym<|Yo Z<|Ya Z<|Vp<|Vv Z fun h5 => ?_; refine Vr<|Yo Z<|Ya Z<|Vp<|Vu Z (fun h6 => ?_) (fun h6 => ?_); refine Vr<|Yv Z<|Vs Z (Xh (a := .string _) Gk Z) (ih2 _) ?_; rintro _ w2 ⟨E2, y1, rfl, L1⟩; refine Ut Z<|Ma Z<|Sr Z<|Qn Z<|Xr Z<|Vp<|Vt<|Vt<|Ym<|Uv Z<|Wo Z (Qp Gj Z Z)<|Xp Z<|Yv Z<|Wo Z (Yi Z Z)<|Xb Z<|Ui Z fun h7 => ?_; refine Yv Z<|Wo Z (Yq (k := 0) Jr Z Z Kh) ?_; refine Qg Z<|Qv Z (fun h8 => ?_) (fun h8 => ?_); refine Yv Z<|Wo Z (Yq (k := 0) Jr Z Z Kh) ?_
             refine Qg Z<|Xy Z<|Xb Z<|Vp<|Qi Z fun h9 => ?_; refine Vw<|Vr<|Yv Z<|Wo Z (Ue (l := 1) Jr Z Z Kh) ?_; refine Vs Z (Xh (a := .string _) Gk Z) (ih4 _) ?_; rintro _ w3 ⟨rfl, E3⟩; refine Ut Z<|Ma Z<|Sr Z<|Qn Z<|Xr Z<|Vp<|Vt<|Vt<|Ym<|Uv Z<|Wo Z (Tw Gj Z Z)<|Xp Z<|Vq Z<|Vq Z<|Xy Z<|Xp Z<|Vq Z<|Vq Z<|Vq Z<|Xy Z<|Vp<|Xe Z ?_; refine Vr<|Yv Z<|Qn Z<|Xr Z<|Vp<|Vy ?_; refine Yh (v := .tuple #[.pointer _, .string _]) Z ?_; rotate_left; refine Vq Z<|Vq Z<|Vq Z<|Xb Z<|Xb Z<|Vp<|Vx Z ?_
             refine Vw<|Vr<|Yv Z<|Wo Z (Ue (l := 1) Jr Z Z Kh) ?_; refine Vs Z (Xh (a := .string _) Gk Z) (ih4 _) ?_; rintro _ w3 ⟨rfl, E3⟩; refine Ut Z<|Ma Z<|Sr Z<|Qn Z<|Xr Z<|Vp<|Vt<|Vr<|Uv Z<|Wo Z (Tw Gj Z Z)<|Xp Z<|Vq Z<|Vq Z<|Xy Z<|Xp Z<|Vq Z<|Vq Z<|Vq Z<|Xy Z<|Vp<|Xe Z ?_; refine Vt<|Ym<|Yv Z<|Qn Z<|Xr Z<|Vp<|Vy ?_; refine Yh (v := .tuple #[.pointer _, .string _]) Z ?_; rotate_left; exact Kt
           all_goals exact ⟨(E1.K E2).K E3, by rw [hp']⟩
         | some q2 =>
           obtain ⟨g, r3⟩ := q2
           have ih4 : ∀ w, Dz 190 [str (r1.drop 1)] w (RetX w (fun ad => .tuple #[.pointer (some ad), str r3]) fun ad w' => Above w.heap.size EFm w' (.pointer (some ad)) g) := fun w =>
             (ih3 w).mono fun v w' ⟨e, h⟩ => by
               rw [I2] at h
               obtain ⟨u, hv, hu⟩ := h
               obtain ⟨ad, rfl⟩ := hu.here.ptr
               exact ⟨e, ad, hv, hu⟩
           have hl3 : r3.length + g.enc.length = r1.length - 1 := by have := congrArg List.length (Ro I2); simp at this; omega
           clear ih3
           by_cases r0' : r3 = []
           · have hp' : pre s = none := by rw [es]; exact pre_br4 hp I2 (by rintro r4 rfl; cases r0')
             subst r0'
             clear es er
             refine Uy Tryz.func190 Z Tryz.results190 Tryz.ntmps190 Z ?_
             focus
               refine Vr<|Qn Z<|Xr Z<|Vp<|Vt<|Vr<|Yv Z<|Wo Z (Yi Z Z)<|Vp<|Yt Z fun h1 => ?_; refine Vw<|Vt<|Ym<|Yv Z<|Wo Z (Ue (l := 1) Jr Z Z Kh) ?_; refine Xr Z<|Vp<|Vr<|Yv Z<|Wo Z (Yq (k := 0) Jr Z Z Kh) ?_; refine Wo Z (Yu (ps := [(0, .int _ _)]) (cs := [_, _, _]) Na Z Z)<|Xu Z Z Z ?_; rintro b1 w1 H1 E1 B1; refine Qn Z<|Vp<|Vt<|Vr<|Yv Z<|Wo Z (Yq (k := 0) Jr Z Z Kh) ?_; refine Vp<|Yb<|Vr<|Yo Z<|Ya Z<|Vp<|Vv Z fun h2 => ?_; refine Vt<|Vr<|Yo Z<|Ya Z<|Vp<|Vv Z fun h3 => ?_
               refine Vr<|Yo Z<|Ya Z<|Vp<|Vv Z fun h4 => ?_; refine Ym<|Yo Z<|Ya Z<|Vp<|Vv Z fun h5 => ?_; refine Vr<|Yo Z<|Ya Z<|Vp<|Vu Z (fun h6 => ?_) (fun h6 => ?_); refine Vr<|Yv Z<|Vs Z (Xh (a := .string _) Gk Z) (ih2 _) ?_; rintro _ w2 ⟨E2, y1, rfl, L1⟩; refine Ut Z<|Ma Z<|Sr Z<|Qn Z<|Xr Z<|Vp<|Vt<|Vt<|Ym<|Uv Z<|Wo Z (Qp Gj Z Z)<|Xp Z<|Yv Z<|Wo Z (Yi Z Z)<|Xb Z<|Ui Z fun h7 => ?_; refine Yv Z<|Wo Z (Yq (k := 0) Jr Z Z Kh) ?_; refine Qg Z<|Qv Z (fun h8 => ?_) (fun h8 => ?_); refine Yv Z<|Wo Z (Yq (k := 0) Jr Z Z Kh) ?_
               refine Qg Z<|Xy Z<|Xb Z<|Vp<|Qi Z fun h9 => ?_; refine Vw<|Vr<|Yv Z<|Wo Z (Ue (l := 1) Jr Z Z Kh) ?_; refine Vs Z (Xh (a := .string _) Gk Z) (ih4 _) ?_; rintro _ w3 ⟨E3, y2, rfl, L2⟩; refine Ut Z<|Ma Z<|Sr Z<|Qn Z<|Xr Z<|Vp<|Vt<|Vt<|Ym<|Uv Z<|Wo Z (Qp Gj Z Z)<|Xp Z<|Yv Z<|Wo Z (Yi Z Z)<|Xb Z<|Xi Z (fun h10 => ?_) (fun h10 => ?_); refine Vq Z<|Vq Z<|Vq Z<|Xy Z<|Vp<|Xe Z ?_; refine Vr<|Yv Z<|Qn Z<|Xr Z<|Vp<|Vy ?_; refine Yh (v := .tuple #[.pointer _, .string _]) Z ?_; rotate_left; exact Ks
               refine Vq Z<|Vq Z<|Vq Z<|Xb Z<|Xb Z<|Vp<|Vx Z ?_; refine Vw<|Vr<|Yv Z<|Wo Z (Ue (l := 1) Jr Z Z Kh) ?_; refine Vs Z (Xh (a := .string _) Gk Z) (ih4 _) ?_; rintro _ w3 ⟨E3, y2, rfl, L2⟩; refine Ut Z<|Ma Z<|Sr Z<|Qn Z<|Xr Z<|Vp<|Vt<|Vt<|Ym<|Uv Z<|Wo Z (Qp Gj Z Z)<|Xp Z<|Yv Z<|Wo Z (Yi Z Z)<|Xb Z<|Xi Z (fun h9 => ?_) (fun h9 => ?_); refine Vq Z<|Vq Z<|Vq Z<|Xy Z<|Vp<|Xe Z ?_; refine Vr<|Yv Z<|Qn Z<|Xr Z<|Vp<|Vy ?_; refine Yh (v := .tuple #[.pointer _, .string _]) Z ?_; rotate_left; exact Ks; exact Kt
             all_goals exact ⟨(E1.K E2).K E3, by rw [hp']⟩
           have Q3 : 0 < r3.length := List.length_pos_iff.2 r0'
           have er3 : r3 = r3.getD 0 0 :: r3.drop 1 := by have := Mf Q3; simpa using this
           have hr3l : (r3.drop 1).length = r3.length - 1 := Kp
           generalize hd3 : r3.getD 0 0 = d3 at er3
           by_cases c5 : d3 = 41
           · have hn3 : (r3.getD 0 0).toNat = 41 := by rw [hd3, c5]; rfl
             have hh : ∃ k : Fm, pre s = some (k, r3.drop 1) ∧ ∀ (w : World) (b bp : Nat) (u u' : Value), Blk w b [.int .u8 ((r1.getD 0 0).toNat : Int), str k.enc, .slice (some ⟨bp, 0, none⟩) 2 2] → Blk w bp [u, u'] → EFm w u f → EFm w u' g → EFm w (.pointer (some ⟨b, 0, none⟩)) k := by
               rw [hd]
               rw [er3, c5] at I2
               rcases c4 with rfl | rfl
               · exact ⟨.and f g, by rw [es]; exact pre_and hp I2, fun w b bp u u' h1 h2 h3 h4 => ⟨b, bp, u, u', rfl, h1, h2, h3, h4⟩⟩
               · exact ⟨.or f g, by rw [es]; exact pre_or hp I2, fun w b bp u u' h1 h2 h3 h4 => ⟨b, bp, u, u', rfl, h1, h2, h3, h4⟩⟩
             obtain ⟨k, hp', hg⟩ := hh
             clear es er er3 c5
             refine Uy Tryz.func190 Z Tryz.results190 Tryz.ntmps190 Z ?_
             focus
               refine Vr<|Qn Z<|Xr Z<|Vp<|Vt<|Vr<|Yv Z<|Wo Z (Yi Z Z)<|Vp<|Yt Z fun h1 => ?_; refine Vw<|Vt<|Ym<|Yv Z<|Wo Z (Ue (l := 1) Jr Z Z Kh) ?_; refine Xr Z<|Vp<|Vr<|Yv Z<|Wo Z (Yq (k := 0) Jr Z Z Kh) ?_; refine Wo Z (Yu (ps := [(0, .int _ _)]) (cs := [_, _, _]) Na Z Z)<|Xu Z Z Z ?_; rintro b1 w1 H1 E1 B1; have := B1.lt; have := E1.Z; refine Qn Z<|Vp<|Vt<|Vr<|Yv Z<|Wo Z (Yq (k := 0) Jr Z Z Kh) ?_; refine Vp<|Yb<|Vr<|Yo Z<|Ya Z<|Vp<|Vv Z fun h2 => ?_; refine Vt<|Vr<|Yo Z<|Ya Z<|Vp<|Vv Z fun h3 => ?_
               refine Vr<|Yo Z<|Ya Z<|Vp<|Vv Z fun h4 => ?_; refine Ym<|Yo Z<|Ya Z<|Vp<|Vv Z fun h5 => ?_; refine Vr<|Yo Z<|Ya Z<|Vp<|Vu Z (fun h6 => ?_) (fun h6 => ?_); refine Vr<|Yv Z<|Vs Z (Xh (a := .string _) Gk Z) (ih2 _) ?_; rintro _ w2 ⟨E2, y1, rfl, L1⟩; have := E2.Z; refine Ut Z<|Ma Z<|Sr Z<|Qn Z<|Xr Z<|Vp<|Vt<|Vt<|Ym<|Uv Z<|Wo Z (Qp Gj Z Z)<|Xp Z<|Yv Z<|Wo Z (Yi Z Z)<|Xb Z<|Ui Z fun h7 => ?_; refine Yv Z<|Wo Z (Yq (k := 0) Jr Z Z Kh) ?_; refine Qg Z<|Qv Z (fun h8 => ?_) (fun h8 => ?_); refine Yv Z<|Wo Z (Yq (k := 0) Jr Z Z Kh) ?_
               refine Qg Z<|Xy Z<|Xb Z<|Vp<|Qi Z fun h9 => ?_; refine Vw<|Vr<|Yv Z<|Wo Z (Ue (l := 1) Jr Z Z Kh) ?_; refine Vs Z (Xh (a := .string _) Gk Z) (ih4 _) ?_; rintro _ w3 ⟨E3, y2, rfl, L2⟩; have := E3.Z; refine Ut Z<|Ma Z<|Sr Z<|Qn Z<|Xr Z<|Vp<|Vt<|Vt<|Ym<|Uv Z<|Wo Z (Qp Gj Z Z)<|Xp Z<|Yv Z<|Wo Z (Yi Z Z)<|Xb Z<|Ui Z fun h10 => ?_; refine Yv Z<|Wo Z (Yq (k := 0) Jr Z Z Kh) ?_; refine Qg Z<|Xb Z<|Vp<|Qi Z fun h11 => ?_; refine Vw<|Vr<|Uv Z<|Yv Z<|Wo Z (Yq (k := 0) Jr Z Z Kh) ?_
               refine Wo Z (Ud Z)<|Yl Gh Gz Z<|Um (v := .int _ _) Z Gz Z Z Z (B1.J (E2.K E3)) Kp Kh ((E1.K E2).K E3) ?_; rintro w4 E4 B1 K1 Z1; simp only [List.set] at B1; have L1 := (L1.J E3).keep (fun k h1 h2 => K1 k Kh) Kh; have L2 := L2.keep (fun k h1 h2 => K1 k Kh) Kh; refine Vp<|Vt<|Ym<|Uv Z<|Uv Z<|Uv Z<|Xc (ps := [(0, .pointer _), (1, .pointer _)]) (cs := [_, _]) Z Zm Zn Vo Z Z Z Z ?_; rintro b2 w5 H2 E5 B2; refine Wo Z (Ud Z)<|Yl Gh Zb Z<|Um (v := .slice _ _ _) Z Zb Z Z Z (B1.J E5) Kp Kh (E4.K E5) ?_; rintro w6 E6 B1 K2 Z2; simp only [List.set] at B1
               have L1 := (L1.J E5).keep (fun k h1 h2 => K2 k Kh) Kh; have L2 := (L2.J E5).keep (fun k h1 h2 => K2 k Kh) Kh; have B2 := B2.Y (K2 _ Kh); refine Vp<|Ym<|Yv Z<|Wo Z (Ue (l := 1) Jr Z Z Kh) ?_; refine Xr Z<|Vp<|Vr<|Uv Z<|Yv Z<|Yv Z<|Wo Z (Xo Jr Z)<|Yv Z<|Wo Z (Xo Jr Z)<|Sc Z<|Wo Z (Rr Jr Z Z Kh) ?_; refine Wo Z (Ud Z)<|Yl Gh Jo Z<|Um (v := .string _) Z Jo Z Z Z B1 Kp Kh E6 ?_; rintro w7 E7 B1 K3 Z3; simp only [List.set] at B1; have L1 := L1.keep (fun k h1 h2 => K3 k Kh) Kh
               have L2 := L2.keep (fun k h1 h2 => K3 k Kh) Kh; have B2 := B2.Y (K3 _ Kh); refine Vp<|Vr<|Uv Z<|Yv Z<|Qn Z<|Xr Z<|Vp<|Vy ?_; refine Yh (v := .tuple #[.pointer _, .string _]) Z ?_; rotate_left; refine Vq Z<|Vq Z<|Vq Z<|Xb Z<|Xb Z<|Vp<|Vx Z ?_; refine Vw<|Vr<|Yv Z<|Wo Z (Ue (l := 1) Jr Z Z Kh) ?_; refine Vs Z (Xh (a := .string _) Gk Z) (ih4 _) ?_; rintro _ w3 ⟨E3, y2, rfl, L2⟩; have := E3.Z; refine Ut Z<|Ma Z<|Sr Z<|Qn Z<|Xr Z<|Vp<|Vt<|Vr<|Uv Z<|Wo Z (Qp Gj Z Z)<|Xp Z<|Yv Z<|Wo Z (Yi Z Z)<|Xb Z<|Ui Z fun h9 => ?_
               refine Yv Z<|Wo Z (Yq (k := 0) Jr Z Z Kh) ?_; refine Qg Z<|Xb Z<|Vp<|Qi Z fun h10 => ?_; refine Vw<|Vr<|Uv Z<|Yv Z<|Wo Z (Yq (k := 0) Jr Z Z Kh) ?_; refine Wo Z (Ud Z)<|Yl Gh Gz Z<|Um (v := .int _ _) Z Gz Z Z Z (B1.J (E2.K E3)) Kp Kh ((E1.K E2).K E3) ?_; rintro w4 E4 B1 K1 Z1; simp only [List.set] at B1; have L1 := (L1.J E3).keep (fun k h1 h2 => K1 k Kh) Kh; have L2 := L2.keep (fun k h1 h2 => K1 k Kh) Kh; refine Vp<|Vr<|Uv Z<|Uv Z<|Uv Z<|Xc (ps := [(0, .pointer _), (1, .pointer _)]) (cs := [_, _]) Z Zm Zn Vo Z Z Z Z ?_
               rintro b2 w5 H2 E5 B2; refine Wo Z (Ud Z)<|Yl Gh Zb Z<|Um (v := .slice _ _ _) Z Zb Z Z Z (B1.J E5) Kp Kh (E4.K E5) ?_; rintro w6 E6 B1 K2 Z2; simp only [List.set] at B1; have L1 := (L1.J E5).keep (fun k h1 h2 => K2 k Kh) Kh; have L2 := (L2.J E5).keep (fun k h1 h2 => K2 k Kh) Kh; have B2 := B2.Y (K2 _ Kh); refine Vp<|Ym<|Yv Z<|Wo Z (Ue (l := 1) Jr Z Z Kh) ?_; refine Xr Z<|Vp<|Vr<|Uv Z<|Yv Z<|Yv Z<|Wo Z (Xo Jr Z)<|Yv Z<|Wo Z (Xo Jr Z)<|Sc Z<|Wo Z (Rr Jr Z Z Kh) ?_
               refine Wo Z (Ud Z)<|Yl Gh Jo Z<|Um (v := .string _) Z Jo Z Z Z B1 Kp Kh E6 ?_; rintro w7 E7 B1 K3 Z3; simp only [List.set] at B1; have L1 := L1.keep (fun k h1 h2 => K3 k Kh) Kh; have L2 := L2.keep (fun k h1 h2 => K3 k Kh) Kh; have B2 := B2.Y (K3 _ Kh); refine Vp<|Vr<|Uv Z<|Yv Z<|Qn Z<|Xr Z<|Vp<|Vy ?_; refine Yh (v := .tuple #[.pointer _, .string _]) Z ?_; rotate_left; exact Kt
             all_goals
               refine ⟨Kk, ?_⟩
               rw [hp']
               refine ⟨_, Z, fun w9 q hs => hg w9 b1 b2 _ _ ((B1.keep q H1).cast ?_) (B2.keep q Kh) (L1 w9 (q.mono Kh) Kh) (L2 w9 (q.mono Kh) Kh)⟩
               rw [fin _ _ (Ro hp')]
           · have hn3 : (r3.getD 0 0).toNat ≠ 41 := by rw [hd3]; exact fun h => c5 (UInt8.toNat_inj.1 h)
             have hp' : pre s = none := by rw [es]; exact pre_br4 hp I2 (by intro r4 h; rw [h] at er3; exact c5 (List.cons.inj er3).1.symm)
             clear es er er3
             refine Uy Tryz.func190 Z Tryz.results190 Tryz.ntmps190 Z ?_
             focus
               refine Vr<|Qn Z<|Xr Z<|Vp<|Vt<|Vr<|Yv Z<|Wo Z (Yi Z Z)<|Vp<|Yt Z fun h1 => ?_; refine Vw<|Vt<|Ym<|Yv Z<|Wo Z (Ue (l := 1) Jr Z Z Kh) ?_; refine Xr Z<|Vp<|Vr<|Yv Z<|Wo Z (Yq (k := 0) Jr Z Z Kh) ?_; refine Wo Z (Yu (ps := [(0, .int _ _)]) (cs := [_, _, _]) Na Z Z)<|Xu Z Z Z ?_; rintro b1 w1 H1 E1 B1; refine Qn Z<|Vp<|Vt<|Vr<|Yv Z<|Wo Z (Yq (k := 0) Jr Z Z Kh) ?_; refine Vp<|Yb<|Vr<|Yo Z<|Ya Z<|Vp<|Vv Z fun h2 => ?_; refine Vt<|Vr<|Yo Z<|Ya Z<|Vp<|Vv Z fun h3 => ?_
               refine Vr<|Yo Z<|Ya Z<|Vp<|Vv Z fun h4 => ?_; refine Ym<|Yo Z<|Ya Z<|Vp<|Vv Z fun h5 => ?_; refine Vr<|Yo Z<|Ya Z<|Vp<|Vu Z (fun h6 => ?_) (fun h6 => ?_); refine Vr<|Yv Z<|Vs Z (Xh (a := .string _) Gk Z) (ih2 _) ?_; rintro _ w2 ⟨E2, y1, rfl, L1⟩; refine Ut Z<|Ma Z<|Sr Z<|Qn Z<|Xr Z<|Vp<|Vt<|Vt<|Ym<|Uv Z<|Wo Z (Qp Gj Z Z)<|Xp Z<|Yv Z<|Wo Z (Yi Z Z)<|Xb Z<|Ui Z fun h7 => ?_; refine Yv Z<|Wo Z (Yq (k := 0) Jr Z Z Kh) ?_; refine Qg Z<|Qv Z (fun h8 => ?_) (fun h8 => ?_); refine Yv Z<|Wo Z (Yq (k := 0) Jr Z Z Kh) ?_
               refine Qg Z<|Xy Z<|Xb Z<|Vp<|Qi Z fun h9 => ?_; refine Vw<|Vr<|Yv Z<|Wo Z (Ue (l := 1) Jr Z Z Kh) ?_; refine Vs Z (Xh (a := .string _) Gk Z) (ih4 _) ?_; rintro _ w3 ⟨E3, y2, rfl, L2⟩; refine Ut Z<|Ma Z<|Sr Z<|Qn Z<|Xr Z<|Vp<|Vt<|Vt<|Ym<|Uv Z<|Wo Z (Qp Gj Z Z)<|Xp Z<|Yv Z<|Wo Z (Yi Z Z)<|Xb Z<|Ui Z fun h10 => ?_; refine Yv Z<|Wo Z (Yq (k := 0) Jr Z Z Kh) ?_; refine Qg Z<|Xb Z<|Vp<|Xn Z (fun h11 => ?_) (fun h11 => ?_); refine Vr<|Yv Z<|Qn Z<|Xr Z<|Vp<|Vy ?_; refine Yh (v := .tuple #[.pointer _, .string _]) Z ?_; rotate_left
               exact Kt; refine Vq Z<|Vq Z<|Vq Z<|Xb Z<|Xb Z<|Vp<|Vx Z ?_; refine Vw<|Vt<|Ym<|Yv Z<|Wo Z (Ue (l := 1) Jr Z Z Kh) ?_; refine Vs Z (Xh (a := .string _) Gk Z) (ih4 _) ?_; rintro _ w3 ⟨E3, y2, rfl, L2⟩; refine Ut Z<|Ma Z<|Sr Z<|Qn Z<|Xr Z<|Vp<|Vt<|Vr<|Uv Z<|Wo Z (Qp Gj Z Z)<|Xp Z<|Yv Z<|Wo Z (Yi Z Z)<|Xb Z<|Ui Z fun h9 => ?_; refine Yv Z<|Wo Z (Yq (k := 0) Jr Z Z Kh) ?_; refine Qg Z<|Xb Z<|Vp<|Xn Z (fun h10 => ?_) (fun h10 => ?_); refine Vr<|Yv Z<|Qn Z<|Xr Z<|Vp<|Vy ?_
               refine Yh (v := .tuple #[.pointer _, .string _]) Z ?_; rotate_left; exact Kt; exact Kt
             all_goals exact ⟨(E1.K E2).K E3, by rw [hp']⟩
       · have hn2 : (r1.getD 0 0).toNat ≠ 38 ∧ (r1.getD 0 0).toNat ≠ 124 := by
           rw [hd]; exact ⟨fun h => c4 (.inl (UInt8.toNat_inj.1 h)), fun h => c4 (.inr (UInt8.toNat_inj.1 h))⟩
         have hp' : pre s = none := by
           rw [es]
           refine pre_br2 hp ?_
           intro c r2 h
           rw [h] at er
           obtain ⟨rfl, _⟩ := List.cons.inj er
           exact ⟨fun h => c4 (.inl h), fun h => c4 (.inr h)⟩
         clear es er
         refine Uy Tryz.func190 Z Tryz.results190 Tryz.ntmps190 Z ?_
         focus
           refine Vr<|Qn Z<|Xr Z<|Vp<|Vt<|Vr<|Yv Z<|Wo Z (Yi Z Z)<|Vp<|Yt Z fun h1 => ?_; refine Vw<|Vt<|Ym<|Yv Z<|Wo Z (Ue (l := 1) Jr Z Z Kh) ?_; refine Xr Z<|Vp<|Vr<|Yv Z<|Wo Z (Yq (k := 0) Jr Z Z Kh) ?_; refine Wo Z (Yu (ps := [(0, .int _ _)]) (cs := [_, _, _]) Na Z Z)<|Xu Z Z Z ?_; rintro b1 w1 H1 E1 B1; refine Qn Z<|Vp<|Vt<|Vr<|Yv Z<|Wo Z (Yq (k := 0) Jr Z Z Kh) ?_; refine Vp<|Yb<|Vr<|Yo Z<|Ya Z<|Vp<|Vv Z fun h2 => ?_; refine Vt<|Vr<|Yo Z<|Ya Z<|Vp<|Vv Z fun h3 => ?_
           refine Vr<|Yo Z<|Ya Z<|Vp<|Vv Z fun h4 => ?_; refine Ym<|Yo Z<|Ya Z<|Vp<|Vv Z fun h5 => ?_; refine Vr<|Yo Z<|Ya Z<|Vp<|Vu Z (fun h6 => ?_) (fun h6 => ?_); refine Vr<|Yv Z<|Vs Z (Xh (a := .string _) Gk Z) (ih2 _) ?_; rintro _ w2 ⟨E2, y1, rfl, L1⟩; refine Ut Z<|Ma Z<|Sr Z<|Qn Z<|Xr Z<|Vp<|Vt<|Vt<|Ym<|Uv Z<|Wo Z (Qp Gj Z Z)<|Xp Z<|Yv Z<|Wo Z (Yi Z Z)<|Xb Z<|Ui Z fun h7 => ?_; refine Yv Z<|Wo Z (Yq (k := 0) Jr Z Z Kh) ?_; refine Qg Z<|Qv Z (fun h8 => ?_) (fun h8 => ?_); refine Yv Z<|Wo Z (Yq (k := 0) Jr Z Z Kh) ?_
           refine Qg Z<|Xy Z<|Xb Z<|Vp<|Xn Z (fun h9 => ?_) (fun h9 => ?_); refine Vt<|Ym<|Yv Z<|Qn Z<|Xr Z<|Vp<|Vy ?_; refine Yh (v := .tuple #[.pointer _, .string _]) Z ?_; rotate_left; exact Kt; exact Kt; exact Kt
         all_goals exact ⟨E1.K E2, by rw [hp']⟩
   · have hn : (s.getD 0 0).toNat ≠ 116 ∧ (s.getD 0 0).toNat ≠ 33 ∧ (s.getD 0 0).toNat ≠ 83 ∧ (s.getD 0 0).toNat ≠ 65 ∧ (s.getD 0 0).toNat ≠ 40 := by
       rw [hc]
       refine ⟨fun h => c1 (UInt8.toNat_inj.1 h), fun h => c2 (.inl (UInt8.toNat_inj.1 h)), fun h => c2 (.inr (.inl (UInt8.toNat_inj.1 h))), fun h => c2 (.inr (.inr (UInt8.toNat_inj.1 h))), fun h => c3 (UInt8.toNat_inj.1 h)⟩
     have hp' : pre s = none := by
       rw [es]; exact pre_other ⟨c1, fun h => c2 (.inl h), fun h => c2 (.inr (.inl h)), fun h => c2 (.inr (.inr h)), c3⟩
     clear es
     refine Uy Tryz.func190 Z Tryz.results190 Tryz.ntmps190 Z ?_
     focus
       refine Vr<|Qn Z<|Xr Z<|Vp<|Vt<|Vr<|Yv Z<|Wo Z (Yi Z Z)<|Vp<|Yt Z fun h1 => ?_; refine Vw<|Vt<|Ym<|Yv Z<|Wo Z (Ue (l := 1) Jr Z Z Kh) ?_; refine Xr Z<|Vp<|Vr<|Yv Z<|Wo Z (Yq (k := 0) Jr Z Z Kh) ?_; refine Wo Z (Yu (ps := [(0, .int _ _)]) (cs := [_, _, _]) Na Z Z)<|Xu Z Z Z ?_; rintro b1 w1 H1 E1 B1; refine Qn Z<|Vp<|Vt<|Vr<|Yv Z<|Wo Z (Yq (k := 0) Jr Z Z Kh) ?_; refine Vp<|Yb<|Vr<|Yo Z<|Ya Z<|Vp<|Vv Z fun h2 => ?_; refine Vt<|Vr<|Yo Z<|Ya Z<|Vp<|Vv Z fun h3 => ?_
       refine Vr<|Yo Z<|Ya Z<|Vp<|Vv Z fun h4 => ?_; refine Ym<|Yo Z<|Ya Z<|Vp<|Vv Z fun h5 => ?_; refine Vr<|Yo Z<|Ya Z<|Vp<|Vv Z fun h6 => ?_; refine Vr<|Yv Z<|Qn Z<|Xr Z<|Vp<|Vy ?_; refine Yh (v := .tuple #[.pointer _, .string _]) Z ?_
     exact ⟨E1, by rw [hp']⟩
theorem Mx (s:List UInt8) (w:World) (f:Fm) (h:theF s=some f) :
  Dz 159 [str s] w (RetX w (fun ad=>.pointer (some ad)) fun ad w'=>Above w.heap.size EFm w' (.pointer (some ad)) f):=by
 obtain ⟨hs,hl⟩:=theF_some.1 h
 have hp:pre s=some (f,[]):=Ts (by simpa using hs)
 have ih2 : ∀ w,Dz 190 [str s] w (RetX w (fun ad=>.tuple #[.pointer (some ad),str []]) fun ad w'=>Above w.heap.size EFm w' (.pointer (some ad)) f):=fun w =>
  (readPart_ok _ s w (by unfold lim;omega) (Kz _)).mono fun v w' ⟨e,h⟩=>by
   rw [hp] at h
   obtain ⟨u,hv,hu⟩:=h
   obtain ⟨ad,rfl⟩:=hu.here.ptr
   exact ⟨e,ad,hv,hu⟩
 clear hp hs
 refine Yr Tryz.func159 Z Tryz.results159 Tryz.ntmps159 Z ?_
 focus
  refine Vr<|Qn Z<|Vp<|Vt<|Vr<|Yv Z<|Wo Z (Xo Jr Z)<|Qo Z<|Vp<|Vv Z fun h1=>?_;refine Vw<|Vt<|Ym<|Yv Z<|Vs Z (Xh (a:=.string _) Gk Z) (ih2 _) ?_;rintro _ w1 ⟨E1,y1,rfl,L1⟩;refine Ut Z<|Ma Z<|Sr Z<|Qn Z<|Xr Z<|Vp<|Vt<|Vr<|Yv Z<|Wo Z (Uo Z Z)<|Vp<|Sh Z fun h2=>?_;refine Vw<|Vr<|Uv Z<|Qn Z<|Vp<|Vy ?_;refine Yh (v:=.pointer _) Z ?_;refine ⟨E1,_,Z,?_⟩;(try dsimp only)
 exact L1
theorem La (s:List UInt8) (w:World) (hl:s.length≤lim) (h:theF s=none):Dz 159 [str s] w (Ret w (.pointer none)):=by
 unfold lim at hl
 by_cases h60:60 < s.length
 ·refine Yr Tryz.func159 Z Tryz.results159 Tryz.ntmps159 Z ?_
  focus
   refine Vr<|Qn Z<|Vp<|Vt<|Vr<|Yv Z<|Wo Z (Xo Jr Z)<|Qo Z<|Vp<|Vu Z (fun h1=>?_) (fun h1=>?_);refine Vr<|Qn Z<|Vp<|Vy ?_;exact ⟨rfl,(Jf _)⟩;exact Kt
 cases hp:pre s with
 | none =>
   have ih2 : ∀ w, Dz 190 [str s] w (Ret w (.tuple #[.pointer none, str s])) := fun w =>
     (readPart_ok _ s w (by unfold lim; omega) (Kz _)).mono fun v w' ⟨e, h⟩ => ⟨by rw [hp] at h; exact h, e⟩
   clear hp h
   refine Yr Tryz.func159 Z Tryz.results159 Tryz.ntmps159 Z ?_
   focus
     refine Vr<|Qn Z<|Vp<|Vt<|Vr<|Yv Z<|Wo Z (Xo Jr Z)<|Qo Z<|Vp<|Vv Z fun h1 => ?_; refine Vw<|Vt<|Ym<|Yv Z<|Vs Z (Xh (a := .string _) Gk Z) (ih2 _) ?_; rintro _ w1 ⟨rfl, E1⟩; refine Ut Z<|Ma Z<|Sr Z<|Qn Z<|Xr Z<|Vp<|Vt<|Vr<|Yv Z<|Wo Z (Uo Z Z)<|Vp<|Xn Z (fun h2 => ?_) (fun h2 => ?_); refine Vr<|Qn Z<|Vp<|Vy ?_; exact ⟨rfl, E1⟩; refine Vw<|Vr<|Uv Z<|Qn Z<|Vp<|Vy ?_; exact ⟨rfl, E1⟩
 | some q =>
   obtain ⟨f, r1⟩ := q
   have ih2 : ∀ w, Dz 190 [str s] w (RetX w (fun ad => .tuple #[.pointer (some ad), str r1]) fun ad w' => Above w.heap.size EFm w' (.pointer (some ad)) f) := fun w =>
     (readPart_ok _ s w (by unfold lim; omega) (Kz _)).mono fun v w' ⟨e, h⟩ => by
       rw [hp] at h
       obtain ⟨u, hv, hu⟩ := h
       obtain ⟨ad, rfl⟩ := hu.here.ptr
       exact ⟨e, ad, hv, hu⟩
   have hr : r1 ≠ [] := by
     rintro rfl
     have := Ro hp
     rw [theF_some.2 ⟨by simpa using this, Kh⟩] at h
     cases h
   clear hp h
   refine Yr Tryz.func159 Z Tryz.results159 Tryz.ntmps159 Z ?_
   focus
     refine Vr<|Qn Z<|Vp<|Vt<|Vr<|Yv Z<|Wo Z (Xo Jr Z)<|Qo Z<|Vp<|Vv Z fun h1 => ?_; refine Vw<|Vt<|Ym<|Yv Z<|Vs Z (Xh (a := .string _) Gk Z) (ih2 _) ?_; rintro _ w1 ⟨E1, y1, rfl, L1⟩; refine Ut Z<|Ma Z<|Sr Z<|Qn Z<|Xr Z<|Vp<|Vt<|Vr<|Yv Z<|Wo Z (Uo Z Z)<|Vp<|Xn Z (fun h2 => ?_) (fun h2 => ?_); refine Vr<|Qn Z<|Vp<|Vy ?_; exact ⟨rfl, E1⟩; exact Ks
noncomputable def okF (s:List UInt8):Bool:=(theF s).isSome
theorem l10End_ok' (s:List UInt8) (w:World) (hl:s.length≤lim):Dz 163 [str s,.int .i64 0] w (Ret w (.int .i64 (endV s s.length))) :=
 l10End_ok _ s 0 w hl (Kz _)
theorem Ty (s:List UInt8) (w:World) (hl:s.length≤lim):Dz 123 [str s] w (Ret w (.bool (okF s))):=by
 have hl':=hl
 unfold lim at hl'
 have key:(s.length≤60→0 < s.length→(endV s s.length=(s.length:Int)↔okF s=true))∧(60 < s.length→okF s=false)∧(s.length=0→okF s=false):=by
  refine ⟨fun h60 h0=>?_,fun h=>by rw [okF,theF_long h];rfl,fun h=>?_⟩
  ·cases hp:pre s with
   | none =>
     have : theF s = none := by unfold theF; rw [if_pos h60, hp]
     rw [endV, hp, okF, this]
     simp
   | some q =>
     obtain ⟨f, r⟩ := q
     have hs := Ro hp
     have hlen := congrArg List.length hs
     simp only [List.length_append] at hlen
     have hf := f.enc_pos
     cases r with
     | nil =>
       have : theF s = some f := theF_some.2 ⟨by simpa using hs, h60⟩
       rw [endV, hp, okF, this]
       simp
     | cons c r =>
       have : theF s = none := by unfold theF; rw [if_pos h60, hp]
       rw [endV, hp, okF, this]
       simp only [List.length_cons] at hlen ⊢
       simp
       omega
  ·have:s=[]:=List.eq_nil_of_length_eq_zero h
   subst this
   have:theF []=none:=by unfold theF;rw [pre_nil];rfl
   rw [okF,this];rfl
 obtain ⟨k1,k2,k3⟩:=key
 refine Yr Tryz.func123 Z Tryz.results123 Tryz.ntmps123 Z ?_
 focus
  refine Vr<|Ya Z<|Vp<|Vr<|Yv Z<|Wo Z (Xo Jr Z)<|Wsleq Z<|Xi Z (fun h1=>?_) (fun h1=>?_);refine Yv Z<|Wo Z (Xo Jr Z)<|Qo Z<|Xy Z<|Xi Z (fun h2=>?_) (fun h2=>?_);refine Yv Z<|Vs Z (Xa (a:=.string _) (b:=.int _ _) Gp Z Z) (l10End_ok' _ _ Kk) ?_;rintro _ w1 ⟨rfl,E1⟩;refine Yv Z<|Wo Z (Xo Jr Z)<|Yo Z<|Xy Z<|Ya Z<|Vp<|Vy ?_;refine Yh (v:=.bool _) Z ?_;refine ⟨congrArg Value.bool ?_,E1⟩;rotate_left;refine Vq Z<|Vq Z<|Vq Z<|Vq Z<|Vq Z<|Xb Z<|Ya Z<|Vp<|Vy ?_;refine Yh (v:=.bool _) Z ?_;refine ⟨congrArg Value.bool ?_,(Jf _)⟩;rotate_left
  refine Vq Z<|Vq Z<|Vq Z<|Xb Z<|Xp Z<|Vq Z<|Vq Z<|Vq Z<|Vq Z<|Vq Z<|Xb Z<|Ya Z<|Vp<|Vy ?_;refine Yh (v:=.bool _) Z ?_;refine ⟨congrArg Value.bool ?_,(Jf _)⟩;rotate_left
 ·rw [Bool.eq_iff_iff,decide_eq_true_iff];exact k1 Kh Kh
 ·exact (k3 Kh).symm
 ·exact (k2 Kh).symm
def cF:Nat→Nat
 | 0=>1
 | d+1=>4+2*cF d
def lF:Nat→Nat
 | 0=>8
 | d+1=>12+2*lF d
theorem lF_le : ∀ d,d≤5→lF d≤1000:=by
 have : ∀ d,d < 6→lF d≤1000:=Kj
 intro d h;exact this d Kh
theorem formula_ok : ∀ (d:Nat),d≤5→∀ {w0:World} (w:World) {br m:Nat} (z:Int),z=d→Rdr w0 w br m→m+cF d≤500000000 →
  Dz 152 [.pointer (some ⟨br,0,none⟩),.int .i64 z] w (RetD w0 w br (m+cF d) str (fun s _=>1≤s.length∧s.length≤lF d)):=by
 intro d
 induction d with
 | zero =>
   intro _ w0 w br m z hz hr hm
   unfold cF at hm
   subst hz
   refine Yr Tryz.func152 Z Tryz.results152 Tryz.ntmps152 Z ?_
   have hG : w.grownBy w (some br) := Ru _ _
   have hlr := hr.lt
   focus
     refine Vr<|Xr Z<|Vp<|Vt<|Vr<|Vz Z<|Yo Z<|Xi Z (fun h1 => ?_) (fun h1 => ?_); refine Vq Z<|Vq Z<|Vq Z<|Xy Z<|Vp<|Xe Z ?_; refine Vr<|Xc (ps := [(0, .string _), (1, .string _), (2, .string _), (3, .string _)]) (cs := [_, _, _, _]) Z Jv Jo Ge Z Z Z Z ?_; rintro b1 w1 H1 E1 B1; have hr := hr.J E1; have hG := Yf hG E1; refine Uv Z<|Vs Z (Xa (a := .pointer _) (b := .int _ _) Jy Z Z) (Xs _ _ Kk Kh) ?_; rintro _ w2 ⟨y1, rfl, E2, Q1, L1⟩; (try dsimp only at L1); have B1 := B1.G E2 Kb; have hG := Ye hG E2; refine Wo Z (Yk Jv Jo Z Z Kh) ?_
     refine Ub 1 Jp Z Z B1 Ka Kc ?_; intro s1 P1; refine Xr Z<|Vp<|Vy ?_; refine Yh (v := .string _) Z ?_; rotate_left; exact Ks
   exact ⟨s1, rfl, hG, Q1, by unfold lF; omega⟩
 | succ d ih =>
   intro hd w0 w br m z hz hr hm
   have ih := @ih Kh
   have hl := lF_le d Kh
   unfold cF at hm
   refine Yr Tryz.func152 Z Tryz.results152 Tryz.ntmps152 Z ?_
   have hG : w.grownBy w (some br) := Ru _ _
   focus
     refine Vr<|Xr Z<|Vp<|Vt<|Vr<|Vz Z<|Yo Z<|Qw Z fun h1 => ?_; refine Uv Z<|Vs Z (Xa (a := .pointer _) (b := .int _ _) Jy Z Z) (Xs _ _ Kk Kh) ?_; rintro _ w1 ⟨y1, rfl, E1, Q1, L1⟩; (try dsimp only at L1); have := Q1.lt; have hG := Ye hG E1; refine Yo Z<|Xb Z<|Vp<|Vu Z (fun h2 => ?_) (fun h2 => ?_); refine Vt<|Ym<|Xc (ps := [(0, .string _), (1, .string _), (2, .string _), (3, .string _)]) (cs := [_, _, _, _]) Z Jv Jo Ge Z Z Z Z ?_; rintro b1 w2 H1 E2 B1; have Q1 := Q1.J E2; have hG := Yf hG E2; refine Uv Z<|Vs Z (Xa (a := .pointer _) (b := .int _ _) Jy Z Z) (Xs _ _ Kk Kh) ?_; rintro _ w3 ⟨y2, rfl, E3, Q2, L2⟩
     (try dsimp only at L2); have B1 := B1.G E3 Kb; have hG := Ye hG E3; refine Wo Z (Yk Jv Jo Z Z Kh) ?_; refine Ub 1 Jp Z Z B1 Ka Kc ?_; intro s1 P1; refine Xr Z<|Vp<|Vy ?_; refine Yh (v := .string _) Z ?_; rotate_left; refine Vw<|Vt<|Vr<|Uv Z<|Vs Z (Xa (a := .pointer _) (b := .int _ _) Jy Z Z) (Xs _ _ Kk Kh) ?_; rintro _ w2 ⟨y2, rfl, E2, Q2, L2⟩; (try dsimp only at L2); have := Q2.lt; have hG := Ye hG E2; refine Qo Z<|Vp<|Vu Z (fun h3 => ?_) (fun h3 => ?_)
     refine Vt<|Rm (fun _ => True) mixed Z Ki ?_; intro w3 E3 K1 Z1; have Q2 := Q2.J E3; have hG := Yf hG E3; refine WtmP 1 Z Z trivial<|WtmP 5 Z Z trivial<|Mb 6 Z Z trivial<|Yc 7 Z Ki Ki Z (fun _ _ => Ll Z Z Kh) trivial ?_; refine Wha [0, 2]<|Yg Z ?_ ?_; refine Xc (ps := [(0, .string _), (1, .string _), (2, .string _), (3, .string _)]) (cs := [_, _, _, _]) Z Jv Jo Ge Z Z Z Z ?_; rintro b1 w4 H1 E4 B1; have Q2 := Q2.J E4; have hG := Yf hG E4; refine Wnt<|Wha [2]<|Wh1 Z<|Vs Z (Xa (a := .pointer _) (b := .int _ _) Jy Z Z) (Xs _ _ Kk Kh) ?_; rintro _ w5 ⟨y3, rfl, E5, Q3, L3⟩; (try dsimp only at L3)
     have B1 := B1.G E5 Kb; have hG := Ye hG E5; refine Wnt<|Yc 3 Z Ki Ki Z (fun _ _ => Yk Jv Jo Z Z Kh) trivial ?_; refine Wha [4, 8]<|Yg Z ?_ ?_; refine Ub 1 Jp Z Z B1 Ka Kc ?_; intro s1 P1; refine Wnt<|Wha [8]<|Wh1 Z<|Vs Z (Xa (a := .pointer _) (b := .int _ _) Zh Z Z) (ih _ _ Kh Kk Kh) ?_; rintro _ w6 ⟨y4, rfl, E6, Q4, L4⟩; (try dsimp only at L4); have hG := Ye hG E6; refine Wnt<|Yc 9 Z Ki Ki Z (fun _ _ => Yz Z Z Kh) trivial ?_
     refine Us 10 Z Z trivial<|Yp Ki ?_; refine Vy ?_; refine Yh (v := .string _) Z ?_; rotate_left; refine Wh1 Z<|Vs Z (Xa (a := .pointer _) (b := .int _ _) Zh Z Z) (ih _ _ Kh Kk Kh) ?_; rintro _ w6 ⟨y4, rfl, E6, Q4, L4⟩; (try dsimp only at L4); have B1 := B1.G E6 Kb; have hG := Ye hG E6; refine Wnt<|Wha [4]<|Wh1 Z<|Ub 1 Jp Z Z B1 Ka Kc ?_; intro s1 P1; refine Wnt<|Yc 9 Z Ki Ki Z (fun _ _ => Yz Z Z Kh) trivial ?_; refine Us 10 Z Z trivial<|Yp Ki ?_; refine Vy ?_; refine Yh (v := .string _) Z ?_
     rotate_left; refine Wh1 Z<|Vs Z (Xa (a := .pointer _) (b := .int _ _) Jy Z Z) (Xs _ _ Kk Kh) ?_; rintro _ w4 ⟨y3, rfl, E4, Q3, L3⟩; (try dsimp only at L3); have := Q3.lt; have hG := Ye hG E4; refine Wnt<|Wha [0, 8]<|Yg Z ?_ ?_; refine Xc (ps := [(0, .string _), (1, .string _), (2, .string _), (3, .string _)]) (cs := [_, _, _, _]) Z Jv Jo Ge Z Z Z Z ?_; rintro b1 w5 H1 E5 B1; have Q3 := Q3.J E5; have hG := Yf hG E5; refine Wnt<|Yc 3 Z Ki Ki Z (fun _ _ => Yk Jv Jo Z Z Kh) trivial ?_; refine Wha [4, 8]<|Yg Z ?_ ?_
     refine Ub 1 Jp Z Z B1 Ka Kc ?_; intro s1 P1; refine Wnt<|Wha [8]<|Wh1 Z<|Vs Z (Xa (a := .pointer _) (b := .int _ _) Zh Z Z) (ih _ _ Kh Kk Kh) ?_; rintro _ w6 ⟨y4, rfl, E6, Q4, L4⟩; (try dsimp only at L4); have hG := Ye hG E6; refine Wnt<|Yc 9 Z Ki Ki Z (fun _ _ => Yz Z Z Kh) trivial ?_; refine Us 10 Z Z trivial<|Yp Ki ?_; refine Vy ?_; refine Yh (v := .string _) Z ?_; rotate_left; refine Wh1 Z<|Vs Z (Xa (a := .pointer _) (b := .int _ _) Zh Z Z) (ih _ _ Kh Kk Kh) ?_; rintro _ w6 ⟨y4, rfl, E6, Q4, L4⟩
     (try dsimp only at L4); have B1 := B1.G E6 Kb; have hG := Ye hG E6; refine Wnt<|Wha [4]<|Wh1 Z<|Ub 1 Jp Z Z B1 Ka Kc ?_; intro s1 P1; refine Wnt<|Yc 9 Z Ki Ki Z (fun _ _ => Yz Z Z Kh) trivial ?_; refine Us 10 Z Z trivial<|Yp Ki ?_; refine Vy ?_; refine Yh (v := .string _) Z ?_; rotate_left; refine Wh1 Z<|Vs Z (Xa (a := .pointer _) (b := .int _ _) Zh Z Z) (ih _ _ Kh Kk Kh) ?_; rintro _ w5 ⟨y4, rfl, E5, Q4, L4⟩; (try dsimp only at L4); have hG := Ye hG E5
     refine Wnt<|Wha [0]<|Wh1 Z<|Xc (ps := [(0, .string _), (1, .string _), (2, .string _), (3, .string _)]) (cs := [_, _, _, _]) Z Jv Jo Ge Z Z Z Z ?_; rintro b1 w6 H1 E6 B1; have Q4 := Q4.J E6; have hG := Yf hG E6; refine Wnt<|Yc 3 Z Ki Ki Z (fun _ _ => Yk Jv Jo Z Z Kh) trivial ?_; refine Wha [4]<|Wh1 Z<|Ub 1 Jp Z Z B1 Ka Kc ?_; intro s1 P1; refine Wnt<|Yc 9 Z Ki Ki Z (fun _ _ => Yz Z Z Kh) trivial ?_; refine Us 10 Z Z trivial<|Yp Ki ?_; refine Vy ?_; refine Yh (v := .string _) Z ?_
     rotate_left; refine Vw<|Vt<|Rm (fun _ => True) mixed Z Ki ?_; intro w3 E3 K1 Z1; have Q2 := Q2.J E3; have hG := Yf hG E3; refine WtmP 0 Z Z trivial<|Mb 1 Z Z trivial<|Yc 2 Z Ki Ki Z (fun _ _ => Ll Z Z Kh) trivial ?_; refine WtmP 6 Z Z trivial<|WtmP 11 Z Z trivial<|Mb 12 Z Z trivial<|Yc 13 Z Ki Ki Z (fun _ _ => Ll Z Z Kh) trivial ?_; refine Wha [3, 5]<|Yg Z ?_ ?_; refine Vs Z (Xa (a := .pointer _) (b := .int _ _) Zh Z Z) (ih _ _ Kh Kk Kh) ?_; rintro _ w4 ⟨y3, rfl, E4, Q3, L3⟩; (try dsimp only at L3); have := Q3.lt; have hG := Ye hG E4
     refine Wnt<|Yc 4 Z Ki Ki Z (fun _ _ => Yz Z Z Kf) trivial ?_; refine Wha [5, 7]<|Yg Z ?_ ?_; refine Xc (ps := [(0, .string _), (1, .string _)]) (cs := [_, _]) Z Jv Jo Ge Z Z Z Z ?_; rintro b1 w5 H1 E5 B1; have Q3 := Q3.J E5; have hG := Yf hG E5; refine Wnt<|Wha [7]<|Wh1 Z<|Vs Z (Xa (a := .pointer _) (b := .int _ _) Jy Z Z) (Xs _ _ Kk Kh) ?_; rintro _ w6 ⟨y4, rfl, E6, Q4, L4⟩; (try dsimp only at L4); have B1 := B1.G E6 Kb; have hG := Ye hG E6; refine Wnt<|Yc 8 Z Ki Ki Z (fun _ _ => Yk Jv Jo Z Z Kh) trivial ?_
     refine Wha [9, 14]<|Yg Z ?_ ?_; refine Ub 1 Jp Z Z B1 Ka Kc ?_; intro s1 P1; refine Wnt<|Yc 10 Z Ki Ki Z (fun _ _ => Yz Z Z Kf) trivial ?_; refine Wha [14]<|Wh1 Z<|Vs Z (Xa (a := .pointer _) (b := .int _ _) Zh Z Z) (ih _ _ Kh Kk Kh) ?_; rintro _ w7 ⟨y5, rfl, E7, Q5, L5⟩; (try dsimp only at L5); have hG := Ye hG E7; refine Wnt<|Yc 15 Z Ki Ki Z (fun _ _ => Yz Z Z Kf) trivial ?_; refine Yc 16 Z Ki Ki Z (fun _ _ => Yz Z Z Kf) trivial ?_
     refine Us 17 Z Z trivial<|Yp Ki ?_; refine Vy ?_; refine Yh (v := .string _) Z ?_; rotate_left; refine Wh1 Z<|Vs Z (Xa (a := .pointer _) (b := .int _ _) Zh Z Z) (ih _ _ Kh Kk Kh) ?_; rintro _ w7 ⟨y5, rfl, E7, Q5, L5⟩; (try dsimp only at L5); have B1 := B1.G E7 Kb; have hG := Ye hG E7; refine Wnt<|Wha [9]<|Wh1 Z<|Ub 1 Jp Z Z B1 Ka Kc ?_; intro s1 P1; refine Wnt<|Yc 10 Z Ki Ki Z (fun _ _ => Yz Z Z Kf) trivial ?_
     refine Yc 15 Z Ki Ki Z (fun _ _ => Yz Z Z Kf) trivial ?_; refine Yc 16 Z Ki Ki Z (fun _ _ => Yz Z Z Kf) trivial ?_; refine Us 17 Z Z trivial<|Yp Ki ?_; refine Vy ?_; refine Yh (v := .string _) Z ?_; rotate_left; refine Wh1 Z<|Vs Z (Xa (a := .pointer _) (b := .int _ _) Jy Z Z) (Xs _ _ Kk Kh) ?_; rintro _ w5 ⟨y4, rfl, E5, Q4, L4⟩; (try dsimp only at L4); have := Q4.lt; have hG := Ye hG E5; refine Wnt<|Wha [5, 14]<|Yg Z ?_ ?_; refine Xc (ps := [(0, .string _), (1, .string _)]) (cs := [_, _]) Z Jv Jo Ge Z Z Z Z ?_; rintro b1 w6 H1 E6 B1; have Q4 := Q4.J E6; have hG := Yf hG E6
     refine Wnt<|Yc 8 Z Ki Ki Z (fun _ _ => Yk Jv Jo Z Z Kh) trivial ?_; refine Wha [9, 14]<|Yg Z ?_ ?_; refine Ub 1 Jp Z Z B1 Ka Kc ?_; intro s1 P1; refine Wnt<|Yc 10 Z Ki Ki Z (fun _ _ => Yz Z Z Kf) trivial ?_; refine Wha [14]<|Wh1 Z<|Vs Z (Xa (a := .pointer _) (b := .int _ _) Zh Z Z) (ih _ _ Kh Kk Kh) ?_; rintro _ w7 ⟨y5, rfl, E7, Q5, L5⟩; (try dsimp only at L5); have hG := Ye hG E7; refine Wnt<|Yc 15 Z Ki Ki Z (fun _ _ => Yz Z Z Kf) trivial ?_
     refine Yc 16 Z Ki Ki Z (fun _ _ => Yz Z Z Kf) trivial ?_; refine Us 17 Z Z trivial<|Yp Ki ?_; refine Vy ?_; refine Yh (v := .string _) Z ?_; rotate_left; refine Wh1 Z<|Vs Z (Xa (a := .pointer _) (b := .int _ _) Zh Z Z) (ih _ _ Kh Kk Kh) ?_; rintro _ w7 ⟨y5, rfl, E7, Q5, L5⟩; (try dsimp only at L5); have B1 := B1.G E7 Kb; have hG := Ye hG E7; refine Wnt<|Wha [9]<|Wh1 Z<|Ub 1 Jp Z Z B1 Ka Kc ?_; intro s1 P1
     refine Wnt<|Yc 10 Z Ki Ki Z (fun _ _ => Yz Z Z Kf) trivial ?_; refine Yc 15 Z Ki Ki Z (fun _ _ => Yz Z Z Kf) trivial ?_; refine Yc 16 Z Ki Ki Z (fun _ _ => Yz Z Z Kf) trivial ?_; refine Us 17 Z Z trivial<|Yp Ki ?_; refine Vy ?_; refine Yh (v := .string _) Z ?_; rotate_left; refine Wh1 Z<|Vs Z (Xa (a := .pointer _) (b := .int _ _) Zh Z Z) (ih _ _ Kh Kk Kh) ?_; rintro _ w6 ⟨y5, rfl, E6, Q5, L5⟩; (try dsimp only at L5); have hG := Ye hG E6
     refine Wnt<|Wha [5]<|Wh1 Z<|Xc (ps := [(0, .string _), (1, .string _)]) (cs := [_, _]) Z Jv Jo Ge Z Z Z Z ?_; rintro b1 w7 H1 E7 B1; have Q5 := Q5.J E7; have hG := Yf hG E7; refine Wnt<|Yc 8 Z Ki Ki Z (fun _ _ => Yk Jv Jo Z Z Kh) trivial ?_; refine Wha [9]<|Wh1 Z<|Ub 1 Jp Z Z B1 Ka Kc ?_; intro s1 P1; refine Wnt<|Yc 10 Z Ki Ki Z (fun _ _ => Yz Z Z Kf) trivial ?_; refine Yc 15 Z Ki Ki Z (fun _ _ => Yz Z Z Kf) trivial ?_
     refine Yc 16 Z Ki Ki Z (fun _ _ => Yz Z Z Kf) trivial ?_; refine Us 17 Z Z trivial<|Yp Ki ?_; refine Vy ?_; refine Yh (v := .string _) Z ?_; rotate_left; refine Wh1 Z<|Xc (ps := [(0, .string _), (1, .string _)]) (cs := [_, _]) Z Jv Jo Ge Z Z Z Z ?_; rintro b1 w4 H1 E4 B1; have Q2 := Q2.J E4; have hG := Yf hG E4; refine Wnt<|Wha [3]<|Wh1 Z<|Vs Z (Xa (a := .pointer _) (b := .int _ _) Zh Z Z) (ih _ _ Kh Kk Kh) ?_; rintro _ w5 ⟨y3, rfl, E5, Q3, L3⟩; (try dsimp only at L3); have B1 := B1.G E5 Kb; have hG := Ye hG E5
     refine Wnt<|Yc 4 Z Ki Ki Z (fun _ _ => Yz Z Z Kf) trivial ?_; refine Wha [7]<|Wh1 Z<|Vs Z (Xa (a := .pointer _) (b := .int _ _) Jy Z Z) (Xs _ _ Kk Kh) ?_; rintro _ w6 ⟨y4, rfl, E6, Q4, L4⟩; (try dsimp only at L4); have B1 := B1.G E6 Kb; have hG := Ye hG E6; refine Wnt<|Yc 8 Z Ki Ki Z (fun _ _ => Yk Jv Jo Z Z Kh) trivial ?_; refine Wha [9, 14]<|Yg Z ?_ ?_; refine Ub 1 Jp Z Z B1 Ka Kc ?_; intro s1 P1
     refine Wnt<|Yc 10 Z Ki Ki Z (fun _ _ => Yz Z Z Kf) trivial ?_; refine Wha [14]<|Wh1 Z<|Vs Z (Xa (a := .pointer _) (b := .int _ _) Zh Z Z) (ih _ _ Kh Kk Kh) ?_; rintro _ w7 ⟨y5, rfl, E7, Q5, L5⟩; (try dsimp only at L5); have hG := Ye hG E7; refine Wnt<|Yc 15 Z Ki Ki Z (fun _ _ => Yz Z Z Kf) trivial ?_; refine Yc 16 Z Ki Ki Z (fun _ _ => Yz Z Z Kf) trivial ?_; refine Us 17 Z Z trivial<|Yp Ki ?_; refine Vy ?_; refine Yh (v := .string _) Z ?_; rotate_left
     refine Wh1 Z<|Vs Z (Xa (a := .pointer _) (b := .int _ _) Zh Z Z) (ih _ _ Kh Kk Kh) ?_; rintro _ w7 ⟨y5, rfl, E7, Q5, L5⟩; (try dsimp only at L5); have B1 := B1.G E7 Kb; have hG := Ye hG E7; refine Wnt<|Wha [9]<|Wh1 Z<|Ub 1 Jp Z Z B1 Ka Kc ?_; intro s1 P1; refine Wnt<|Yc 10 Z Ki Ki Z (fun _ _ => Yz Z Z Kf) trivial ?_; refine Yc 15 Z Ki Ki Z (fun _ _ => Yz Z Z Kf) trivial ?_
     refine Yc 16 Z Ki Ki Z (fun _ _ => Yz Z Z Kf) trivial ?_; refine Us 17 Z Z trivial<|Yp Ki ?_; refine Vy ?_; refine Yh (v := .string _) Z ?_; rotate_left
   all_goals
     have e1 : cF (d + 1) = 4 + 2 * cF d := rfl
     have e2 : lF (d + 1) = 12 + 2 * lF d := rfl
     first
       | exact ⟨_, rfl, hG, Q2.le Kh, Kh⟩
       | exact ⟨_, rfl, hG, Q3.le Kh, by simp only [List.length_append, List.length_cons, List.length_nil]; omega⟩
       | exact ⟨_, rfl, hG, Q4.le Kh, by simp only [List.length_append, List.length_cons, List.length_nil]; omega⟩
       | exact ⟨_, rfl, hG, Q5.le Kh, by simp only [List.length_append, List.length_cons, List.length_nil]; omega⟩
theorem formed_ok {w0:World} (w:World) {br m:Nat} (n:Int) (hr:Rdr w0 w br m) (hm:m≤100000000) (hn:1≤n∧n≤1000) :
  Dz 107 [.pointer (some ⟨br,0,none⟩),.int .i64 n] w (RetD w0 w br (m+60) str (fun s _=>s.length≤200)):=by
 have f3 : ∀ {w0:World} (w:World) {br m:Nat},Rdr w0 w br m→m≤100000000 →
  Dz 152 [.pointer (some ⟨br,0,none⟩),.int .i64 3] w (RetD w0 w br (m+36) str (fun s _=>1≤s.length∧s.length≤148)):=fun {w0} w {br m} hr hm=>formula_ok 3 Kh (br:=br) (m:=m) w 3 rfl hr (by have:cF 3=36:=rfl;omega)
 refine Yr Tryz.func107 Z Tryz.results107 Tryz.ntmps107 Z ?_
 have hG:w.grownBy w (some br):=Ru _ _
 focus
  refine Vr<|Xr Z<|Vp<|Vr<|Uv Z<|Vs Z (Xa (a:=.pointer _) (b:=.int _ _) Zh Z Z) (f3 _ Kk Kk) ?_;rintro _ w1 ⟨y1,rfl,E1,Q1,L1⟩;(try dsimp only at L1);have hG:=Ye hG E1;refine Xr Z<|Vp<|Vt<|Vr<|Uv Z<|Vz Z<|Vs Z (Xa (a:=.pointer _) (b:=.int _ _) Tryz.call76 Z Z) (odd_ok _ _ Kk Kh Kh) ?_;rintro _ w2 ⟨y2,rfl,E2,Q2,L2⟩;(try dsimp only at L2);have hG:=Ye hG E2;refine Vp<|Up Z (fun h1=>?_) (fun h1=>?_);refine Vr<|Uv Z<|Yv Z<|Wo Z (Xo Jr Z)<|Vs Z (Xa (a:=.pointer _) (b:=.int _ _) Jy Z Z) (Xs _ _ Kk Kh) ?_;rintro _ w3 ⟨y3,rfl,E3,Q3,L3⟩;(try dsimp only at L3);have:=Q3.lt
  have hG:=Ye hG E3;refine Yx Z<|Vp<|Vt<|Rm (fun _=>True) mixed Z Ki ?_;intro w4 E4 K1 Z1;have Q3:=Q3.J E4;have hG:=Yf hG E4;refine WtmT 0 Z Z trivial<|Mb 1 Z Z trivial<|Yc 2 Z Ki Ki Z (fun _ _=>Le Jr Z Z Kh) trivial ?_;refine WtmP 4 Z Z trivial<|WtmT 9 Z Z trivial<|Mb 10 Z Z trivial<|Yc 11 Z Ki Ki Z (fun _ _=>Qj Z Z Kh) trivial ?_;refine Yc 12 Z Ki Ki Z (fun _ _=>Ue Jr Z Z Kf) trivial ?_;refine Wha [3,5]<|Yg Z ?_ ?_
  refine Xc (ps:=[(0,.string _),(1,.string _),(2,.string _),(3,.string _),(4,.string _)]) (cs:=[_,_,_,_,_]) Z Jv Jo Ge Z Z Z Z ?_;rintro b1 w5 H1 E5 B1;have Q3:=Q3.J E5;have hG:=Yf hG E5;refine Wnt<|Wha [5]<|Wh1 Z<|Vs Z (Xa (a:=.pointer _) (b:=.int _ _) Jy Z Z) (Xs _ _ Kk Kh) ?_;rintro _ w6 ⟨y4,rfl,E6,Q4,L4⟩;(try dsimp only at L4);have B1:=B1.G E6 Kb;have hG:=Ye hG E6;refine Wnt<|Yc 6 Z Ki Ki Z (fun _ _=>Yk Jv Jo Z Z Kh) trivial ?_
  refine Wha [7]<|Wh1 Z<|Ub 0 Jp Z Z B1 Ka Kc ?_;intro s1 P1;refine Wnt<|Yc 8 Z Ki Ki Z (fun _ _=>Yz Z Z Kf) trivial ?_;refine Yc 13 Z Ki Ki Z (fun _ _=>Yz Z Z Kf) trivial ?_;refine Us 14 Z Z trivial<|Yp Ki ?_;refine Vy ?_;refine Yh (v:=.string _) Z ?_;rotate_left;refine Wh1 Z<|Vs Z (Xa (a:=.pointer _) (b:=.int _ _) Jy Z Z) (Xs _ _ Kk Kh) ?_;rintro _ w5 ⟨y4,rfl,E5,Q4,L4⟩;(try dsimp only at L4);have hG:=Ye hG E5
  refine Wnt<|Wha [3]<|Wh1 Z<|Xc (ps:=[(0,.string _),(1,.string _),(2,.string _),(3,.string _),(4,.string _)]) (cs:=[_,_,_,_,_]) Z Jv Jo Ge Z Z Z Z ?_;rintro b1 w6 H1 E6 B1;have Q4:=Q4.J E6;have hG:=Yf hG E6;refine Wnt<|Yc 6 Z Ki Ki Z (fun _ _=>Yk Jv Jo Z Z Kh) trivial ?_;refine Wha [7]<|Wh1 Z<|Ub 0 Jp Z Z B1 Ka Kc ?_;intro s1 P1;refine Wnt<|Yc 8 Z Ki Ki Z (fun _ _=>Yz Z Z Kf) trivial ?_
  refine Yc 13 Z Ki Ki Z (fun _ _=>Yz Z Z Kf) trivial ?_;refine Us 14 Z Z trivial<|Yp Ki ?_;refine Vy ?_;refine Yh (v:=.string _) Z ?_;rotate_left;refine Vw<|Vr<|Yv Z<|Xr Z<|Vp<|Vy ?_;refine Yh (v:=.string _) Z ?_;rotate_left
 all_goals first
  | exact ⟨_,rfl,hG,Q2.le Kh,Kh⟩
  | exact ⟨_,rfl,hG,Q4.le Kh,by simp only [List.length_append,List.length_take,List.length_drop];omega⟩
  | exact ⟨_,rfl,hG,Q3.le Kh,by simp only [List.length_append,List.length_take,List.length_drop];omega⟩
end Go.Proofs.YtbgpppaljpngmaaGreatDoor
namespace Go.Hs
def Fm.holds (p:List (List Int)):Fm→Nat→Bool
 | .t,_=>true
 | .neg f,i=>!(f.holds p i)
 | .S f,i=>(arr p i).any (f.holds p)
 | .A f,i=>!((arr p i).any fun j=>!(f.holds p j))
 | .and f g,i=>f.holds p i && g.holds p i
 | .or f g,i=>f.holds p i || g.holds p i
end Go.Hs
namespace Go.Proofs.YtbgpppaljpngmaaGreatDoor
open Go.Hs
set_option maxRecDepth 10000
set_option maxHeartbeats 4000000
set_option linter.unusedVariables false
set_option linter.unusedSimpArgs false
theorem holds_ok (p:List (List Int)) (hp:Pic p) : ∀ (f:Fm) (w:World) (v pv:Value) (z:Int),EFm w v f→ESl Ints w pv p→0≤z∧z < p.length→f.enc.length≤1000 →
  Dz 160 [v,pv,.int .i64 z] w (Ret w (.bool (f.holds p z.toNat))):=by
 have I5:=hp.2.1
 have harr : ∀ (w:World) (pv:Value) (z:Int),ESl Ints w pv p→0≤z∧z < p.length→Dz 130 [pv,.int .i64 z] w (RetO w XI (ints (arr p z.toNat))):=fun w pv z h hz =>
  Rf w pv p h z hz (by rw [Xl Kh,hp.row Kh];omega)
 have hmem : ∀ (z x:Int),0≤z∧z < p.length→x ∈ ints (arr p z.toNat)→0≤x∧x < p.length:=by
  intro z x hz hx
  simp only [ints,List.mem_map] at hx
  obtain ⟨j,hj,rfl⟩:=hx
  have:=((Rc hp (show z.toNat < p.length by omega)).1 hj).1
  omega
 intro f
 induction f with
 | t =>
   intro w v pv z hf hpv hz hl
   obtain ⟨pa, pc, rfl, _⟩ := id hpv
   obtain ⟨b, rfl, hB⟩ := hf
   refine Yr Tryz.func160 Z Tryz.results160 Tryz.ntmps160 Z ?_
   focus
     refine Vr<|Xu Z Z Z ?_; rintro b1 w1 H1 E1 B1; refine Xu Z Z Z ?_; rintro b2 w2 H2 E2 B2; refine Ya Z<|Vp<|Vt<|Vr<|Wo (v := .pointer _) Z (Xd Gt Z ((B1.J E2).cell Z))<|Wo Z (Ud Z)<|Yl Gh Gz Z<|Xx Zw (hB.J exq) Z<|Vp<|Yb<|Vr<|Yo Z<|Ya Z<|Vp<|Yt Z fun h1 => ?_; refine Vr<|Yo Z<|Ya Z<|Vp<|Yt Z fun h2 => ?_; refine Vr<|Yo Z<|Ya Z<|Vp<|Yt Z fun h3 => ?_; refine Vr<|Yo Z<|Ya Z<|Vp<|Yt Z fun h4 => ?_; refine Vr<|Yo Z<|Ya Z<|Vp<|Yt Z fun h5 => ?_; refine Vw<|Vr<|Ya Z<|Vp<|Vy ?_; exact ⟨rfl, exq⟩
 | neg f ih =>
   intro w v pv z hf hpv hz hl
   have hl' : f.enc.length ≤ 1000 := by simp only [Fm.enc, List.length_cons] at hl; omega
   obtain ⟨pa, pc, rfl, _⟩ := id hpv
   obtain ⟨b, bp, u, rfl, hB, hBp, hu⟩ := hf
   have hP := hBp.vals (c := 1) Kp
   refine Yr Tryz.func160 Z Tryz.results160 Tryz.ntmps160 Z ?_
   focus
     refine Vr<|Xu Z Z Z ?_; rintro b1 w1 H1 E1 B1; refine Xu Z Z Z ?_; rintro b2 w2 H2 E2 B2; refine Ya Z<|Vp<|Vt<|Vr<|Wo (v := .pointer _) Z (Xd Gt Z ((B1.J E2).cell Z))<|Wo Z (Ud Z)<|Yl Gh Gz Z<|Xx Zw (hB.J exq) Z<|Vp<|Yb<|Vr<|Yo Z<|Ya Z<|Vp<|Vu Z (fun h1 => ?_) (fun h1 => ?_); refine Vt<|Qe mixed Ki Z ?_; refine Uq (v := .pointer _) Z (fun w' hw' => Xd Gt Z (((B1.J E2).J hw').cell Z)) ?_; refine Uq Z (fun _ _ => Ud Z) ?_; refine Qu Gh Zb Z<|Uq (v := .slice _ _ _) Z (fun w' hw' => Xd Vf Z (((hB.J exq).J hw').cell Z)) ?_
     refine Qf (k := 0) Zm Zn Gt Z (fun _ => Z) Z hP exq Z Km ?_; rintro _ _ rfl; refine Uq (v := .slice _ _ _) Z (fun w' hw' => Xd Ju Z ((B2.J hw').cell Z)) ?_; refine Sv Z<|Rb Z (fun _ _ => Qq (b := .slice _ _ _) (c := .int _ _) Zx Z Z Z) (fun w' hw' => (ih _ _ _ _ (Ku exq hu) (Ku exq hpv) Kk Kk)) ?_; refine Mi Z<|Nx Z<|Ux (fun w3 E3 => ?_); refine Vy ?_; exact ⟨rfl, exq⟩; exact Ks
 | S f ih =>
   intro w v pv z hf hpv hz hl
   have hl' : f.enc.length ≤ 1000 := by simp only [Fm.enc, List.length_cons] at hl; omega
   obtain ⟨pa, pc, rfl, _⟩ := id hpv
   obtain ⟨b, bp, u, rfl, hB, hBp, hu⟩ := hf
   have hP := hBp.vals (c := 1) Kp
   have hcl : ∀ (w1 : World) (b3 b4 : Nat) (x : Int), Ext w w1 → Blk w1 b3 [.pointer (some ⟨b, 0, none⟩)] → Blk w1 b4 [.slice pa p.length pc] → 0 ≤ x ∧ x < p.length → Dz 191 [.int .i64 x, .pointer (some ⟨b3, 0, none⟩), .pointer (some ⟨b4, 0, none⟩)] w1 (Ret w1 (.bool (f.holds p x.toNat))) := by
     intro w1 b3 b4 x E0 B3 B4 hx
     refine Yr Tryz.func191 Z Tryz.results191 Tryz.ntmps191 Z ?_
     focus
       refine Vr<|Ya Z<|Vp<|Vt<|Qe mixed Ki Z ?_; refine Uq (v := .pointer _) Z (fun w' hw' => Xd Gt Z ((B3.J hw').cell Z)) ?_; refine Uq Z (fun _ _ => Ud Z) ?_; refine Qu Gh Zb Z<|Uq (v := .slice _ _ _) Z (fun w' hw' => Xd Vf Z (((hB.J E0).J hw').cell Z)) ?_; refine Qf (k := 0) Zm Zn Gt Z (fun _ => Z) Z hP E0 Z Km ?_; rintro _ _ rfl; refine Uq (v := .slice _ _ _) Z (fun w' hw' => Xd Ju Z ((B4.J hw').cell Z)) ?_; refine Sv Z<|Rb Z (fun _ _ => Qq (b := .slice _ _ _) (c := .int _ _) Zx Z Z Z) (fun w' hw' => (ih _ _ _ _ (Ku exq hu) (Ku exq hpv) Kk Kk)) ?_
       refine Nx Z<|Ux (fun w2 E1 => ?_); refine Vy ?_; exact ⟨rfl, E1⟩
   have hcon : ∀ (w1 : World) (u : Value) (b3 b4 : Nat), Ext w w1 → Blk w1 b3 [.pointer (some ⟨b, 0, none⟩)] → Blk w1 b4 [.slice pa p.length pc] → Ints w1 u (ints (arr p z.toNat)) → Dz 146 [u, .func (.func 191) [].toArray [.pointer (some ⟨b3, 0, none⟩), .pointer (some ⟨b4, 0, none⟩)].toArray] w1 (Ret w1 (.bool ((Fm.S f).holds p z.toNat))) := by
     intro w1 u b3 b4 E0 B3 B4 hu
     have := Sg w1 u _ hu 191 [.pointer (some ⟨b3, 0, none⟩), .pointer (some ⟨b4, 0, none⟩)] (fun x => f.holds p x.toNat) Tryz.call191 (fun x w' hx e => hcl w' b3 b4 x (E0.K e) (B3.J e) (B4.J e) (hmem z x hz hx))
     rw [any_ints] at this
     exact this
   refine Yr Tryz.func160 Z Tryz.results160 Tryz.ntmps160 Z ?_
   focus
     refine Vr<|Xu Z Z Z ?_; rintro b1 w1 H1 E1 B1; refine Xu Z Z Z ?_; rintro b2 w2 H2 E2 B2; refine Ya Z<|Vp<|Vt<|Vr<|Wo (v := .pointer _) Z (Xd Gt Z ((B1.J E2).cell Z))<|Wo Z (Ud Z)<|Yl Gh Gz Z<|Xx Zw (hB.J exq) Z<|Vp<|Yb<|Vr<|Yo Z<|Ya Z<|Vp<|Yt Z fun h1 => ?_; refine Vr<|Yo Z<|Ya Z<|Vp<|Vu Z (fun h2 => ?_) (fun h2 => ?_); refine Vr<|Rg Ju B2 Z<|Vz Z<|Vs Z (Xa (a := .slice _ _ _) (b := .int _ _) Gy Z Z) (harr _ _ _ (Ku exq hpv) Kk) ?_; rintro u1 w3 ⟨E3, O1⟩
     refine Wo Z (Rt Z Z)<|Vs Z (Xa (a := u1) (b := .func _ _ _) Vc Z Z) (hcon _ _ _ _ exq (B1.J exq) (B2.J E3) (Kv O1)) ?_; rintro _ w4 ⟨rfl, E4⟩; refine Ya Z<|Vp<|Vy ?_; exact ⟨rfl, exq⟩; exact Ks
 | A f ih =>
   intro w v pv z hf hpv hz hl
   have hl' : f.enc.length ≤ 1000 := by simp only [Fm.enc, List.length_cons] at hl; omega
   obtain ⟨pa, pc, rfl, _⟩ := id hpv
   obtain ⟨b, bp, u, rfl, hB, hBp, hu⟩ := hf
   have hP := hBp.vals (c := 1) Kp
   have hcl : ∀ (w1 : World) (b3 b4 : Nat) (x : Int), Ext w w1 → Blk w1 b3 [.pointer (some ⟨b, 0, none⟩)] → Blk w1 b4 [.slice pa p.length pc] → 0 ≤ x ∧ x < p.length → Dz 192 [.int .i64 x, .pointer (some ⟨b3, 0, none⟩), .pointer (some ⟨b4, 0, none⟩)] w1 (Ret w1 (.bool (!(f.holds p x.toNat)))) := by
     intro w1 b3 b4 x E0 B3 B4 hx
     refine Yr Tryz.func192 Z Tryz.results192 Tryz.ntmps192 Z ?_
     focus
       refine Vr<|Ya Z<|Vp<|Vt<|Qe mixed Ki Z ?_; refine Uq (v := .pointer _) Z (fun w' hw' => Xd Gt Z ((B3.J hw').cell Z)) ?_; refine Uq Z (fun _ _ => Ud Z) ?_; refine Qu Gh Zb Z<|Uq (v := .slice _ _ _) Z (fun w' hw' => Xd Vf Z (((hB.J E0).J hw').cell Z)) ?_; refine Qf (k := 0) Zm Zn Gt Z (fun _ => Z) Z hP E0 Z Km ?_; rintro _ _ rfl; refine Uq (v := .slice _ _ _) Z (fun w' hw' => Xd Ju Z ((B4.J hw').cell Z)) ?_; refine Sv Z<|Rb Z (fun _ _ => Qq (b := .slice _ _ _) (c := .int _ _) Zx Z Z Z) (fun w' hw' => (ih _ _ _ _ (Ku exq hu) (Ku exq hpv) Kk Kk)) ?_
       refine Mi Z<|Nx Z<|Ux (fun w2 E1 => ?_); refine Vy ?_; exact ⟨rfl, E1⟩
   have hcon : ∀ (w1 : World) (u : Value) (b3 b4 : Nat), Ext w w1 → Blk w1 b3 [.pointer (some ⟨b, 0, none⟩)] → Blk w1 b4 [.slice pa p.length pc] → Ints w1 u (ints (arr p z.toNat)) → Dz 146 [u, .func (.func 192) [].toArray [.pointer (some ⟨b3, 0, none⟩), .pointer (some ⟨b4, 0, none⟩)].toArray] w1 (Ret w1 (.bool ((arr p z.toNat).any fun j => !(f.holds p j)))) := by
     intro w1 u b3 b4 E0 B3 B4 hu
     have := Sg w1 u _ hu 192 [.pointer (some ⟨b3, 0, none⟩), .pointer (some ⟨b4, 0, none⟩)] (fun x => !(f.holds p x.toNat)) Tryz.call192 (fun x w' hx e => hcl w' b3 b4 x (E0.K e) (B3.J e) (B4.J e) (hmem z x hz hx))
     rw [any_ints _ (fun j => !(f.holds p j))] at this
     exact this
   refine Yr Tryz.func160 Z Tryz.results160 Tryz.ntmps160 Z ?_
   focus
     refine Vr<|Xu Z Z Z ?_; rintro b1 w1 H1 E1 B1; refine Xu Z Z Z ?_; rintro b2 w2 H2 E2 B2; refine Ya Z<|Vp<|Vt<|Vr<|Wo (v := .pointer _) Z (Xd Gt Z ((B1.J E2).cell Z))<|Wo Z (Ud Z)<|Yl Gh Gz Z<|Xx Zw (hB.J exq) Z<|Vp<|Yb<|Vr<|Yo Z<|Ya Z<|Vp<|Yt Z fun h1 => ?_; refine Vr<|Yo Z<|Ya Z<|Vp<|Yt Z fun h2 => ?_; refine Vr<|Yo Z<|Ya Z<|Vp<|Vu Z (fun h3 => ?_) (fun h3 => ?_); refine Vr<|Rg Ju B2 Z<|Vz Z<|Vs Z (Xa (a := .slice _ _ _) (b := .int _ _) Gy Z Z) (harr _ _ _ (Ku exq hpv) Kk) ?_; rintro u1 w3 ⟨E3, O1⟩
     refine Wo Z (Rt Z Z)<|Vs Z (Xa (a := u1) (b := .func _ _ _) Vc Z Z) (hcon _ _ _ _ exq (B1.J exq) (B2.J E3) (Kv O1)) ?_; rintro _ w4 ⟨rfl, E4⟩; refine Xz Z<|Ya Z<|Vp<|Vy ?_; exact ⟨rfl, exq⟩; exact Ks
 | and f g ih1 ih2 =>
   intro w v pv z hf hpv hz hl
   have hl' : f.enc.length ≤ 1000 ∧ g.enc.length ≤ 1000 := by simp [Fm.enc] at hl; omega
   have hl1 := hl'.1
   have hl2 := hl'.2
   obtain ⟨pa, pc, rfl, _⟩ := id hpv
   obtain ⟨b, bp, u, u', rfl, hB, hBp, hu, hu'⟩ := hf
   have hP := hBp.vals (c := 2) Kp
   have h1 : ∀ w' (q : Value) (zz : Int), EFm w' u f → ESl Ints w' q p → 0 ≤ zz ∧ zz < p.length → Dz 160 [u, q, .int .i64 zz] w' (Ret w' (.bool (f.holds p zz.toNat))) := fun w' q zz e1 e2 e3 => ih1 w' u q zz e1 e2 e3 hl1
   have h2 : ∀ w' (q : Value) (zz : Int), EFm w' u' g → ESl Ints w' q p → 0 ≤ zz ∧ zz < p.length → Dz 160 [u', q, .int .i64 zz] w' (Ret w' (.bool (g.holds p zz.toNat))) := fun w' q zz e1 e2 e3 => ih2 w' u' q zz e1 e2 e3 hl2
   refine Yr Tryz.func160 Z Tryz.results160 Tryz.ntmps160 Z ?_
   focus
     refine Vr<|Xu Z Z Z ?_; rintro b1 w1 H1 E1 B1; refine Xu Z Z Z ?_; rintro b2 w2 H2 E2 B2; refine Ya Z<|Vp<|Vt<|Vr<|Wo (v := .pointer _) Z (Xd Gt Z ((B1.J E2).cell Z))<|Wo Z (Ud Z)<|Yl Gh Gz Z<|Xx Zw (hB.J exq) Z<|Vp<|Yb<|Vr<|Yo Z<|Ya Z<|Vp<|Yt Z fun h3 => ?_; refine Vr<|Yo Z<|Ya Z<|Vp<|Yt Z fun h4 => ?_; refine Vr<|Yo Z<|Ya Z<|Vp<|Yt Z fun h5 => ?_; refine Vr<|Yo Z<|Ya Z<|Vp<|Vu Z (fun h6 => ?_) (fun h6 => ?_); refine Vt<|Qe mixed Ki Z ?_; refine Uq (v := .pointer _) Z (fun w' hw' => Xd Gt Z (((B1.J E2).J hw').cell Z)) ?_
     refine Uq Z (fun _ _ => Ud Z) ?_; refine Qu Gh Zb Z<|Uq (v := .slice _ _ _) Z (fun w' hw' => Xd Vf Z (((hB.J exq).J hw').cell Z)) ?_; refine Qf (k := 0) Zm Zn Gt Z (fun _ => Z) Z hP exq Z Km ?_; rintro _ _ rfl; refine Uq (v := .slice _ _ _) Z (fun w' hw' => Xd Ju Z ((B2.J hw').cell Z)) ?_; refine Sv Z<|Rb Z (fun _ _ => Qq (b := .slice _ _ _) (c := .int _ _) Zx Z Z Z) (fun w' hw' => (h1 _ _ _ (Ku exq hu) (Ku exq hpv) Kk)) ?_; refine Sp Z (fun _ _ => Xj (v := .bool _) Z) (fun h7 => ?_) (fun h7 => ?_); refine Uq (v := .pointer _) Z (fun w' hw' => Xd Gt Z (((B1.J E2).J hw').cell Z)) ?_
     refine Uq Z (fun _ _ => Ud Z) ?_; refine Qu Gh Zb Z<|Uq (v := .slice _ _ _) Z (fun w' hw' => Xd Vf Z (((hB.J exq).J hw').cell Z)) ?_; refine Qf (k := 1) Zm Zn Gt Z (fun _ => Z) Z hP exq Z Km ?_; rintro _ _ rfl; refine Uq (v := .slice _ _ _) Z (fun w' hw' => Xd Ju Z ((B2.J hw').cell Z)) ?_; refine Sv Z<|Rb Z (fun _ _ => Qq (b := .slice _ _ _) (c := .int _ _) Zx Z Z Z) (fun w' hw' => (h2 _ _ _ (Ku exq hu') (Ku exq hpv) Kk)) ?_; refine Md Z<|Nx Z<|Ux (fun w3 E3 => ?_); refine Vy ?_; refine Yh (v := .bool _) Z ?_; refine ⟨congrArg Value.bool ?_, exq⟩; rotate_left
     refine Yd Z<|Yd Z<|Yd Z<|Yd Z<|Yd Z<|Yd Z<|Yd Z<|Yd Z<|Yd Z<|Sl Z<|Nx Z<|Ux (fun w3 E3 => ?_); refine Vy ?_; refine Yh (v := .bool _) Z ?_; refine ⟨congrArg Value.bool ?_, exq⟩; rotate_left; exact Ks
   all_goals
     have hc : Fm.holds p (f.and g) z.toNat = (f.holds p z.toNat && g.holds p z.toNat) := rfl
     rw [hc]
     first
       | (rw [show f.holds p z.toNat = true from by assumption]; rfl)
       | (rw [show f.holds p z.toNat = false from by assumption]; rfl)
 | or f g ih1 ih2 =>
   intro w v pv z hf hpv hz hl
   have hl' : f.enc.length ≤ 1000 ∧ g.enc.length ≤ 1000 := by simp [Fm.enc] at hl; omega
   have hl1 := hl'.1
   have hl2 := hl'.2
   obtain ⟨pa, pc, rfl, _⟩ := id hpv
   obtain ⟨b, bp, u, u', rfl, hB, hBp, hu, hu'⟩ := hf
   have hP := hBp.vals (c := 2) Kp
   have h1 : ∀ w' (q : Value) (zz : Int), EFm w' u f → ESl Ints w' q p → 0 ≤ zz ∧ zz < p.length → Dz 160 [u, q, .int .i64 zz] w' (Ret w' (.bool (f.holds p zz.toNat))) := fun w' q zz e1 e2 e3 => ih1 w' u q zz e1 e2 e3 hl1
   have h2 : ∀ w' (q : Value) (zz : Int), EFm w' u' g → ESl Ints w' q p → 0 ≤ zz ∧ zz < p.length → Dz 160 [u', q, .int .i64 zz] w' (Ret w' (.bool (g.holds p zz.toNat))) := fun w' q zz e1 e2 e3 => ih2 w' u' q zz e1 e2 e3 hl2
   refine Yr Tryz.func160 Z Tryz.results160 Tryz.ntmps160 Z ?_
   focus
     refine Vr<|Xu Z Z Z ?_; rintro b1 w1 H1 E1 B1; refine Xu Z Z Z ?_; rintro b2 w2 H2 E2 B2; refine Ya Z<|Vp<|Vt<|Vr<|Wo (v := .pointer _) Z (Xd Gt Z ((B1.J E2).cell Z))<|Wo Z (Ud Z)<|Yl Gh Gz Z<|Xx Zw (hB.J exq) Z<|Vp<|Yb<|Vr<|Yo Z<|Ya Z<|Vp<|Yt Z fun h3 => ?_; refine Vr<|Yo Z<|Ya Z<|Vp<|Yt Z fun h4 => ?_; refine Vr<|Yo Z<|Ya Z<|Vp<|Yt Z fun h5 => ?_; refine Vr<|Yo Z<|Ya Z<|Vp<|Yt Z fun h6 => ?_; refine Vr<|Yo Z<|Ya Z<|Vp<|Vu Z (fun h7 => ?_) (fun h7 => ?_); refine Vt<|Qe mixed Ki Z ?_
     refine Uq (v := .pointer _) Z (fun w' hw' => Xd Gt Z (((B1.J E2).J hw').cell Z)) ?_; refine Uq Z (fun _ _ => Ud Z) ?_; refine Qu Gh Zb Z<|Uq (v := .slice _ _ _) Z (fun w' hw' => Xd Vf Z (((hB.J exq).J hw').cell Z)) ?_; refine Qf (k := 0) Zm Zn Gt Z (fun _ => Z) Z hP exq Z Km ?_; rintro _ _ rfl; refine Uq (v := .slice _ _ _) Z (fun w' hw' => Xd Ju Z ((B2.J hw').cell Z)) ?_; refine Sv Z<|Rb Z (fun _ _ => Qq (b := .slice _ _ _) (c := .int _ _) Zx Z Z Z) (fun w' hw' => (h1 _ _ _ (Ku exq hu) (Ku exq hpv) Kk)) ?_; refine Sp Z (fun _ _ => Xj (v := .bool _) Z) (fun h8 => ?_) (fun h8 => ?_)
     refine Yd Z<|Yd Z<|Yd Z<|Yd Z<|Yd Z<|Yd Z<|Yd Z<|Yd Z<|Yd Z<|Md Z<|Nx Z<|Ux (fun w3 E3 => ?_); refine Vy ?_; refine Yh (v := .bool _) Z ?_; refine ⟨congrArg Value.bool ?_, exq⟩; rotate_left; refine Uq (v := .pointer _) Z (fun w' hw' => Xd Gt Z (((B1.J E2).J hw').cell Z)) ?_; refine Uq Z (fun _ _ => Ud Z) ?_; refine Qu Gh Zb Z<|Uq (v := .slice _ _ _) Z (fun w' hw' => Xd Vf Z (((hB.J exq).J hw').cell Z)) ?_; refine Qf (k := 1) Zm Zn Gt Z (fun _ => Z) Z hP exq Z Km ?_; rintro _ _ rfl; refine Uq (v := .slice _ _ _) Z (fun w' hw' => Xd Ju Z ((B2.J hw').cell Z)) ?_
     refine Sv Z<|Rb Z (fun _ _ => Qq (b := .slice _ _ _) (c := .int _ _) Zx Z Z Z) (fun w' hw' => (h2 _ _ _ (Ku exq hu') (Ku exq hpv) Kk)) ?_; refine Sl Z<|Nx Z<|Ux (fun w3 E3 => ?_); refine Vy ?_; refine Yh (v := .bool _) Z ?_; refine ⟨congrArg Value.bool ?_, exq⟩; rotate_left; exact Ks
   all_goals
     have hc : Fm.holds p (f.or g) z.toNat = (f.holds p z.toNat || g.holds p z.toNat) := rfl
     rw [hc]
     first
       | (rw [show f.holds p z.toNat = true from by assumption]; rfl)
       | (rw [show f.holds p z.toNat = false from by assumption]; rfl)
noncomputable def holdsV (s:List UInt8) (p:List (List Int)) (z:Int):Bool:=match theF s with
 | some f=>decide (Nod p z) && f.holds p z.toNat
 | none=>false
open Go.Lib (decDigits)
theorem dec_len : ∀ (m n:Nat),n≤m→(decDigits n).length≤n+1:=by
 intro m
 induction m with
 | zero=>intro n h;rw [decDigits,dif_pos Kh];simp
 | succ m ih =>
   intro n h
   rw [decDigits]
   split
   · simp
   · have := ih (n / 10) Kh
     simp only [List.length_append, List.length_cons, List.length_nil]; omega
theorem l1Num_ok : ∀ (m n:Nat),n≤m→n≤1000000→∀ (w:World),Dz 64 [.int .i64 (n:Int)] w (Ret w (str (decDigits n))):=by
 intro m
 induction m with
 | zero =>
   intro n hm hn w
   have := Nu w n Kh
   rwa [show decDigits n = [dig n] by rw [decDigits, dif_pos Kh]; rfl]
 | succ m ih =>
   intro n hm hn w
   by_cases h10 : n < 10
   · have := Nu w n h10
     rwa [show decDigits n = [dig n] by rw [decDigits, dif_pos h10]; rfl]
   · have hd := dec_len _ (n / 10) (Kz _)
     have k1 : ∀ w, Dz 64 [.int .i64 ((n : Int) / 10)] w (Ret w (str (decDigits (n / 10)))) := fun w => by
       have := ih (n / 10) Kh Kh w
       rwa [show ((n / 10 : Nat) : Int) = (n : Int) / 10 by omega] at this
     refine Yr Tryz.func64 Z Tryz.results64 Tryz.ntmps64 Z ?_
     have e : decDigits n = decDigits (n / 10) ++ [UInt8.ofNat (48 + n % 10)] := by conv => lhs; rw [decDigits, dif_neg h10]
     have e2 : (48 + (n : Int) % 10).toNat = 48 + n % 10 := Kh
     focus
       refine Vr<|Xr Z<|Vp<|Vt<|Vr<|Vz Z<|Yy Z<|Vp<|Vv Z fun h1 => ?_; refine Vw<|Vt<|Rm (fun _ => True) mixed Z Ki ?_; intro w1 E1 K1 Z1; refine Mb 0 Z Z trivial<|Yc 1 Z Ki Ki Z (fun _ _ => Rd Z Z Kh) trivial ?_; refine Mb 3 Z Z trivial<|Yc 4 Z Ki Ki Z (fun _ _ => Li Z Z Kh) trivial ?_; refine Yc 5 Z Ki Ki Z (fun _ _ => Qj Z Z Kh) trivial ?_; refine Yc 6 Z Ki Ki Z (fun _ _ => opv_conv_u8 Zl Gw Z Kh) trivial ?_; refine Wha [2, 7]<|Yg Z ?_ ?_; refine Vs Z (Xh (a := .int _ _) Gs Z) (k1 _) ?_; rintro _ w2 ⟨rfl, E2⟩
       refine Wnt<|Wha [7]<|Wh1 Z<|Xg (ps := [(0, .int _ _)]) (cs := [_]) Z Gm Gz Tryz.zeroValue5 Z Z Z Z ?_; rintro b1 w3 H1 E3 B1 Y1; refine Wnt<|Wha [8]<|Wh1 Z<|Wo Z (Mr Gm Gw Jr Z Kk) ?_; refine Wnt<|Yc 9 Z Ki Ki Z (fun _ _ => Yz Z Z Kf) trivial ?_; refine Us 10 Z Z trivial<|Yp Ki ?_; refine Vy ?_; refine Yh (v := .string _) Z ?_; refine ⟨congrArg str ?_, exq⟩; rotate_left; refine Wh1 Z<|Xg (ps := [(0, .int _ _)]) (cs := [_]) Z Gm Gz Tryz.zeroValue5 Z Z Z Z ?_; rintro b1 w2 H1 E2 B1 Y1; refine Wnt<|Wha [2, 8]<|Yg Z ?_ ?_; refine Vs Z (Xh (a := .int _ _) Gs Z) (k1 _) ?_
       rintro _ w3 ⟨rfl, E3⟩; refine Wnt<|Wha [8]<|Wh1 Z ?_; rotate_left; refine Wh1 Z<|Wo Z (Mr Gm Gw Jr Z Kk) ?_; refine Wnt<|Wha [2]<|Wh1 Z<|Vs Z (Xh (a := .int _ _) Gs Z) (k1 _) ?_; rintro _ w3 ⟨rfl, E3⟩; refine Wnt<|Yc 9 Z Ki Ki Z (fun _ _ => Yz Z Z Kf) trivial ?_; refine Us 10 Z Z trivial<|Yp Ki ?_; refine Vy ?_; refine Yh (v := .string _) Z ?_; refine ⟨congrArg str ?_, exq⟩; rotate_left
     · rw [e, e2]
     · have B1 := B1.J E3
       focus
         refine Wo Z (Mr Gm Gw Jr Z Kk) ?_; refine Wnt<|Yc 9 Z Ki Ki Z (fun _ _ => Yz Z Z Kf) trivial ?_; refine Us 10 Z Z trivial<|Yp Ki ?_; refine Vy ?_; refine Yh (v := .string _) Z ?_; refine ⟨congrArg str ?_, exq⟩
       rw [e, e2]
     · rw [e, e2]
def Tryz.laysItoaM_ren:Go.Shelf.Ren:=⟨fun | 171=>131 | 243=>168 | 246=>196 | 283=>214 | 284=>215 | 285=>216 | 286=>217 | 129=>231 | 317=>230 | 318=>232 | 319=>233 | 320=>234 | 337=>240 | 338=>241 | n=>n,fun | 3=>3 | 9=>9 | 2=>2 | 4=>4 | 171=>170 | 0=>0 | 53=>171 | 37=>22 | 5=>5 | 173=>174 | 212=>185 | 51=>179 | 20=>20 | 213=>186 | 46=>168 | 232=>199 | 233=>200 | n=>n,fun | 17=>1 | 18=>2 | 19=>3 | n=>n⟩
theorem Tryz.laysItoaM:Go.Proofs.LaysM.n171 Tryz.prog Tryz.laysItoaM_ren:={
 mixed:=Ki
 f129:=Tryz.func231.trans (congrArg some Ki)
 f171:=Tryz.func131.trans (congrArg some Ki)
 f243:=Tryz.func168.trans (congrArg some Ki)
 f246:=Tryz.func196.trans (congrArg some Ki)
 f283:=Tryz.func214.trans (congrArg some Ki)
 f284:=Tryz.func215.trans (congrArg some Ki)
 f285:=Tryz.func216.trans (congrArg some Ki)
 f286:=Tryz.func217.trans (congrArg some Ki)
 f317:=Tryz.func230.trans (congrArg some Ki)
 f318:=Tryz.func232.trans (congrArg some Ki)
 f319:=Tryz.func233.trans (congrArg some Ki)
 f320:=Tryz.func234.trans (congrArg some Ki)
 f337:=Tryz.func240.trans (congrArg some Ki)
 f338:=Tryz.func241.trans (congrArg some Ki)
 t0:=Tryz.underlying0
 a0:=Tryz.isAgg0
 z0:=Tryz.sizeOf0
 v0:=Tryz.zeroValue0
 t2:=Tryz.underlying2
 a2:=Tryz.isAgg2
 z2:=Tryz.sizeOf2
 v2:=Tryz.zeroValue2
 t3:=Tryz.underlying3
 a3:=Tryz.isAgg3
 z3:=Tryz.sizeOf3
 v3:=Tryz.zeroValue3
 t4:=Tryz.underlying4
 a4:=Tryz.isAgg4
 z4:=Tryz.sizeOf4
 v4:=Tryz.zeroValue4
 t5:=Tryz.underlying5
 a5:=Tryz.isAgg5
 z5:=Tryz.sizeOf5
 v5:=Tryz.zeroValue5
 t9:=Tryz.underlying9
 a9:=Tryz.isAgg9
 z9:=Tryz.sizeOf9
 v9:=Tryz.zeroValue9
 t20:=Tryz.underlying20
 a20:=Tryz.isAgg20
 z20:=Tryz.sizeOf20
 v20:=Tryz.zeroValue20
 t37:=Tryz.underlying22
 a37:=Tryz.isAgg22
 z37:=Tryz.sizeOf22
 v37:=Tryz.zeroValue22
 t46:=Tryz.underlying168
 a46:=Tryz.isAgg168
 z46:=Tryz.sizeOf168
 v46:=Tryz.zeroValue168
 t51:=Tryz.underlying179
 a51:=Tryz.isAgg179
 z51:=Tryz.sizeOf179
 v51:=Tryz.zeroValue179
 t53:=Tryz.underlying171
 a53:=Tryz.isAgg171
 z53:=Tryz.sizeOf171
 v53:=Tryz.zeroValue171
 t171:=Tryz.underlying170
 a171:=Tryz.isAgg170
 z171:=Tryz.sizeOf170
 v171:=Tryz.zeroValue170
 t173:=Tryz.underlying174
 a173:=Tryz.isAgg174
 z173:=Tryz.sizeOf174
 v173:=Tryz.zeroValue174
 t212:=Tryz.underlying185
 a212:=Tryz.isAgg185
 z212:=Tryz.sizeOf185
 v212:=Tryz.zeroValue185
 t213:=Tryz.underlying186
 a213:=Tryz.isAgg186
 z213:=Tryz.sizeOf186
 t232:=Tryz.underlying199
 a232:=Tryz.isAgg199
 z232:=Tryz.sizeOf199
 v232:=Tryz.zeroValue199
 t233:=Tryz.underlying200
 a233:=Tryz.isAgg200
 z233:=Tryz.sizeOf200
 v233:=Tryz.zeroValue200
 g17:=Ki
 g18:=Ki
 g19:=Ki
 i0:=Ki
 i2:=Ki
 i3:=Ki
 i4:=Ki
 i5:=Ki
 i9:=Ki
 i20:=Ki
 i37:=Ki
 i46:=Ki
 i51:=Ki
 i53:=Ki
 i171:=Ki
 i173:=Ki
 i212:=Ki
 i232:=Ki
 i233:=Ki
 m17:=Ki
 m18:=Ki
 m19:=by kernel_rfl }
def ETb : World → Value → Unit → Prop := fun w _ _ => Go.Lib.TabIs Tryz.prog w "internal/strconv.uint64pow10" .u64 Go.Lib.pow10Tab
instance:Mono ETb:=⟨fun {w w' _ _} e h=>by
 unfold ETb Go.Lib.TabIs World.var? at h ⊢
 cases hg : Tryz.prog.globalNamed "internal/strconv.uint64pow10" with
 | none=>rw [hg] at h;cases h
 | some g =>
   rw [hg] at h
   simp only [Option.bind_some] at h ⊢
   cases hb : w.heap[g]? with
   | none => rw [hb] at h; cases h
   | some o =>
     rw [hb] at h
     rw [e.block g (Array.getElem?_eq_some_iff.1 hb).1, hb]
     exact h⟩
theorem ItoaN_ok (w:World) (hT:ETb w (.bool true) ()) (n:Nat) (h:n≤1000000):Does Tryz.prog 131 [.int .i64 (n:Int)] w (Ret w (str (decDigits n))):=by
 unfold Does
 refine Calls.mono (show Calls Tryz.prog 131 _ w _ from Go.Proofs.Any.strconv_Itoa Tryz.laysItoaM (n:Int) Kh Kh w hT) ?_
 rintro e w' ⟨he,k,os,rfl⟩
 refine ⟨_,he,?_,?_⟩
 ·unfold Go.Lib.itoa
  rw [if_neg Kh];simp [str]
 ·exact ⟨rfl,rfl,rfl,by show w.heap.size≤(w.heap++os).size;simp,fun i hi=>by show (w.heap++os)[i]? = _;exact Array.getElem?_append_left hi⟩
end Go.Proofs.YtbgpppaljpngmaaGreatDoor
