/- Lemmas for FnExactDeskSay. -/
import Derived.Test.YtbgpppaljpngmaaGreatDoorMFnExactDeskSay5
import Derived.Test.YtbgpppaljpngmaaGreatDoorProg
import Derived.Shelf.LaysM
import Derived.Lib.LaidTab
namespace Go.Proofs.YtbgpppaljpngmaaGreatDoor
open Go.Hs
set_option maxRecDepth 10000
set_option maxHeartbeats 4000000
set_option linter.unusedVariables false
theorem Tv {s:List UInt8} {k:Nat} (h:k < s.length):s.drop k=s.getD k 0::s.drop (k+1):=by
 rw [List.drop_eq_getElem_cons h,List.getD_eq_getElem?_getD,List.getElem?_eq_getElem h];rfl
theorem l10End_ok : ∀ (m:Nat) (s:List UInt8) (k:Nat) (w:World),s.length≤lim→s.length - k≤m →
  Does Tryz.prog 163 [str s,.int .i64 (k:Int)] w (Ret w (.int .i64 (endV (s.drop k) s.length))):=by
 intro m
 induction m with
 | zero =>
   intro s k w hl hm
   unfold lim at hl
   have e : s.drop k = [] := List.drop_eq_nil_of_le Ka
   rw [e, endV, pre_nil]
   refine Vh Tryz.func163 Z Tryz.results163 Tryz.ntmps163 Z ?_
   focus
     refine Zp<|Vg Z<|Zn<|Zq<|Zp<|Zu Z<|Vo Z<|Wo Z (Yc Kr Z)<|Qk Z<|Zn<|Zs Z (fun h1 => ?_) (fun h1 => ?_); refine Zq<|Vf<|Vg Z<|Zn<|Zy ?_; exact ⟨rfl, (Ext.refl _)⟩; (exfalso; omega)
 | succ m ih =>
   intro s k w hl hm
   have hl' := hl
   unfold lim at hl'
   by_cases hk : s.length ≤ k
   · have e : s.drop k = [] := List.drop_eq_nil_of_le Ka
     rw [e, endV, pre_nil]
     refine Vh Tryz.func163 Z Tryz.results163 Tryz.ntmps163 Z ?_
     focus
       refine Zp<|Vg Z<|Zn<|Zq<|Zp<|Zu Z<|Vo Z<|Wo Z (Yc Kr Z)<|Qk Z<|Zn<|Zs Z (fun h1 => ?_) (fun h1 => ?_); refine Zq<|Vf<|Vg Z<|Zn<|Zy ?_; exact ⟨rfl, (Ext.refl _)⟩; (exfalso; omega)
   have ih1 : ∀ w, Does Tryz.prog 163 [str s, .int .i64 ((k : Int) + 1)] w (Ret w (.int .i64 (endV (s.drop (k + 1)) s.length))) := fun w => ih s (k + 1) w hl Ka
   have ed := Tv (Nat.lt_of_not_le hk)
   rw [ed]
   generalize hc : s.getD k 0 = c
   have hlen : (s.drop (k + 1)).length = s.length - (k + 1) := Ki
   generalize hr : s.drop (k + 1) = r at ih1 hlen
   by_cases c1 : c = 116
   · subst c1
     have hn : (s.getD k 0).toNat = 116 := by rw [hc]; rfl
     have e : endV (116 :: r) s.length = (k : Int) + 1 := by rw [endV, pre_t]; simp only [hlen]; omega
     rw [e]
     refine Vh Tryz.func163 Z Tryz.results163 Tryz.ntmps163 Z ?_
     focus
       refine Zp<|Vg Z<|Zn<|Zq<|Zp<|Zu Z<|Vo Z<|Wo Z (Yc Kr Z)<|Qk Z<|Zn<|Zt Z fun h1 => ?_; refine Zv<|Zq<|Zp<|Vo Z<|Zu Z<|Wo Z (Vl Kr Z Z Ka) ?_; refine Zn<|Zw<|Zp<|Vm Z<|Zz Z<|Zn<|Zs Z (fun h2 => ?_) (fun h2 => ?_); refine Zp<|Zu Z<|Vr Z<|Vg Z<|Zn<|Zy ?_; exact ⟨rfl, (Ext.refl _)⟩; (exfalso; omega)
   by_cases c2 : c = 33 ∨ c = 83 ∨ c = 65
   · have hn : (s.getD k 0).toNat = 33 ∨ (s.getD k 0).toNat = 83 ∨ (s.getD k 0).toNat = 65 := by rw [hc]; rcases c2 with rfl | rfl | rfl <;> simp
     have e : endV (c :: r) s.length = endV r s.length := by
       cases hp : pre r with
       | none => rw [endV, endV, hp, pre_un_none hp c2]
       | some p =>
         obtain ⟨f, r1⟩ := p
         rcases c2 with rfl | rfl | rfl
         · rw [endV, endV, hp, pre_neg hp]
         · rw [endV, endV, hp, pre_S hp]
         · rw [endV, endV, hp, pre_A hp]
     rw [e]
     refine Vh Tryz.func163 Z Tryz.results163 Tryz.ntmps163 Z ?_
     focus
       refine Zp<|Vg Z<|Zn<|Zq<|Zp<|Zu Z<|Vo Z<|Wo Z (Yc Kr Z)<|Qk Z<|Zn<|Zt Z fun h1 => ?_; refine Zv<|Zq<|Zp<|Vo Z<|Zu Z<|Wo Z (Vl Kr Z Z Ka) ?_; refine Zn<|Zw<|Zp<|Vm Z<|Zz Z<|Zn<|Zt Z fun h2 => ?_; refine Zq<|Zp<|Vm Z<|Zz Z<|Zn<|Zs Z (fun h3 => ?_) (fun h3 => ?_); refine Zv<|Zs Z (fun h4 => ?_) (fun h4 => ?_); refine Zp<|Vo Z<|Zu Z<|Vr Z<|Zr Z (Yg (a := .string _) (b := .int _ _) Jn Z Z) (ih1 _) ?_; rintro _ w1 ⟨rfl, E1⟩; refine Vg Z<|Zn<|Zy ?_; exact ⟨rfl, E1⟩; contradiction; refine Zp<|Vm Z<|Zz Z<|Zn<|Zs Z (fun h4 => ?_) (fun h4 => ?_)
       refine Zv<|Zs Z (fun h5 => ?_) (fun h5 => ?_); refine Zp<|Vo Z<|Zu Z<|Vr Z<|Zr Z (Yg (a := .string _) (b := .int _ _) Jn Z Z) (ih1 _) ?_; rintro _ w1 ⟨rfl, E1⟩; refine Vg Z<|Zn<|Zy ?_; exact ⟨rfl, E1⟩; contradiction; refine Vf<|Vm Z<|Zz Z<|Zn<|Zs Z (fun h5 => ?_) (fun h5 => ?_); refine Zq<|Vf<|Vo Z<|Zu Z<|Vr Z<|Zr Z (Yg (a := .string _) (b := .int _ _) Jn Z Z) (ih1 _) ?_; rintro _ w1 ⟨rfl, E1⟩; refine Vg Z<|Zn<|Zy ?_; exact ⟨rfl, E1⟩; (exfalso; omega)
   by_cases c3 : c = 40
   · subst c3
     have hn : (s.getD k 0).toNat = 40 := by rw [hc]; rfl
     cases hp : pre r with
     | none =>
       have e1 : endV r s.length = -1 := by rw [endV, hp]
       rw [e1] at ih1
       have e : endV (40 :: r) s.length = -1 := by rw [endV, pre_br1 hp]
       rw [e]
       refine Vh Tryz.func163 Z Tryz.results163 Tryz.ntmps163 Z ?_
       focus
         refine Zp<|Vg Z<|Zn<|Zq<|Zp<|Zu Z<|Vo Z<|Wo Z (Yc Kr Z)<|Qk Z<|Zn<|Zt Z fun h1 => ?_; refine Zv<|Zq<|Zp<|Vo Z<|Zu Z<|Wo Z (Vl Kr Z Z Ka) ?_; refine Zn<|Zw<|Zp<|Vm Z<|Zz Z<|Zn<|Zt Z fun h2 => ?_; refine Zq<|Zp<|Vm Z<|Zz Z<|Zn<|Zt Z fun h3 => ?_; refine Zp<|Vm Z<|Zz Z<|Zn<|Zt Z fun h4 => ?_; refine Vf<|Vm Z<|Zz Z<|Zn<|Zt Z fun h5 => ?_; refine Zp<|Vm Z<|Zz Z<|Zn<|Zs Z (fun h6 => ?_) (fun h6 => ?_); refine Zp<|Vo Z<|Zu Z<|Vr Z<|Zr Z (Yg (a := .string _) (b := .int _ _) Jn Z Z) (ih1 _) ?_; rintro _ w1 ⟨rfl, E1⟩
         refine Vg Z<|Zn<|Zq<|Zp<|Zu Z<|Vi Z<|Yf Z (fun h7 => ?_) (fun h7 => ?_); refine Zo Z<|Zo Z<|Zo Z<|Zo Z<|Yq Z<|Yi Z<|Zo Z<|Zo Z<|Zo Z<|Zo Z<|Zo Z<|Zo Z<|Zo Z<|Zo Z<|Zo Z<|Zo Z<|Yq Z<|Zn<|Vv Z ?_; refine Zp<|Vg Z<|Zn<|Zy ?_; exact ⟨rfl, E1⟩; contradiction; (exfalso; omega)
     | some p =>
       obtain ⟨f, r1⟩ := p
       have e1 : endV r s.length = ((s.length - r1.length : Nat) : Int) := by rw [endV, hp]
       have hd := Qa hp
       have hl1 : r.length = f.enc.length + r1.length := by rw [hd]; simp
       have hdm : s.drop (s.length - r1.length) = r1 := by
         have : s.length - r1.length = (k + 1) + f.enc.length := Ka
         rw [this, ← List.drop_drop, hr, hd]; simp
       rw [e1] at ih1
       have hm1 : s.length - r1.length + r1.length = s.length := Ka
       have hmk : k < s.length - r1.length := by have := f.enc_pos; omega
       clear e1 hl1 hd
       generalize s.length - r1.length = q at ih1 hdm hm1 hmk
       cases r1 with
       | nil =>
         have e : endV (40 :: r) s.length = -1 := by rw [endV, pre_br2 hp (by intro c r2 h; cases h)]
         rw [e]
         simp only [List.length_nil] at hm1
         refine Vh Tryz.func163 Z Tryz.results163 Tryz.ntmps163 Z ?_
         focus
           refine Zp<|Vg Z<|Zn<|Zq<|Zp<|Zu Z<|Vo Z<|Wo Z (Yc Kr Z)<|Qk Z<|Zn<|Zt Z fun h1 => ?_; refine Zv<|Zq<|Zp<|Vo Z<|Zu Z<|Wo Z (Vl Kr Z Z Ka) ?_; refine Zn<|Zw<|Zp<|Vm Z<|Zz Z<|Zn<|Zt Z fun h2 => ?_; refine Zq<|Zp<|Vm Z<|Zz Z<|Zn<|Zt Z fun h3 => ?_; refine Zp<|Vm Z<|Zz Z<|Zn<|Zt Z fun h4 => ?_; refine Vf<|Vm Z<|Zz Z<|Zn<|Zt Z fun h5 => ?_; refine Zp<|Vm Z<|Zz Z<|Zn<|Zs Z (fun h6 => ?_) (fun h6 => ?_); refine Zp<|Vo Z<|Zu Z<|Vr Z<|Zr Z (Yg (a := .string _) (b := .int _ _) Jn Z Z) (ih1 _) ?_; rintro _ w1 ⟨rfl, E1⟩
           refine Vg Z<|Zn<|Zq<|Zp<|Zu Z<|Vi Z<|Yw Z fun h7 => ?_; refine Zu Z<|Vo Z<|Wo Z (Yc Kr Z)<|Qk Z<|Vp Z<|Yf Z (fun h8 => ?_) (fun h8 => ?_); refine Zo Z<|Zo Z<|Zo Z<|Zo Z<|Zo Z<|Zo Z<|Zo Z<|Zo Z<|Zo Z<|Zo Z<|Yq Z<|Zn<|Vv Z ?_; refine Zp<|Vg Z<|Zn<|Zy ?_; exact ⟨rfl, E1⟩; (exfalso; omega); (exfalso; omega)
       | cons d r2 =>
         simp only [List.length_cons] at hm1
         have ed2 := Tv (show q < s.length by omega)
         rw [hdm] at ed2
         obtain ⟨hd1, hd2⟩ := List.cons.inj ed2
         by_cases c4 : d = 38 ∨ d = 124
         · have hn2 : (s.getD q 0).toNat = 38 ∨ (s.getD q 0).toNat = 124 := by rw [← hd1]; rcases c4 with rfl | rfl <;> simp
           have ih2 : ∀ w, Does Tryz.prog 163 [str s, .int .i64 ((q : Int) + 1)] w (Ret w (.int .i64 (endV r2 s.length))) := fun w => by
             have := ih s (q + 1) w hl Ka
             rw [← hd2] at this
             exact this
           have hl2 : r2.length = s.length - (q + 1) := Ka
           cases hp2 : pre r2 with
           | none =>
             have e2 : endV r2 s.length = -1 := by rw [endV, hp2]
             rw [e2] at ih2
             have e : endV (40 :: r) s.length = -1 := by rw [endV, pre_br3 hp hp2]
             rw [e]
             clear ed2 hd1 hd2 hdm hr hc ed e2 e
             refine Vh Tryz.func163 Z Tryz.results163 Tryz.ntmps163 Z ?_
             focus
               refine Zp<|Vg Z<|Zn<|Zq<|Zp<|Zu Z<|Vo Z<|Wo Z (Yc Kr Z)<|Qk Z<|Zn<|Zt Z fun h1 => ?_; refine Zv<|Zq<|Zp<|Vo Z<|Zu Z<|Wo Z (Vl Kr Z Z Ka) ?_; refine Zn<|Zw<|Zp<|Vm Z<|Zz Z<|Zn<|Zt Z fun h2 => ?_; refine Zq<|Zp<|Vm Z<|Zz Z<|Zn<|Zt Z fun h3 => ?_; refine Zp<|Vm Z<|Zz Z<|Zn<|Zt Z fun h4 => ?_; refine Vf<|Vm Z<|Zz Z<|Zn<|Zt Z fun h5 => ?_; refine Zp<|Vm Z<|Zz Z<|Zn<|Zs Z (fun h6 => ?_) (fun h6 => ?_); refine Zp<|Vo Z<|Zu Z<|Vr Z<|Zr Z (Yg (a := .string _) (b := .int _ _) Jn Z Z) (ih1 _) ?_; rintro _ w1 ⟨rfl, E1⟩
               refine Vg Z<|Zn<|Zq<|Zp<|Zu Z<|Vi Z<|Yw Z fun h7 => ?_; refine Zu Z<|Vo Z<|Wo Z (Yc Kr Z)<|Qk Z<|Vp Z<|Uj Z fun h8 => ?_; refine Vo Z<|Zu Z<|Wo Z (Vl Kr Z Z Ka) ?_; refine Xo Z<|Uh Z (fun h9 => ?_) (fun h9 => ?_); refine Vo Z<|Zu Z<|Wo Z (Vl Kr Z Z Ka) ?_; refine Xo Z<|Yq Z<|Vp Z<|Zn<|Xt Z fun h10 => ?_; refine Zv<|Zp<|Vo Z<|Zu Z<|Vr Z<|Zr Z (Yg (a := .string _) (b := .int _ _) Jn Z Z) (ih2 _) ?_; rintro _ w2 ⟨rfl, E2⟩; refine Vg Z<|Zn<|Zq<|Zp<|Zu Z<|Vi Z<|Yf Z (fun h11 => ?_) (fun h11 => ?_)
               refine Zo Z<|Zo Z<|Zo Z<|Zo Z<|Yq Z<|Yi Z<|Zo Z<|Zo Z<|Zo Z<|Zo Z<|Yq Z<|Zn<|Vv Z ?_; refine Zp<|Vg Z<|Zn<|Zy ?_; exact ⟨rfl, exq⟩; contradiction; refine Zo Z<|Zo Z<|Zo Z<|Zo Z<|Vp Z<|Vp Z<|Zn<|Zx Z ?_; refine Zv<|Zp<|Vo Z<|Zu Z<|Vr Z<|Zr Z (Yg (a := .string _) (b := .int _ _) Jn Z Z) (ih2 _) ?_; rintro _ w2 ⟨rfl, E2⟩; refine Vg Z<|Zn<|Zq<|Zp<|Zu Z<|Vi Z<|Yf Z (fun h10 => ?_) (fun h10 => ?_); refine Zo Z<|Zo Z<|Zo Z<|Zo Z<|Yq Z<|Yi Z<|Zo Z<|Zo Z<|Zo Z<|Zo Z<|Yq Z<|Zn<|Vv Z ?_
               refine Zp<|Vg Z<|Zn<|Zy ?_; exact ⟨rfl, exq⟩; contradiction; (exfalso; omega)
           | some p2 =>
             obtain ⟨g, r3⟩ := p2
             have e2 : endV r2 s.length = ((s.length - r3.length : Nat) : Int) := by rw [endV, hp2]
             have hd3 := Qa hp2
             have hl3 : r2.length = g.enc.length + r3.length := by rw [hd3]; simp
             have hdm2 : s.drop (s.length - r3.length) = r3 := by
               have : s.length - r3.length = (q + 1) + g.enc.length := Ka
               rw [this, ← List.drop_drop, ← hd2, hd3]; simp
             rw [e2] at ih2
             have hm2 : s.length - r3.length + r3.length = s.length := Ka
             clear e2 hl3 hd3 hl2
             generalize s.length - r3.length = z at ih2 hdm2 hm2
             cases r3 with
             | nil =>
               have e : endV (40 :: r) s.length = -1 := by rw [endV, pre_br4 hp hp2 (by intro r4 h; cases h)]
               rw [e]
               simp only [List.length_nil] at hm2
               clear ed2 hd1 hd2 hdm hdm2 hr hc ed e
               refine Vh Tryz.func163 Z Tryz.results163 Tryz.ntmps163 Z ?_
               focus
                 refine Zp<|Vg Z<|Zn<|Zq<|Zp<|Zu Z<|Vo Z<|Wo Z (Yc Kr Z)<|Qk Z<|Zn<|Zt Z fun h1 => ?_; refine Zv<|Zq<|Zp<|Vo Z<|Zu Z<|Wo Z (Vl Kr Z Z Ka) ?_; refine Zn<|Zw<|Zp<|Vm Z<|Zz Z<|Zn<|Zt Z fun h2 => ?_; refine Zq<|Zp<|Vm Z<|Zz Z<|Zn<|Zt Z fun h3 => ?_; refine Zp<|Vm Z<|Zz Z<|Zn<|Zt Z fun h4 => ?_; refine Vf<|Vm Z<|Zz Z<|Zn<|Zt Z fun h5 => ?_; refine Zp<|Vm Z<|Zz Z<|Zn<|Zs Z (fun h6 => ?_) (fun h6 => ?_); refine Zp<|Vo Z<|Zu Z<|Vr Z<|Zr Z (Yg (a := .string _) (b := .int _ _) Jn Z Z) (ih1 _) ?_; rintro _ w1 ⟨rfl, E1⟩
                 refine Vg Z<|Zn<|Zq<|Zp<|Zu Z<|Vi Z<|Yw Z fun h7 => ?_; refine Zu Z<|Vo Z<|Wo Z (Yc Kr Z)<|Qk Z<|Vp Z<|Uj Z fun h8 => ?_; refine Vo Z<|Zu Z<|Wo Z (Vl Kr Z Z Ka) ?_; refine Xo Z<|Uh Z (fun h9 => ?_) (fun h9 => ?_); refine Vo Z<|Zu Z<|Wo Z (Vl Kr Z Z Ka) ?_; refine Xo Z<|Yq Z<|Vp Z<|Zn<|Xt Z fun h10 => ?_; refine Zv<|Zp<|Vo Z<|Zu Z<|Vr Z<|Zr Z (Yg (a := .string _) (b := .int _ _) Jn Z Z) (ih2 _) ?_; rintro _ w2 ⟨rfl, E2⟩; refine Vg Z<|Zn<|Zq<|Zp<|Zu Z<|Vi Z<|Yw Z fun h11 => ?_
                 refine Zu Z<|Vo Z<|Wo Z (Yc Kr Z)<|Qk Z<|Vp Z<|Yf Z (fun h12 => ?_) (fun h12 => ?_); refine Zo Z<|Zo Z<|Zo Z<|Zo Z<|Yq Z<|Zn<|Vv Z ?_; refine Zp<|Vg Z<|Zn<|Zy ?_; exact ⟨rfl, exq⟩; (exfalso; omega); refine Zo Z<|Zo Z<|Zo Z<|Zo Z<|Vp Z<|Vp Z<|Zn<|Zx Z ?_; refine Zv<|Zp<|Vo Z<|Zu Z<|Vr Z<|Zr Z (Yg (a := .string _) (b := .int _ _) Jn Z Z) (ih2 _) ?_; rintro _ w2 ⟨rfl, E2⟩; refine Vg Z<|Zn<|Zq<|Zp<|Zu Z<|Vi Z<|Yw Z fun h10 => ?_; refine Zu Z<|Vo Z<|Wo Z (Yc Kr Z)<|Qk Z<|Vp Z<|Yf Z (fun h11 => ?_) (fun h11 => ?_)
                 refine Zo Z<|Zo Z<|Zo Z<|Zo Z<|Yq Z<|Zn<|Vv Z ?_; refine Zp<|Vg Z<|Zn<|Zy ?_; exact ⟨rfl, exq⟩; (exfalso; omega); (exfalso; omega)
             | cons d3 r4 =>
               simp only [List.length_cons] at hm2
               have ed3 := Tv (show z < s.length by omega)
               rw [hdm2] at ed3
               obtain ⟨hd3, hd4⟩ := List.cons.inj ed3
               by_cases c5 : d3 = 41
               · subst c5
                 have hn3 : (s.getD z 0).toNat = 41 := by rw [← hd3]; rfl
                 have e : endV (40 :: r) s.length = (z : Int) + 1 := by
                   have : pre (40 :: r) = some (if d = 38 then Fm.and f g else Fm.or f g, r4) := by
                     rcases c4 with rfl | rfl
                     · exact pre_and hp hp2
                     · exact pre_or hp hp2
                   rw [endV, this]
                   simp only
                   omega
                 rw [e]
                 clear ed2 hd1 hd2 hdm hdm2 hr hc ed e ed3 hd3 hd4
                 refine Vh Tryz.func163 Z Tryz.results163 Tryz.ntmps163 Z ?_
                 focus
                   refine Zp<|Vg Z<|Zn<|Zq<|Zp<|Zu Z<|Vo Z<|Wo Z (Yc Kr Z)<|Qk Z<|Zn<|Zt Z fun h1 => ?_; refine Zv<|Zq<|Zp<|Vo Z<|Zu Z<|Wo Z (Vl Kr Z Z Ka) ?_; refine Zn<|Zw<|Zp<|Vm Z<|Zz Z<|Zn<|Zt Z fun h2 => ?_; refine Zq<|Zp<|Vm Z<|Zz Z<|Zn<|Zt Z fun h3 => ?_; refine Zp<|Vm Z<|Zz Z<|Zn<|Zt Z fun h4 => ?_; refine Vf<|Vm Z<|Zz Z<|Zn<|Zt Z fun h5 => ?_; refine Zp<|Vm Z<|Zz Z<|Zn<|Zs Z (fun h6 => ?_) (fun h6 => ?_); refine Zp<|Vo Z<|Zu Z<|Vr Z<|Zr Z (Yg (a := .string _) (b := .int _ _) Jn Z Z) (ih1 _) ?_; rintro _ w1 ⟨rfl, E1⟩
                   refine Vg Z<|Zn<|Zq<|Zp<|Zu Z<|Vi Z<|Yw Z fun h7 => ?_; refine Zu Z<|Vo Z<|Wo Z (Yc Kr Z)<|Qk Z<|Vp Z<|Uj Z fun h8 => ?_; refine Vo Z<|Zu Z<|Wo Z (Vl Kr Z Z Ka) ?_; refine Xo Z<|Uh Z (fun h9 => ?_) (fun h9 => ?_); refine Vo Z<|Zu Z<|Wo Z (Vl Kr Z Z Ka) ?_; refine Xo Z<|Yq Z<|Vp Z<|Zn<|Xt Z fun h10 => ?_; refine Zv<|Zp<|Vo Z<|Zu Z<|Vr Z<|Zr Z (Yg (a := .string _) (b := .int _ _) Jn Z Z) (ih2 _) ?_; rintro _ w2 ⟨rfl, E2⟩; refine Vg Z<|Zn<|Zq<|Zp<|Zu Z<|Vi Z<|Yw Z fun h11 => ?_
                   refine Zu Z<|Vo Z<|Wo Z (Yc Kr Z)<|Qk Z<|Vp Z<|Uj Z fun h12 => ?_; refine Vo Z<|Zu Z<|Wo Z (Vl Kr Z Z Ka) ?_; refine Xo Z<|Vp Z<|Zn<|Xt Z fun h13 => ?_; refine Zv<|Zp<|Zu Z<|Vr Z<|Vg Z<|Zn<|Zy ?_; exact ⟨rfl, exq⟩; refine Zo Z<|Zo Z<|Zo Z<|Zo Z<|Vp Z<|Vp Z<|Zn<|Zx Z ?_; refine Zv<|Zp<|Vo Z<|Zu Z<|Vr Z<|Zr Z (Yg (a := .string _) (b := .int _ _) Jn Z Z) (ih2 _) ?_; rintro _ w2 ⟨rfl, E2⟩; refine Vg Z<|Zn<|Zq<|Zp<|Zu Z<|Vi Z<|Yw Z fun h10 => ?_
                   refine Zu Z<|Vo Z<|Wo Z (Yc Kr Z)<|Qk Z<|Vp Z<|Uj Z fun h11 => ?_; refine Vo Z<|Zu Z<|Wo Z (Vl Kr Z Z Ka) ?_; refine Xo Z<|Vp Z<|Zn<|Xt Z fun h12 => ?_; refine Zv<|Zp<|Zu Z<|Vr Z<|Vg Z<|Zn<|Zy ?_; exact ⟨rfl, exq⟩; (exfalso; omega)
               · have hn3 : (s.getD z 0).toNat ≠ 41 := by rw [← hd3]; exact fun h => c5 (UInt8.toNat_inj.1 h)
                 have e : endV (40 :: r) s.length = -1 := by rw [endV, pre_br4 hp hp2 (by intro r4 h; exact c5 (List.cons.inj h).1)]
                 rw [e]
                 clear ed2 hd1 hd2 hdm hdm2 hr hc ed e ed3 hd3 hd4
                 refine Vh Tryz.func163 Z Tryz.results163 Tryz.ntmps163 Z ?_
                 focus
                   refine Zp<|Vg Z<|Zn<|Zq<|Zp<|Zu Z<|Vo Z<|Wo Z (Yc Kr Z)<|Qk Z<|Zn<|Zt Z fun h1 => ?_; refine Zv<|Zq<|Zp<|Vo Z<|Zu Z<|Wo Z (Vl Kr Z Z Ka) ?_; refine Zn<|Zw<|Zp<|Vm Z<|Zz Z<|Zn<|Zt Z fun h2 => ?_; refine Zq<|Zp<|Vm Z<|Zz Z<|Zn<|Zt Z fun h3 => ?_; refine Zp<|Vm Z<|Zz Z<|Zn<|Zt Z fun h4 => ?_; refine Vf<|Vm Z<|Zz Z<|Zn<|Zt Z fun h5 => ?_; refine Zp<|Vm Z<|Zz Z<|Zn<|Zs Z (fun h6 => ?_) (fun h6 => ?_); refine Zp<|Vo Z<|Zu Z<|Vr Z<|Zr Z (Yg (a := .string _) (b := .int _ _) Jn Z Z) (ih1 _) ?_; rintro _ w1 ⟨rfl, E1⟩
                   refine Vg Z<|Zn<|Zq<|Zp<|Zu Z<|Vi Z<|Yw Z fun h7 => ?_; refine Zu Z<|Vo Z<|Wo Z (Yc Kr Z)<|Qk Z<|Vp Z<|Uj Z fun h8 => ?_; refine Vo Z<|Zu Z<|Wo Z (Vl Kr Z Z Ka) ?_; refine Xo Z<|Uh Z (fun h9 => ?_) (fun h9 => ?_); refine Vo Z<|Zu Z<|Wo Z (Vl Kr Z Z Ka) ?_; refine Xo Z<|Yq Z<|Vp Z<|Zn<|Xt Z fun h10 => ?_; refine Zv<|Zp<|Vo Z<|Zu Z<|Vr Z<|Zr Z (Yg (a := .string _) (b := .int _ _) Jn Z Z) (ih2 _) ?_; rintro _ w2 ⟨rfl, E2⟩; refine Vg Z<|Zn<|Zq<|Zp<|Zu Z<|Vi Z<|Yw Z fun h11 => ?_
                   refine Zu Z<|Vo Z<|Wo Z (Yc Kr Z)<|Qk Z<|Vp Z<|Uj Z fun h12 => ?_; refine Vo Z<|Zu Z<|Wo Z (Vl Kr Z Z Ka) ?_; refine Xo Z<|Vp Z<|Zn<|Vz Z (fun h13 => ?_) (fun h13 => ?_); refine Zp<|Vg Z<|Zn<|Zy ?_; exact ⟨rfl, exq⟩; (exfalso; omega); refine Zo Z<|Zo Z<|Zo Z<|Zo Z<|Vp Z<|Vp Z<|Zn<|Zx Z ?_; refine Zv<|Zp<|Vo Z<|Zu Z<|Vr Z<|Zr Z (Yg (a := .string _) (b := .int _ _) Jn Z Z) (ih2 _) ?_; rintro _ w2 ⟨rfl, E2⟩; refine Vg Z<|Zn<|Zq<|Zp<|Zu Z<|Vi Z<|Yw Z fun h10 => ?_
                   refine Zu Z<|Vo Z<|Wo Z (Yc Kr Z)<|Qk Z<|Vp Z<|Uj Z fun h11 => ?_; refine Vo Z<|Zu Z<|Wo Z (Vl Kr Z Z Ka) ?_; refine Xo Z<|Vp Z<|Zn<|Vz Z (fun h12 => ?_) (fun h12 => ?_); refine Zp<|Vg Z<|Zn<|Zy ?_; exact ⟨rfl, exq⟩; (exfalso; omega); (exfalso; omega)
         · have hn2 : (s.getD q 0).toNat ≠ 38 ∧ (s.getD q 0).toNat ≠ 124 := by
             rw [← hd1]; exact ⟨fun h => c4 (.inl (UInt8.toNat_inj.1 h)), fun h => c4 (.inr (UInt8.toNat_inj.1 h))⟩
           have e : endV (40 :: r) s.length = -1 := by
             rw [endV, pre_br2 hp (by
               intro c r2 h
               obtain ⟨rfl, _⟩ := List.cons.inj h
               exact ⟨fun h => c4 (.inl h), fun h => c4 (.inr h)⟩)]
           rw [e]
           clear ed2 hd1 hd2 hdm hr hc ed e
           refine Vh Tryz.func163 Z Tryz.results163 Tryz.ntmps163 Z ?_
           focus
             refine Zp<|Vg Z<|Zn<|Zq<|Zp<|Zu Z<|Vo Z<|Wo Z (Yc Kr Z)<|Qk Z<|Zn<|Zt Z fun h1 => ?_; refine Zv<|Zq<|Zp<|Vo Z<|Zu Z<|Wo Z (Vl Kr Z Z Ka) ?_; refine Zn<|Zw<|Zp<|Vm Z<|Zz Z<|Zn<|Zt Z fun h2 => ?_; refine Zq<|Zp<|Vm Z<|Zz Z<|Zn<|Zt Z fun h3 => ?_; refine Zp<|Vm Z<|Zz Z<|Zn<|Zt Z fun h4 => ?_; refine Vf<|Vm Z<|Zz Z<|Zn<|Zt Z fun h5 => ?_; refine Zp<|Vm Z<|Zz Z<|Zn<|Zs Z (fun h6 => ?_) (fun h6 => ?_); refine Zp<|Vo Z<|Zu Z<|Vr Z<|Zr Z (Yg (a := .string _) (b := .int _ _) Jn Z Z) (ih1 _) ?_; rintro _ w1 ⟨rfl, E1⟩
             refine Vg Z<|Zn<|Zq<|Zp<|Zu Z<|Vi Z<|Yw Z fun h7 => ?_; refine Zu Z<|Vo Z<|Wo Z (Yc Kr Z)<|Qk Z<|Vp Z<|Uj Z fun h8 => ?_; refine Vo Z<|Zu Z<|Wo Z (Vl Kr Z Z Ka) ?_; refine Xo Z<|Uh Z (fun h9 => ?_) (fun h9 => ?_); refine Vo Z<|Zu Z<|Wo Z (Vl Kr Z Z Ka) ?_; refine Xo Z<|Yq Z<|Vp Z<|Zn<|Vz Z (fun h10 => ?_) (fun h10 => ?_); refine Zp<|Vg Z<|Zn<|Zy ?_; exact ⟨rfl, E1⟩; (exfalso; omega); (exfalso; omega); (exfalso; omega)
   · have hn : (s.getD k 0).toNat ≠ 116 ∧ (s.getD k 0).toNat ≠ 33 ∧ (s.getD k 0).toNat ≠ 83 ∧ (s.getD k 0).toNat ≠ 65 ∧ (s.getD k 0).toNat ≠ 40 := by
       rw [hc]
       refine ⟨fun h => c1 (UInt8.toNat_inj.1 h), fun h => c2 (.inl (UInt8.toNat_inj.1 h)), fun h => c2 (.inr (.inl (UInt8.toNat_inj.1 h))), fun h => c2 (.inr (.inr (UInt8.toNat_inj.1 h))), fun h => c3 (UInt8.toNat_inj.1 h)⟩
     have e : endV (c :: r) s.length = -1 := by
       rw [endV, pre_other ⟨c1, fun h => c2 (.inl h), fun h => c2 (.inr (.inl h)), fun h => c2 (.inr (.inr h)), c3⟩]
     rw [e]
     refine Vh Tryz.func163 Z Tryz.results163 Tryz.ntmps163 Z ?_
     focus
       refine Zp<|Vg Z<|Zn<|Zq<|Zp<|Zu Z<|Vo Z<|Wo Z (Yc Kr Z)<|Qk Z<|Zn<|Zt Z fun h1 => ?_; refine Zv<|Zq<|Zp<|Vo Z<|Zu Z<|Wo Z (Vl Kr Z Z Ka) ?_; refine Zn<|Zw<|Zp<|Vm Z<|Zz Z<|Zn<|Zt Z fun h2 => ?_; refine Zq<|Zp<|Vm Z<|Zz Z<|Zn<|Zt Z fun h3 => ?_; refine Zp<|Vm Z<|Zz Z<|Zn<|Zt Z fun h4 => ?_; refine Vf<|Vm Z<|Zz Z<|Zn<|Zt Z fun h5 => ?_; refine Zp<|Vm Z<|Zz Z<|Zn<|Zt Z fun h6 => ?_; refine Zv<|Zp<|Vg Z<|Zn<|Zy ?_; exact ⟨rfl, (Ext.refl _)⟩
set_option linter.unusedSimpArgs false
end Go.Proofs.YtbgpppaljpngmaaGreatDoor
set_option linter.unusedVariables false
namespace Go.Hs
section
variable {p:List (List Int)} {i j k n m:Nat}
theorem fnd_succ:fnd p (n+1) k=true↔∀ j ∈ arr p k,fnd p n j=true:=by
 show fstep p (fnd p n) k=true↔_
 unfold fstep
 rw [Bool.not_eq_true',List.any_eq_false]
 simp
theorem fnd_cback (hp:Pic p) : ∀ (n k:Nat),k < p.length→fnd p n k=true→cback p k=false:=by
 intro n
 induction n with
 | zero=>intro k _ h;cases h
 | succ n ih =>
   intro k hk h
   cases hc : cback p k with
   | false => rfl
   | true =>
     obtain ⟨j, hj, h2⟩ := (cback_step hp hk).1 hc
     rw [ih j ((Uo hp hk).1 hj).1 (fnd_succ.1 h j hj)] at h2; cases h2
theorem Sx (hp:Pic p) (hk:k < p.length) (h:cback p k=false) (hj:j ∈ arr p k):cback p j=false:=by
 cases hc:cback p j with
 | false=>rfl
 | true=>rw [(cback_step hp hk).2 ⟨j,hj,hc⟩] at h;cases h
theorem rf_lt (hp:Pic p) (hk:k < p.length) (h:cback p k=false) (hj:j ∈ arr p k):(rf p j).length < (rf p k).length:=by
 have hjl:=((Uo hp hk).1 hj).1
 have hn:=pw_nodup (Ro (rch p j) p.length)
 have hnk:k ∉ rf p j:=fun hm=>by
  rw [(Nr hp hk).2 ⟨k,j,.refl _,hj,(Qn hp hjl).1 hm⟩] at h;cases h
 have:=List.Nodup.length_le_of_subset (l₁:=k::rf p j) (l₂:=rf p k) (List.nodup_cons.2 ⟨hnk,hn⟩) (fun x hx=>by
  rcases List.mem_cons.1 hx with rfl | hx
  ·exact (Qn hp hk).2 (.refl _)
  ·exact (Qn hp hk).2 (Rch.head hj ((Qn hp hjl).1 hx)))
 rw [List.length_cons] at this;omega
theorem cback_fnd (hp:Pic p) : ∀ (n k:Nat),k < p.length→(rf p k).length≤n→cback p k=false→fnd p n k=true:=by
 intro n
 induction n with
 | zero =>
   intro k hk h _
   have hm := (Qn hp hk).2 (.refl k)
   rw [List.length_eq_zero_iff.1 (Nat.le_zero.1 h)] at hm; cases hm
 | succ n ih =>
   intro k hk h hc
   refine fnd_succ.2 fun j hj => ih j ((Uo hp hk).1 hj).1 ?_ (Sx hp hk hc hj)
   have := rf_lt hp hk hc hj; omega
theorem fnd_len (hp:Pic p) (hk:k < p.length):fnd p p.length k = !cback p k:=by
 cases hc:cback p k with
 | false=>exact cback_fnd hp _ _ hk Ma hc
 | true =>
   cases hf : fnd p p.length k with
   | false => rfl
   | true => rw [fnd_cback hp _ _ hk hf] at hc; cases hc
def dpt (p:List (List Int)):Nat→Nat→Nat
 | 0,_=>0
 | r+1,k=>(arr p k).foldl (fun n j=>max n (dpt p r j+1)) 0
theorem fold_lt (g:Nat→Nat) (n:Nat) : ∀ (l:List Nat) (a:Nat),l.foldl (fun n j=>max n (g j+1)) a < n+1↔a < n+1∧∀ j ∈ l,g j < n:=by
 intro l
 induction l with
 | nil=>intro a;simp
 | cons x xs ih =>
   intro a
   rw [List.foldl_cons, ih]
   simp only [List.mem_cons, forall_eq_or_imp]
   constructor
   · rintro ⟨h1, h2⟩; exact ⟨Ka, Ka, h2⟩
   · rintro ⟨h1, h2, h3⟩; exact ⟨Ka, h3⟩
theorem dpt_fnd (hp:Pic p) : ∀ (r k:Nat),k < p.length→(rf p k).length≤r→cback p k=false→∀ n,fnd p n k=true↔dpt p r k < n:=by
 intro r
 induction r with
 | zero =>
   intro k hk h _
   have hm := (Qn hp hk).2 (.refl k)
   rw [List.length_eq_zero_iff.1 (Nat.le_zero.1 h)] at hm; cases hm
 | succ r ih =>
   intro k hk h hc n
   cases n with
   | zero => exact ⟨fun h => (by cases h), fun h => Ka⟩
   | succ n =>
     rw [fnd_succ]
     show _ ↔ (arr p k).foldl (fun n j => max n (dpt p r j + 1)) 0 < n + 1
     rw [fold_lt]
     have key : ∀ j ∈ arr p k, (fnd p n j = true ↔ dpt p r j < n) := fun j hj => by
       have := rf_lt hp hk hc hj
       exact ih j ((Uo hp hk).1 hj).1 Ka (Sx hp hk hc hj) n
     exact ⟨fun h => ⟨Ka, fun j hj => (key j hj).1 (h j hj)⟩, fun h j hj => (key j hj).2 (h.2 j hj)⟩
theorem dpt_lt (hp:Pic p) {r:Nat} (hk:k < p.length) (h:(rf p k).length≤r) (hc:cback p k=false):dpt p r k < p.length:=by
 rw [← dpt_fnd hp r k hk h hc,fnd_len hp hk,hc];rfl
end
end Go.Hs
namespace Go.Proofs.YtbgpppaljpngmaaGreatDoor
open Go.Hs
set_option maxRecDepth 10000
set_option maxHeartbeats 4000000
set_option linter.unusedVariables false
set_option linter.unusedSimpArgs false
theorem l6ArrP_ok (w:World) (v:Value) (p:List (List Int)) (h:ESl Ints w v p) (hp:Pic p) (i:Nat) (hi:i < p.length):Does Tryz.prog 119 [v,.int .i64 (i:Int)] w (RetO w XI (ints (arr p i))):=by
 have hle:=h.le
 have hrow:=hp.row hi
 have hp5:=hp.2.1
 unfold arr
 rw [Ya hi]
 refine Vh Tryz.func119 Z Tryz.results119 Tryz.ntmps119 Z ?_
 focus
  refine Zp<|Ys Z<|Zn<|Zp<|Yz XInt Z Ux Kl ?_;rintro b1 w1 hb1 b1lt E1 hO1;refine Ys Z<|Zn<|Zq<|Zp<|Vg Z<|Zn<|Zw ?_
 refine Vy [5,6,8,9,10,11,12,13,14,15,16,17,18,19,20,21,22,23,24,25] (fun (k,u)=>[(6,.int .i64 (k:Nat)),(5,u)]) (fun (k,u) w'=>Ext w w'∧k≤p.length∧Owned w.heap.size XI w' u (ints ((List.range k).filter fun j=>decide (p[i].getD j 0=1)))) (fun x=>p.length - x.1) (0,.slice (some ⟨b1,0,none⟩) 0 0) Kg ?_ ?_
 ·exact ⟨Kd,Nat.zero_le _,by simpa [ints] using hO1⟩
 rintro ⟨k,u⟩ ρj w2 ⟨E2,hk,hO2⟩
 have hll:(ints ((List.range k).filter fun j=>decide (p[i].getD j 0=1))).length≤k:=by
  simp only [ints,List.length_map];exact Nat.le_trans (List.length_filter_le _ _) Ki
 have hfs:=Xq (fun j=>decide (p[i].getD j 0=1)) k
 focus
  have szE2:=E2.size;refine Zq<|Zp<|Zu Z<|Vb v Z<|Vk Kp Z h<|Vi Z<|Zn<|Zs Z (fun h1=>?_) (fun h1=>?_);refine Zv<|Zq<|Zw<|Zq<|Vf<|Vb v Z<|Zu Z<|Yb Kp Kt Kz Z (fun _=>Z) Z h E2 Z Kf ?_;rintro _ u1 hu1;refine Zu Z<|Yb Kn Kl Km Z (fun _=>Z) Z hu1 E2 Z Kf ?_;rintro _ _ rfl;refine Vm Z<|Zn<|Zs Z (fun h2=>?_) (fun h2=>?_);refine Vf<|Vb u Z<|Zu Z<|Ye (ps:=[(0,.int _ _)]) (cs:=[_]) Z Kn Kl Jg Z Z Z Z ?_;rintro b2 w3 hb2 E3 hB1 hHb2;have hs2:=E3.size
  refine Xh Z Ux Z Z hB1 (hO2.toB.ext E3) Owned.int (Nat.le_refl _) Kf Ka Ka (E2.trans E3) Ka ?_;rintro v1 w4 hO2 E4 M1;refine Yr v1 Z<|Zn<|Vf<|Zu Z<|Vr Z<|Vg Z<|Zn ?_;rotate_left;refine Zv<|Vf<|Zu Z<|Vr Z<|Vg Z<|Zn ?_;rotate_left;refine Vw ?_;refine Vd ?_;refine Zp<|Vb u Z<|Yr u Z<|Zn<|Zy ?_;refine ⟨E2,(congrArg (Owned _ _ _ _) ?_).mp (hO2.toB.o.mono Ka)⟩;rotate_left
 ·refine ⟨((k+1,v1)),Kg,Kh,?_,?_⟩
  ·refine ⟨Kd,Ka,?_⟩
   rw [hfs,Ya Ka,if_pos (by simpa using by assumption)]
   simpa [ints] using hO2
  ·simp only;omega
 ·refine ⟨((k+1,u)),Kg,Kh,?_,?_⟩
  ·refine ⟨E2,Ka,?_⟩
   rw [hfs,Ya Ka,if_neg (by simpa using by assumption)]
   simpa [ints] using hO2
  ·simp only;omega
 ·obtain rfl:k=p[i].length:=by omega
  rfl
theorem dpt_fold {p:List (List Int)} (hp:Pic p) {r k:Nat} (hk:k < p.length) (hc:cback p k=false) (hr:(rf p k).length≤r+1) (j:Nat) :
  ((arr p k).take j).foldl (fun n j=>max n (dpt p r j+1)) 0 < p.length+1:=by
 rw [fold_lt]
 refine ⟨Ka,fun i hi=>?_⟩
 have hi':=List.mem_of_mem_take hi
 have:=rf_lt hp hk hc hi'
 exact dpt_lt hp ((Uo hp hk).1 hi').1 Ka (Sx hp hk hc hi')
theorem deepAt_ok (p:List (List Int)) (hp:Pic p) : ∀ (r:Nat) (w:World) (v:Value) (k:Nat),ESl Ints w v p→k < p.length→cback p k=false→(rf p k).length≤r →
  Does Tryz.prog 189 [v,.int .i64 (k:Int)] w (Ret w (.int .i64 (dpt p r k:Int))):=by
 have hp5:=hp.2.1
 have harr : ∀ (w:World) (pv:Value) (z:Nat),ESl Ints w pv p→z < p.length→Does Tryz.prog 130 [pv,.int .i64 (z:Int)] w (RetO w XI (ints (arr p z))):=fun w pv z h hz =>
  Us w pv p h (z:Int) Ka (by rw [Ya Ka,hp.row Ka];omega)
 intro r
 induction r with
 | zero =>
   intro w v k h hk hc hr
   have hm := (Qn hp hk).2 (.refl k)
   rw [List.length_eq_zero_iff.1 (Nat.le_zero.1 hr)] at hm; cases hm
 | succ r ih =>
   intro w v k h hk hc hr
   have hla := Yy (arr p k)
   have ha5 := arr_lt5 hp hk
   refine Vh Tryz.func189 Z Tryz.results189 Tryz.ntmps189 Z ?_
   focus
     refine Zp<|Vg Z<|Zn<|Zp<|Vg Z<|Zn<|Zq<|Zp<|Vb v Z<|Zu Z<|Zr Z (Yg (a := v) (b := .int _ _) Js Z Z) (harr _ _ _ (h) Kd) ?_; rintro u1 w1 ⟨E1, hO1⟩; refine Vk Kn Z (Owned.read hO1)<|Zu Z<|Zn<|Zw ?_
   refine Vy [5, 7, 12, 13, 14, 15, 16, 17, 18, 19, 20, 21, 22] (fun (j, m) => [(12, .int .i64 (j : Nat)), (5, .int .i64 m)]) (fun (j, (m : Int)) w' => Ext w1 w' ∧ j ≤ (arr p k).length ∧ m = ((((arr p k).take j).foldl (fun n j => max n (dpt p r j + 1)) 0 : Nat) : Int)) (fun x => (arr p k).length - x.1) (0, 0) Kg ?_ ?_
   · exact ⟨Ext.refl _, Nat.zero_le _, Ki⟩
   rintro ⟨j, m⟩ ρj w2 ⟨E2, hj, hm⟩
   have hmb := dpt_fold hp hk hc hr j
   obtain ⟨q, hq⟩ : ∃ q, q = ((arr p k).take j).foldl (fun n j => max n (dpt p r j + 1)) 0 := ⟨_, rfl⟩
   rw [← hq] at hm hmb
   by_cases hjl : j < (arr p k).length
   · have hmm := List.getElem_mem hjl
     have hga := Xz hjl
     have hts := Yd _ _ hjl
     have hxl := ((Uo hp hk).1 hmm).1
     have hrl := rf_lt hp hk hc hmm
     have hcb := Sx hp hk hc hmm
     have hdl := dpt_lt hp (r := r) hxl Ka hcb
     have k2 : ∀ (w : World) (pv : Value), ESl Ints w pv p → Does Tryz.prog 189 [pv, .int .i64 ((ints (arr p k))[j]'Ka)] w (Ret w (.int .i64 (dpt p r (arr p k)[j] : Int))) := by
       rw [hga]; exact fun w pv h => ih w pv _ h hxl hcb Ka
     have hnew : max q (dpt p r (arr p k)[j] + 1) = ((arr p k).take (j + 1)).foldl (fun n j => max n (dpt p r j + 1)) 0 := by
       rw [hts, List.foldl_append, ← hq]; rfl
     subst hm
     generalize dpt p r (arr p k)[j] = d at *
     focus
       refine Zp<|Vi Z<|Zn<|Zq<|Zs Z (fun h1 => ?_) (fun h1 => ?_); refine Zv<|Zq<|Zw<|Zp<|Yb Kn Kl Km Z (fun _ => Z) Z (Owned.read hO1) E2 Z Kf ?_; rintro _ _ rfl; refine Vg Z<|Zn<|Vf<|Zu Z<|Vb v Z<|Zu Z<|Zr Z (Yg (a := v) (b := .int _ _) Tryz.call189 Z Z) (k2 _ _ ((Mono.mono exq h))) ?_; rintro _ w3 ⟨rfl, E3⟩; refine Vr Z<|Wo Z (opv_max Z Z)<|Vg Z<|Zn<|Vf<|Vr Z<|Zu Z<|Zn ?_; rotate_left; (exfalso; omega)
     refine ⟨((j + 1, max (q : Int) ((d : Int) + 1))), Kg, Kh, ?_, ?_⟩
     · exact ⟨E2.trans E3, Ka, by rw [← hnew]; omega⟩
     · simp only; omega
   · obtain rfl : j = (arr p k).length := by omega
     rw [List.take_length] at hq
     have hfin : dpt p (r + 1) k = q := hq.symm
     rw [hfin, ← hm]
     focus
       refine Zp<|Vi Z<|Zn<|Zq<|Zt Z fun h1 => ?_; refine Vw ?_; refine Vd ?_; refine Zp<|Zu Z<|Vg Z<|Zn<|Zy ?_; exact ⟨rfl, exq⟩
theorem spec_DeepAt_ok1 (p:List (List Int)) (hp:Pic p) : ∀ (r:Nat) (w:World) (v:Value) (k:Nat),ESl Ints w v p→k < p.length→cback p k=false→(rf p k).length≤r →
  Does Tryz.prog 68 [v,.int .i64 (k:Int)] w (Ret w (.int .i64 (dpt p r k:Int))):=by
 have hp5:=hp.2.1
 have hN : ∀ (k:Nat),k < p.length→∀ (w:World) (pv:Value),ESl Ints w pv p→Does Tryz.prog 118 [pv,.int .i64 (k:Int)] w (Ret w (.bool true)):=fun k hk w pv h=>by
  have:=Qs w pv p h (k:Int)
  rw [decide_eq_true (show Nod p (k:Int) from ⟨hp,Ka,Ka⟩)] at this;exact this
 intro r
 induction r with
 | zero =>
   intro w v k h hk hc hr
   have hm := (Qn hp hk).2 (.refl k)
   rw [List.length_eq_zero_iff.1 (Nat.le_zero.1 hr)] at hm; cases hm
 | succ r ih =>
   intro w v k h hk hc hr
   have hla := Yy (arr p k)
   have ha5 := arr_lt5 hp hk
   have k1 := hN k hk
   have k3 : ∀ (w : World) (pv : Value), ESl Ints w pv p → Does Tryz.prog 117 [pv, .int .i64 (k : Int)] w (Ret w (.bool false)) := fun w pv h => by
     have := Ss w pv p h hp k hk
     rw [hc] at this; exact this
   have k4 : ∀ (w : World) (pv : Value), ESl Ints w pv p → Does Tryz.prog 119 [pv, .int .i64 (k : Int)] w (RetO w XI (ints (arr p k))) := fun w pv h => l6ArrP_ok w pv p h hp k hk
   refine Vh Tryz.func68 Z Tryz.results68 Tryz.ntmps68 Z ?_
   focus
     refine Zp<|Vg Z<|Zn<|Zq<|Zp<|Vb v Z<|Zu Z<|Zr Z (Yg (a := v) (b := .int _ _) Gb Z Z) (k1 _ _ (h)) ?_; rintro _ w1 ⟨rfl, E1⟩; refine Ym Z<|Yn Z (Vq (v := .bool _) Z) (fun h1 => ?_) (fun h1 => ?_); contradiction; refine Vb v Z<|Zu Z<|Zr Z (Yg (a := v) (b := .int _ _) Tryz.call117 Z Z) (k3 _ _ ((Mono.mono E1 h))) ?_; rintro _ w2 ⟨rfl, E2⟩; refine Vp Z<|Zn<|Zx Z ?_; refine Zv<|Zp<|Vg Z<|Zn<|Zp<|Vb v Z<|Zu Z<|Zr Z (Yg (a := v) (b := .int _ _) Zc Z Z) (k4 _ _ ((Mono.mono exq h))) ?_; rintro u1 w3 ⟨E3, hO1⟩; refine Yr u1 Z<|Zn<|Zq<|Zp<|Vg Z<|Zn<|Zw ?_
   refine Vy [5, 7, 20, 21, 22, 23, 24, 25, 26, 27, 28, 29, 30, 31, 32, 33, 34] (fun (j, m) => [(7, .int .i64 (j : Nat)), (5, .int .i64 m)]) (fun (j, (m : Int)) w' => Ext w3 w' ∧ j ≤ (arr p k).length ∧ m = ((((arr p k).take j).foldl (fun n j => max n (dpt p r j + 1)) 0 : Nat) : Int)) (fun x => (arr p k).length - x.1) (0, 0) Kg ?_ ?_
   · exact ⟨Ext.refl _, Nat.zero_le _, Ki⟩
   rintro ⟨j, m⟩ ρj w4 ⟨E4, hj, hm⟩
   have hmb := dpt_fold hp hk hc hr j
   obtain ⟨q, hq⟩ : ∃ q, q = ((arr p k).take j).foldl (fun n j => max n (dpt p r j + 1)) 0 := ⟨_, rfl⟩
   rw [← hq] at hm hmb
   by_cases hjl : j < (arr p k).length
   · have hmm := List.getElem_mem hjl
     have hga := Xz hjl
     have hts := Yd _ _ hjl
     have hxl := ((Uo hp hk).1 hmm).1
     have hrl := rf_lt hp hk hc hmm
     have hcb := Sx hp hk hc hmm
     have hdl := dpt_lt hp (r := r) hxl Ka hcb
     have k2 : ∀ (w : World) (pv : Value), ESl Ints w pv p → Does Tryz.prog 68 [pv, .int .i64 ((ints (arr p k))[j]'Ka)] w (Ret w (.int .i64 (dpt p r (arr p k)[j] : Int))) := by
       rw [hga]; exact fun w pv h => ih w pv _ h hxl hcb Ka
     have hnew : max q (dpt p r (arr p k)[j] + 1) = ((arr p k).take (j + 1)).foldl (fun n j => max n (dpt p r j + 1)) 0 := by
       rw [hts, List.foldl_append, ← hq]; rfl
     subst hm
     generalize dpt p r (arr p k)[j] = d at *
     focus
       refine Zq<|Zp<|Zu Z<|Vb u1 Z<|Vk Kn Z (Owned.read hO1)<|Vi Z<|Zn<|Zs Z (fun h2 => ?_) (fun h2 => ?_); refine Zv<|Zq<|Zw<|Vf<|Zu Z<|Vb v Z<|Vb u1 Z<|Zu Z<|Yb Kn Kl Km Z (fun _ => Z) Z (Owned.read hO1) E4 Z Kf ?_; rintro _ _ rfl; refine Zr Z (Yg (a := v) (b := .int _ _) Zd Z Z) (k2 _ _ ((Mono.mono exq h))) ?_; rintro _ w5 ⟨rfl, E5⟩; refine Vr Z<|Wo Z (opv_max Z Z)<|Vg Z<|Zn<|Vf<|Zu Z<|Vr Z<|Vg Z<|Zn ?_; rotate_left; (exfalso; omega)
     refine ⟨((j + 1, max (q : Int) ((d : Int) + 1))), Kg, Kh, ?_, ?_⟩
     · exact ⟨E4.trans E5, Ka, by rw [← hnew]; omega⟩
     · simp only; omega
   · obtain rfl : j = (arr p k).length := by omega
     rw [List.take_length] at hq
     have hfin : dpt p (r + 1) k = q := hq.symm
     rw [hfin, ← hm]
     focus
       refine Zq<|Zp<|Zu Z<|Vb u1 Z<|Vk Kn Z (Owned.read hO1)<|Vi Z<|Zn<|Zt Z fun h2 => ?_; refine Vw ?_; refine Vd ?_; refine Zp<|Zu Z<|Vg Z<|Zn<|Zy ?_; exact ⟨rfl, exq⟩
noncomputable def deepAtV (p:List (List Int)) (z:Int):Int:=if Nod p z∧cback p z.toNat=false then (dpt p p.length z.toNat:Int) else -1
theorem spec_DeepAt_ok (w:World) (v:Value) (p:List (List Int)) (h:ESl Ints w v p) (z:Int):Does Tryz.prog 68 [v,.int .i64 z] w (Ret w (.int .i64 (deepAtV p z))):=by
 have hnn : ∀ (x:Bool),decide (Nod p z)=x→∀ (w:World) (pv:Value),ESl Ints w pv p→Does Tryz.prog 118 [pv,.int .i64 z] w (Ret w (.bool x)):=fun x e w pv h=>by
  subst e;exact Qs w pv p h z
 by_cases hz:Nod p z
 ·have hp:=hz.1
  have hz':=hz.2
  cases hc:cback p z.toNat with
  | false =>
    rw [show deepAtV p z = (dpt p p.length z.toNat : Int) from if_pos ⟨hz, hc⟩]
    have := spec_DeepAt_ok1 p hp p.length w v z.toNat h Ka hc Ma
    rw [Int.toNat_of_nonneg hz'.1] at this; exact this
  | true =>
    rw [show deepAtV p z = -1 from if_neg (fun h => by rw [hc] at h; cases h.2)]
    have k1 := hnn true (decide_eq_true hz)
    have k2 : ∀ (w : World) (pv : Value), ESl Ints w pv p → Does Tryz.prog 117 [pv, .int .i64 z] w (Ret w (.bool true)) := fun w pv h => by
      have := Ss w pv p h hp z.toNat Ka
      rw [hc, Int.toNat_of_nonneg hz'.1] at this; exact this
    clear hnn
    refine Vh Tryz.func68 Z Tryz.results68 Tryz.ntmps68 Z ?_
    focus
      refine Zp<|Vg Z<|Zn<|Zq<|Zp<|Vb v Z<|Zu Z<|Zr Z (Yg (a := v) (b := .int _ _) Gb Z Z) (k1 _ _ (h)) ?_; rintro _ w1 ⟨rfl, E1⟩; refine Ym Z<|Yn Z (Vq (v := .bool _) Z) (fun h1 => ?_) (fun h1 => ?_); contradiction; refine Vb v Z<|Zu Z<|Zr Z (Yg (a := v) (b := .int _ _) Tryz.call117 Z Z) (k2 _ _ ((Mono.mono E1 h))) ?_; rintro _ w2 ⟨rfl, E2⟩; refine Vp Z<|Zn<|Vv Z ?_; refine Zp<|Vg Z<|Zn<|Zy ?_; exact ⟨rfl, exq⟩
 ·rw [show deepAtV p z = -1 from if_neg (fun h=>hz h.1)]
  have k1:=hnn false (decide_eq_false hz)
  clear hnn
  refine Vh Tryz.func68 Z Tryz.results68 Tryz.ntmps68 Z ?_
  focus
   refine Zp<|Vg Z<|Zn<|Zq<|Zp<|Vb v Z<|Zu Z<|Zr Z (Yg (a:=v) (b:=.int _ _) Gb Z Z) (k1 _ _ (h)) ?_;rintro _ w1 ⟨rfl,E1⟩;refine Ym Z<|Yn Z (Vq (v:=.bool _) Z) (fun h1=>?_) (fun h1=>?_);refine Zo Z<|Zo Z<|Zo Z<|Yq Z<|Zn<|Vv Z ?_;refine Zp<|Vg Z<|Zn<|Zy ?_;exact ⟨rfl,E1⟩;contradiction
theorem impl_DeepAt_ok (w:World) (v:Value) (p:List (List Int)) (h:ESl Ints w v p) (z:Int):Does Tryz.prog 157 [v,.int .i64 z] w (Ret w (.int .i64 (deepAtV p z))):=by
 have hnn : ∀ (x:Bool),decide (Nod p z)=x→∀ (w:World) (pv:Value),ESl Ints w pv p→Does Tryz.prog 94 [pv,.int .i64 z] w (Ret w (.bool x)):=fun x e w pv h=>by
  subst e;exact Qu w pv p h z
 by_cases hz:Nod p z
 ·have hp:=hz.1
  have hz':=hz.2
  have k1:=hnn true (decide_eq_true hz)
  have hcb : ∀ x,cback p z.toNat=x→∀ (w:World) (pv:Value),ESl Ints w pv p→Does Tryz.prog 187 [pv,.int .i64 z] w (Ret w (.bool x)):=fun x e w pv h=>by
   subst e
   have:=Tt w pv p h hp z.toNat Ka
   rw [Int.toNat_of_nonneg hz'.1] at this;exact this
  clear hnn
  cases hc:cback p z.toNat with
  | false =>
    rw [show deepAtV p z = (dpt p p.length z.toNat : Int) from if_pos ⟨hz, hc⟩]
    have k2 := hcb _ hc
    have k3 : ∀ (w : World) (pv : Value), ESl Ints w pv p → Does Tryz.prog 189 [pv, .int .i64 z] w (Ret w (.int .i64 (dpt p p.length z.toNat : Int))) := fun w pv h => by
      have := deepAt_ok p hp p.length w pv z.toNat h Ka hc Ma
      rw [Int.toNat_of_nonneg hz'.1] at this; exact this
    clear hcb
    refine Vh Tryz.func157 Z Tryz.results157 Tryz.ntmps157 Z ?_
    focus
      refine Zp<|Vg Z<|Zn<|Zq<|Zp<|Vb v Z<|Zu Z<|Zr Z (Yg (a := v) (b := .int _ _) Jx Z Z) (k1 _ _ (h)) ?_; rintro _ w1 ⟨rfl, E1⟩; refine Ym Z<|Yn Z (Vq (v := .bool _) Z) (fun h1 => ?_) (fun h1 => ?_); contradiction; refine Vb v Z<|Zu Z<|Zr Z (Yg (a := v) (b := .int _ _) Gz Z Z) (k2 _ _ ((Mono.mono E1 h))) ?_; rintro _ w2 ⟨rfl, E2⟩; refine Vp Z<|Zn<|Zx Z ?_; refine Zv<|Zp<|Vb v Z<|Zu Z<|Zr Z (Yg (a := v) (b := .int _ _) Tryz.call189 Z Z) (k3 _ _ ((Mono.mono exq h))) ?_; rintro _ w3 ⟨rfl, E3⟩; refine Vg Z<|Zn<|Zy ?_; exact ⟨rfl, exq⟩
  | true =>
    rw [show deepAtV p z = -1 from if_neg (fun h => by rw [hc] at h; cases h.2)]
    have k2 := hcb _ hc
    clear hcb
    refine Vh Tryz.func157 Z Tryz.results157 Tryz.ntmps157 Z ?_
    focus
      refine Zp<|Vg Z<|Zn<|Zq<|Zp<|Vb v Z<|Zu Z<|Zr Z (Yg (a := v) (b := .int _ _) Jx Z Z) (k1 _ _ (h)) ?_; rintro _ w1 ⟨rfl, E1⟩; refine Ym Z<|Yn Z (Vq (v := .bool _) Z) (fun h1 => ?_) (fun h1 => ?_); contradiction; refine Vb v Z<|Zu Z<|Zr Z (Yg (a := v) (b := .int _ _) Gz Z Z) (k2 _ _ ((Mono.mono E1 h))) ?_; rintro _ w2 ⟨rfl, E2⟩; refine Vp Z<|Zn<|Vv Z ?_; refine Zp<|Vg Z<|Zn<|Zy ?_; exact ⟨rfl, exq⟩
 ·rw [show deepAtV p z = -1 from if_neg (fun h=>hz h.1)]
  have k1:=hnn false (decide_eq_false hz)
  clear hnn
  refine Vh Tryz.func157 Z Tryz.results157 Tryz.ntmps157 Z ?_
  focus
   refine Zp<|Vg Z<|Zn<|Zq<|Zp<|Vb v Z<|Zu Z<|Zr Z (Yg (a:=v) (b:=.int _ _) Jx Z Z) (k1 _ _ (h)) ?_;rintro _ w1 ⟨rfl,E1⟩;refine Ym Z<|Yn Z (Vq (v:=.bool _) Z) (fun h1=>?_) (fun h1=>?_);refine Zo Z<|Zo Z<|Zo Z<|Yq Z<|Zn<|Vv Z ?_;refine Zp<|Vg Z<|Zn<|Zy ?_;exact ⟨rfl,E1⟩;contradiction
end Go.Proofs.YtbgpppaljpngmaaGreatDoor
set_option linter.unusedVariables false
namespace Go.Hs
section
variable {p:List (List Int)} {j k n m c:Nat}
def codS (o x:Option Nat):Option Nat:=match o,x with
 | some s,some m=>if m≤15 then some (s ||| 1 <<< m) else none
 | _,_=>none
def cod (p:List (List Int)):Nat→Nat→Option Nat
 | 0,_=>none
 | r+1,k=>(arr p k).foldl (fun o j=>codS o (cod p r j)) (some 0)
theorem codS_none (x:Option Nat):codS none x=none:=rfl
theorem cod_none (g:Nat→Option Nat) : ∀ (l:List Nat),l.foldl (fun o j=>codS o (g j)) none=none:=by
 intro l
 induction l with
 | nil=>rfl
 | cons a l ih=>rw [List.foldl_cons,codS_none];exact ih
theorem cod_fold (g:Nat→Option Nat) : ∀ (l:List Nat) (s c:Nat),l.foldl (fun o j=>codS o (g j)) (some s)=some c →
  (∀ j ∈ l,∃ m,g j=some m∧m≤15)∧(∀ i,c.testBit i=true↔s.testBit i=true∨∃ j ∈ l,g j=some i)∧(s < 65536→c < 65536):=by
 intro l
 induction l with
 | nil=>intro s c h;cases h;exact ⟨fun j hj=>by simp at hj,fun i=>Ki,id⟩
 | cons a l ih =>
   intro s c h
   rw [List.foldl_cons] at h
   cases hg : g a with
   | none => rw [hg, show codS (some s) none = none from rfl, cod_none] at h; cases h
   | some m =>
     by_cases hm : m ≤ 15
     · rw [hg, show codS (some s) (some m) = some (s ||| 1 <<< m) from if_pos hm] at h
       obtain ⟨h1, h2, h3⟩ := ih _ _ h
       refine ⟨fun j hj => ?_, fun i => ?_, fun hs => h3 ?_⟩
       · rcases List.mem_cons.1 hj with rfl | hj
         · exact ⟨m, hg, hm⟩
         · exact h1 j hj
       · rw [h2 i, Nat.testBit_or, Nat.one_shiftLeft, Nat.testBit_two_pow]
         simp only [Bool.or_eq_true, decide_eq_true_eq, List.mem_cons]
         constructor
         · rintro ((h | h) | ⟨j, hj, h⟩)
           · exact .inl h
           · exact .inr ⟨a, .inl rfl, by rw [hg, h]⟩
           · exact .inr ⟨j, .inr hj, h⟩
         · rintro (h | ⟨j, rfl | hj, h⟩)
           · exact .inl (.inl h)
           · rw [hg] at h; cases h; exact .inl (.inr rfl)
           · exact .inr ⟨j, hj, h⟩
       · have h4 : 2 ^ m < 2 ^ 16 := Nat.pow_lt_pow_right Ka Ka
         rw [Nat.one_shiftLeft]
         exact Nat.or_lt_two_pow (n := 16) hs h4
     · rw [hg, show codS (some s) (some m) = none from if_neg hm, cod_none] at h; cases h
theorem cod_lt {r:Nat} (h:cod p r k=some c):c < 65536:=by
 cases r with
 | zero=>cases h
 | succ r=>exact (cod_fold _ _ _ _ h).2.2 Ka
end
end Go.Hs
namespace Go.Proofs.YtbgpppaljpngmaaGreatDoor
open Go.Hs
set_option maxRecDepth 10000
set_option maxHeartbeats 4000000
set_option linter.unusedVariables false
set_option linter.unusedSimpArgs false
def codP (o:Option Nat):Nat × Bool:=match o with
 | some c=>(c,true)
 | none=>(0,false)
theorem codeAt_ok (p:List (List Int)) (hp:Pic p) : ∀ (r:Nat) (w:World) (v:Value) (k:Nat),ESl Ints w v p→k < p.length→cback p k=false→(rf p k).length≤r →
  Does Tryz.prog 188 [v,.int .i64 (k:Int)] w (Ret w (.tuple #[.int .i64 ((codP (cod p r k)).1:Int),.bool (codP (cod p r k)).2])):=by
 have hp5:=hp.2.1
 have harr : ∀ (w:World) (pv:Value) (z:Nat),ESl Ints w pv p→z < p.length→Does Tryz.prog 130 [pv,.int .i64 (z:Int)] w (RetO w XI (ints (arr p z))):=fun w pv z h hz =>
  Us w pv p h (z:Int) Ka (by rw [Ya Ka,hp.row Ka];omega)
 intro r
 induction r with
 | zero =>
   intro w v k h hk hc hr
   have hm := (Qn hp hk).2 (.refl k)
   rw [List.length_eq_zero_iff.1 (Nat.le_zero.1 hr)] at hm; cases hm
 | succ r ih =>
   intro w v k h hk hc hr
   have hla := Yy (arr p k)
   have ha5 := arr_lt5 hp hk
   refine Xp Tryz.func188 Z Tryz.results188 Tryz.ntmps188 Z ?_
   focus
     refine Zp<|Vg Z<|Zz Z<|Zn<|Zp<|Vg Z<|Zn<|Zq<|Zp<|Vb v Z<|Zu Z<|Zr Z (Yg (a := v) (b := .int _ _) Js Z Z) (harr _ _ _ (h) Kd) ?_; rintro u1 w1 ⟨E1, hO1⟩; refine Vk Kn Z (Owned.read hO1)<|Zu Z<|Zn<|Zw ?_
   refine Vy [4, 5, 6, 8, 9, 10, 15, 16, 17, 18, 19, 20, 21, 22, 23, 24, 25, 26, 27, 28, 29, 30, 31, 32, 33, 34, 35] (fun (j, s) => [(15, .int .i64 (j : Nat)), (6, .int .i64 (s : Nat))]) (fun (j, (s : Nat)) w' => Ext w1 w' ∧ j ≤ (arr p k).length ∧ s < 65536 ∧ ((arr p k).take j).foldl (fun o j => codS o (cod p r j)) (some 0) = some s) (fun x => (arr p k).length - x.1) (0, 0) Kg ?_ ?_
   · exact ⟨Ext.refl _, Nat.zero_le _, Ka, Ki⟩
   rintro ⟨j, s⟩ ρj w2 ⟨E2, hj, hs, hf⟩
   by_cases hjl : j < (arr p k).length
   · have hmm := List.getElem_mem hjl
     have hga := Xz hjl
     have hts := Yd _ _ hjl
     obtain ⟨x, hx⟩ : ∃ x, x = (arr p k)[j] := ⟨_, rfl⟩
     rw [← hx] at hmm hga hts
     have hxl := ((Uo hp hk).1 hmm).1
     have hrl := rf_lt hp hk hc hmm
     have hcb := Sx hp hk hc hmm
     have k2 : ∀ y, cod p r x = y → ∀ (w : World) (pv : Value), ESl Ints w pv p → Does Tryz.prog 188 [pv, .int .i64 ((ints (arr p k))[j]'Ka)] w (Ret w (.tuple #[.int .i64 ((codP y).1 : Int), .bool (codP y).2])) := fun y e => by
       subst e
       rw [hga]; exact fun w pv h => ih w pv x h hxl hcb Ka
     have hstep : ((arr p k).take (j + 1)).foldl (fun o j => codS o (cod p r j)) (some 0) = codS (some s) (cod p r x) := by rw [hts, List.foldl_append, hf]; rfl
     have hdead : codS (some s) (cod p r x) = none → cod p (r + 1) k = none := fun e => by
       show (arr p k).foldl (fun o j => codS o (cod p r j)) (some 0) = none
       rw [← List.take_append_drop (j + 1) (arr p k), List.foldl_append, hstep, e, cod_none]
     cases hy : cod p r x with
     | none =>
       have k3 : ∀ (w : World) (pv : Value), ESl Ints w pv p → Does Tryz.prog 188 [pv, .int .i64 ((ints (arr p k))[j]'Ka)] w (Ret w (.tuple #[.int .i64 0, .bool false])) := k2 none hy
       have hn := hdead (by rw [hy]; rfl)
       simp only [hn, codP]
       clear k2
       focus
         refine Zp<|Vi Z<|Zn<|Zq<|Zs Z (fun h1 => ?_) (fun h1 => ?_); refine Zv<|Zq<|Zw<|Zp<|Yb Kn Kl Km Z (fun _ => Z) Z (Owned.read hO1) E2 Z Kf ?_; rintro _ _ rfl; refine Vg Z<|Zn<|Zp<|Vb v Z<|Zu Z<|Zr Z (Yg (a := v) (b := .int _ _) Tryz.call188 Z Z) (k3 _ _ ((Mono.mono exq h))) ?_; rintro _ w3 ⟨rfl, E3⟩; refine Xl Z<|WsxI Z<|Xv Z<|Vg Z<|Zz Z<|Zn<|Zq<|Zp<|Yi Z<|Ym Z<|Yn Z (Vq (v := .bool _) Z) (fun h2 => ?_) (fun h2 => ?_); refine Zo Z<|Zo Z<|Yq Z<|Zn<|Vv Z ?_; refine Zp<|Vg Z<|Zz Z<|Zn<|Zy ?_; exact ⟨rfl, exq⟩; contradiction; (exfalso; omega)
     | some m =>
       have k3 : ∀ (w : World) (pv : Value), ESl Ints w pv p → Does Tryz.prog 188 [pv, .int .i64 ((ints (arr p k))[j]'Ka)] w (Ret w (.tuple #[.int .i64 (m : Int), .bool true])) := k2 (some m) hy
       have hm6 := cod_lt hy
       clear k2
       by_cases hm15 : m ≤ 15
       · rw [hy, show codS (some s) (some m) = some (s ||| 1 <<< m) from if_pos hm15] at hstep
         have hsh : (1 : Int).toNat <<< ((m : Nat) : Int).toNat ≤ 32768 := by
           show 1 <<< m ≤ 32768
           rw [Nat.one_shiftLeft]; exact Nat.pow_le_pow_right (show 2 > 0 by omega) hm15
         have hns : s ||| 1 <<< m < 65536 := Nat.or_lt_two_pow (n := 16) hs (by have : 1 <<< m ≤ 32768 := hsh; omega)
         focus
           refine Zp<|Vi Z<|Zn<|Zq<|Zs Z (fun h1 => ?_) (fun h1 => ?_); refine Zv<|Zq<|Zw<|Zp<|Yb Kn Kl Km Z (fun _ => Z) Z (Owned.read hO1) E2 Z Kf ?_; rintro _ _ rfl; refine Vg Z<|Zn<|Zp<|Vb v Z<|Zu Z<|Zr Z (Yg (a := v) (b := .int _ _) Tryz.call188 Z Z) (k3 _ _ ((Mono.mono exq h))) ?_; rintro _ w3 ⟨rfl, E3⟩; refine Xl Z<|WsxI Z<|Xv Z<|Vg Z<|Zz Z<|Zn<|Zq<|Zp<|Yi Z<|Ym Z<|Yn Z (Vq (v := .bool _) Z) (fun h2 => ?_) (fun h2 => ?_); contradiction; refine Zu Z<|Qe Z<|Vp Z<|Zn<|Zt Z fun h3 => ?_; refine Zv<|Vf<|Zu Z<|Zu Z<|Wo Z (opv_shl Z Z Ka) ?_; rotate_left; (exfalso; omega)
         refine Wo Z (opv_or Z Z ⟨Int.natCast_nonneg _, Ka, Int.natCast_nonneg _, Int.le_trans (Int.ofNat_le.2 (show _ ≤ 32768 by assumption)) Kc⟩) ?_
         focus
           refine Vg Z<|Zn<|Vf<|Vr Z<|Zu Z<|Zn ?_
         refine ⟨((j + 1, s ||| 1 <<< m)), Kg, Kh, ?_, ?_⟩
         · exact ⟨E2.trans E3, Ka, hns, hstep⟩
         · simp only; omega
       · have hn := hdead (by rw [hy]; exact if_neg hm15)
         simp only [hn, codP]
         focus
           refine Zp<|Vi Z<|Zn<|Zq<|Zs Z (fun h1 => ?_) (fun h1 => ?_); refine Zv<|Zq<|Zw<|Zp<|Yb Kn Kl Km Z (fun _ => Z) Z (Owned.read hO1) E2 Z Kf ?_; rintro _ _ rfl; refine Vg Z<|Zn<|Zp<|Vb v Z<|Zu Z<|Zr Z (Yg (a := v) (b := .int _ _) Tryz.call188 Z Z) (k3 _ _ ((Mono.mono exq h))) ?_; rintro _ w3 ⟨rfl, E3⟩; refine Xl Z<|WsxI Z<|Xv Z<|Vg Z<|Zz Z<|Zn<|Zq<|Zp<|Yi Z<|Ym Z<|Yn Z (Vq (v := .bool _) Z) (fun h2 => ?_) (fun h2 => ?_); contradiction; refine Zu Z<|Qe Z<|Vp Z<|Zn<|Zs Z (fun h3 => ?_) (fun h3 => ?_); refine Zq<|Vf<|Vg Z<|Zz Z<|Zn<|Zy ?_; exact ⟨rfl, exq⟩; (exfalso; omega)
           (exfalso; omega)
   · obtain rfl : j = (arr p k).length := by omega
     rw [List.take_length] at hf
     have hfin : cod p (r + 1) k = some s := hf
     simp only [hfin, codP]
     focus
       refine Zp<|Vi Z<|Zn<|Zq<|Zt Z fun h1 => ?_; refine Vw ?_; refine Vd ?_; refine Zp<|Zu Z<|Vg Z<|Zz Z<|Zn<|Zy ?_; exact ⟨rfl, exq⟩
noncomputable def codeV (p:List (List Int)) (z:Int):Int × Bool:=if Nod p z∧cback p z.toNat=false then (match cod p p.length z.toNat with | some c=>((c:Int),true) | none=>(-1,false)) else (-1,false)
theorem CodeAt_ok (w:World) (v:Value) (p:List (List Int)) (h:ESl Ints w v p) (z:Int) (hz:Nod p z) (hc:cback p z.toNat=false):Does Tryz.prog 155 [v,.int .i64 z] w (Ret w (.tuple #[.int .i64 (codeV p z).1,.bool (codeV p z).2])):=by
 have hp:=hz.1
 have hz':=hz.2
 have k1 : ∀ (w:World) (pv:Value),ESl Ints w pv p→Does Tryz.prog 94 [pv,.int .i64 z] w (Ret w (.bool true)):=fun w pv h=>by
  have:=Qu w pv p h z
  rw [decide_eq_true hz] at this;exact this
 have k2 : ∀ (w:World) (pv:Value),ESl Ints w pv p→Does Tryz.prog 187 [pv,.int .i64 z] w (Ret w (.bool false)):=fun w pv h=>by
  have:=Tt w pv p h hp z.toNat Ka
  rw [hc,Int.toNat_of_nonneg hz'.1] at this;exact this
 have k3 : ∀ y,cod p p.length z.toNat=y→∀ (w:World) (pv:Value),ESl Ints w pv p→Does Tryz.prog 188 [pv,.int .i64 z] w (Ret w (.tuple #[.int .i64 ((codP y).1:Int),.bool (codP y).2])):=fun y e w pv h=>by
  subst e
  have:=codeAt_ok p hp p.length w pv z.toNat h Ka hc Ma
  rw [Int.toNat_of_nonneg hz'.1] at this;exact this
 have hV:codeV p z=match cod p p.length z.toNat with | some c=>((c:Int),true) | none=>(-1,false):=if_pos ⟨hz,hc⟩
 rw [hV]
 cases hy:cod p p.length z.toNat with
 | none =>
   have k4 : ∀ (w : World) (pv : Value), ESl Ints w pv p → Does Tryz.prog 188 [pv, .int .i64 z] w (Ret w (.tuple #[.int .i64 0, .bool false])) := k3 none hy
   clear k3
   refine Xp Tryz.func155 Z Tryz.results155 Tryz.ntmps155 Z ?_
   focus
     refine Zp<|Vg Z<|Zz Z<|Zn<|Zq<|Zp<|Vb v Z<|Zu Z<|Zr Z (Yg (a := v) (b := .int _ _) Jx Z Z) (k1 _ _ (h)) ?_; rintro _ w1 ⟨rfl, E1⟩; refine Ym Z<|Yn Z (Vq (v := .bool _) Z) (fun h1 => ?_) (fun h1 => ?_); contradiction; refine Vb v Z<|Zu Z<|Zr Z (Yg (a := v) (b := .int _ _) Gz Z Z) (k2 _ _ ((Mono.mono E1 h))) ?_; rintro _ w2 ⟨rfl, E2⟩; refine Vp Z<|Zn<|Zx Z ?_; refine Zv<|Zp<|Vb v Z<|Zu Z<|Zr Z (Yg (a := v) (b := .int _ _) Tryz.call188 Z Z) (k4 _ _ ((Mono.mono exq h))) ?_; rintro _ w3 ⟨rfl, E3⟩; refine Xl Z<|WsxI Z<|Xv Z<|Vg Z<|Zz Z<|Zn<|Zq<|Zp<|Yi Z<|Ym Z<|Zn<|Xg Z (fun h2 => ?_) (fun h2 => ?_)
     refine Zq<|Vf<|Vg Z<|Zz Z<|Zn<|Zy ?_; exact ⟨rfl, exq⟩; contradiction
 | some c =>
   have k4 : ∀ (w : World) (pv : Value), ESl Ints w pv p → Does Tryz.prog 188 [pv, .int .i64 z] w (Ret w (.tuple #[.int .i64 (c : Int), .bool true])) := k3 (some c) hy
   clear k3
   refine Xp Tryz.func155 Z Tryz.results155 Tryz.ntmps155 Z ?_
   focus
     refine Zp<|Vg Z<|Zz Z<|Zn<|Zq<|Zp<|Vb v Z<|Zu Z<|Zr Z (Yg (a := v) (b := .int _ _) Jx Z Z) (k1 _ _ (h)) ?_; rintro _ w1 ⟨rfl, E1⟩; refine Ym Z<|Yn Z (Vq (v := .bool _) Z) (fun h1 => ?_) (fun h1 => ?_); contradiction; refine Vb v Z<|Zu Z<|Zr Z (Yg (a := v) (b := .int _ _) Gz Z Z) (k2 _ _ ((Mono.mono E1 h))) ?_; rintro _ w2 ⟨rfl, E2⟩; refine Vp Z<|Zn<|Zx Z ?_; refine Zv<|Zp<|Vb v Z<|Zu Z<|Zr Z (Yg (a := v) (b := .int _ _) Tryz.call188 Z Z) (k4 _ _ ((Mono.mono exq h))) ?_; rintro _ w3 ⟨rfl, E3⟩; refine Xl Z<|WsxI Z<|Xv Z<|Vg Z<|Zz Z<|Zn<|Zq<|Zp<|Yi Z<|Ym Z<|Zn<|Xa Z fun h2 => ?_
     refine Zv<|Zp<|Zu Z<|Vg Z<|Zz Z<|Zn<|Zy ?_; exact ⟨rfl, exq⟩
def EFm (w:World) (v:Value):Fm→Prop
 | .t=>∃ b,v=.pointer (some ⟨b,0,none⟩)∧Blk w b [.int .u8 116,str (Fm.enc .t),.slice none 0 0]
 | .neg f=>∃ b bp u,v=.pointer (some ⟨b,0,none⟩)∧Blk w b [.int .u8 33,str (Fm.enc (.neg f)),.slice (some ⟨bp,0,none⟩) 1 1]∧Blk w bp [u]∧EFm w u f
 | .S f=>∃ b bp u,v=.pointer (some ⟨b,0,none⟩)∧Blk w b [.int .u8 83,str (Fm.enc (.S f)),.slice (some ⟨bp,0,none⟩) 1 1]∧Blk w bp [u]∧EFm w u f
 | .A f=>∃ b bp u,v=.pointer (some ⟨b,0,none⟩)∧Blk w b [.int .u8 65,str (Fm.enc (.A f)),.slice (some ⟨bp,0,none⟩) 1 1]∧Blk w bp [u]∧EFm w u f
 | .and f g=>∃ b bp u u',v=.pointer (some ⟨b,0,none⟩)∧Blk w b [.int .u8 38,str (Fm.enc (.and f g)),.slice (some ⟨bp,0,none⟩) 2 2]∧Blk w bp [u,u']∧EFm w u f∧EFm w u' g
 | .or f g=>∃ b bp u u',v=.pointer (some ⟨b,0,none⟩)∧Blk w b [.int .u8 124,str (Fm.enc (.or f g)),.slice (some ⟨bp,0,none⟩) 2 2]∧Blk w bp [u,u']∧EFm w u f∧EFm w u' g
theorem EFm.ptr {w:World} {v:Value} {f:Fm} (h:EFm w v f) : ∃ a,v=.pointer (some a):=by
 cases f
 ·obtain ⟨b,rfl,_⟩:=h;exact ⟨_,rfl⟩
 all_goals (first | (obtain ⟨b,_,_,rfl,_⟩:=h;exact ⟨_,rfl⟩) | (obtain ⟨b,_,_,_,rfl,_⟩:=h;exact ⟨_,rfl⟩))
instance mono_EFm:Mono EFm:=⟨by
 intro w w' v f he
 induction f generalizing v with
 | t=>rintro ⟨b,rfl,h⟩;exact ⟨b,rfl,h.ext he⟩
 | neg f ih=>rintro ⟨b,bp,u,rfl,h1,h2,h3⟩;exact ⟨b,bp,u,rfl,h1.ext he,h2.ext he,ih h3⟩
 | S f ih=>rintro ⟨b,bp,u,rfl,h1,h2,h3⟩;exact ⟨b,bp,u,rfl,h1.ext he,h2.ext he,ih h3⟩
 | A f ih=>rintro ⟨b,bp,u,rfl,h1,h2,h3⟩;exact ⟨b,bp,u,rfl,h1.ext he,h2.ext he,ih h3⟩
 | and f g ih1 ih2=>rintro ⟨b,bp,u,u',rfl,h1,h2,h3,h4⟩;exact ⟨b,bp,u,u',rfl,h1.ext he,h2.ext he,ih1 h3,ih2 h4⟩
 | or f g ih1 ih2=>rintro ⟨b,bp,u,u',rfl,h1,h2,h3,h4⟩;exact ⟨b,bp,u,u',rfl,h1.ext he,h2.ext he,ih1 h3,ih2 h4⟩⟩
def PartP (w:World) (s:List UInt8):Value→World→Prop:=fun v w'=>Ext w w'∧match pre s with
 | some (f,r)=>∃ u,v=.tuple #[u,str r]∧Above w.heap.size EFm w' u f
 | none=>v=.tuple #[.pointer none,str s]
theorem Sm:Flat Tryz.prog 160 [.int .u8 0,str [],.slice none 0 0]:=⟨_,Tryz.underlying160,fun _=>Kb,fun _=>Kb⟩
theorem readPart_ok : ∀ (m:Nat) (s:List UInt8) (w:World),s.length≤lim→s.length≤m→Does Tryz.prog 190 [str s] w (PartP w s):=by
 intro m
 induction m with
 | zero =>
   intro s w hl hm
   obtain rfl : s = [] := List.eq_nil_of_length_eq_zero Ka
   refine Xp Tryz.func190 Z Tryz.results190 Tryz.ntmps190 Z ?_
   focus
     refine Zp<|Ub Z<|Yj Z<|Zn<|Zq<|Zp<|Vo Z<|Wo Z (Vc Z Z)<|Zn<|Zs Z (fun h1 => ?_) (fun h1 => ?_); refine Zp<|Vo Z<|Ub Z<|Yj Z<|Zn<|Zy ?_; refine Ve (v := .tuple #[.pointer _, .string _]) Z ?_; rotate_left; contradiction
   exact ⟨Ext.refl _, by rw [pre_nil]⟩
 | succ m ih =>
   intro s w hl hm
   have hl' := hl
   unfold lim at hl'
   by_cases hs0 : s = []
   · subst hs0
     refine Xp Tryz.func190 Z Tryz.results190 Tryz.ntmps190 Z ?_
     focus
       refine Zp<|Ub Z<|Yj Z<|Zn<|Zq<|Zp<|Vo Z<|Wo Z (Vc Z Z)<|Zn<|Zs Z (fun h1 => ?_) (fun h1 => ?_); refine Zp<|Vo Z<|Ub Z<|Yj Z<|Zn<|Zy ?_; refine Ve (v := .tuple #[.pointer _, .string _]) Z ?_; rotate_left; contradiction
     exact ⟨Ext.refl _, by rw [pre_nil]⟩
   have hlen : 0 < s.length := List.length_pos_iff.2 hs0
   have es : s = s.getD 0 0 :: s.drop 1 := by have := Tv hlen; simpa using this
   have hrl : (s.drop 1).length = s.length - 1 := Ki
   generalize hc : s.getD 0 0 = c at es
   have ih1 : ∀ w, Does Tryz.prog 190 [str (s.drop 1)] w (PartP w (s.drop 1)) := fun w => ih _ w (by unfold lim; omega) Ka
   have fin : ∀ (f : Fm) (r : List UInt8), s = f.enc ++ r → s.take ((s.length : Int) - (r.length : Int)).toNat = f.enc := by
     intro f r h
     have : ((s.length : Int) - (r.length : Int)).toNat = f.enc.length := by rw [h]; simp
     rw [this, h]; simp
   by_cases c1 : c = 116
   · subst c1
     have hn : (s.getD 0 0).toNat = 116 := by rw [hc]; rfl
     have hp : pre s = some (.t, s.drop 1) := by rw [es]; simp [pre_t]
     clear es
     refine Xp Tryz.func190 Z Tryz.results190 Tryz.ntmps190 Z ?_
     focus
       refine Zp<|Ub Z<|Yj Z<|Zn<|Zq<|Zp<|Vo Z<|Wo Z (Vc Z Z)<|Zn<|Vj Z fun h1 => ?_; refine Zv<|Zq<|Vf<|Vo Z<|Wo Z (Yt (l := 1) Kr Z Z Ka) ?_; refine Yj Z<|Zn<|Zp<|Vo Z<|Wo Z (Vl (k := 0) Kr Z Z Ka) ?_; refine Wo Z (Vs (ps := [(0, .int _ _)]) (cs := [_, _, _]) Sm Z Z)<|Yl Z Z Z ?_; rintro b1 w1 hb1 E1 hB1; refine Ub Z<|Zn<|Zq<|Zp<|Vo Z<|Wo Z (Vl (k := 0) Kr Z Z Ka) ?_; refine Zn<|Zw<|Zp<|Vm Z<|Zz Z<|Zn<|Zs Z (fun h2 => ?_) (fun h2 => ?_)
       refine Zv<|Zp<|Qc Z<|Vo Z<|Vo Z<|Wo Z (Yc Kr Z)<|Vo Z<|Wo Z (Yc Kr Z)<|Qm Z<|Wo Z (Qd Kr Z Z Ka) ?_; refine Wo Z (Xe Z)<|Vn Ji Ku Z<|Xk (v := .string _) Z Ku Z Z Z hB1 Ki Ka E1 ?_; rintro w2 E2 hB1 K1 hz1; simp only [List.set] at hB1; refine Zn<|Zp<|Qc Z<|Vo Z<|Ub Z<|Yj Z<|Zn<|Zy ?_; refine Ve (v := .tuple #[.pointer _, .string _]) Z ?_; rotate_left; (exfalso; omega)
     refine ⟨E2, ?_⟩
     rw [hp]
     refine ⟨_, Z, fun w3 k hs => ⟨b1, Z, (hB1.keep k hb1).cast ?_⟩⟩
     rw [fin _ _ (Qa hp), hn]; rfl
   by_cases c2 : c = 33 ∨ c = 83 ∨ c = 65
   · have hn : (s.getD 0 0).toNat = 33 ∨ (s.getD 0 0).toNat = 83 ∨ (s.getD 0 0).toNat = 65 := by rw [hc]; rcases c2 with rfl | rfl | rfl <;> simp
     cases hp : pre (s.drop 1) with
     | none =>
       have ih2 : ∀ w, Does Tryz.prog 190 [str (s.drop 1)] w (Ret w (.tuple #[.pointer none, str (s.drop 1)])) := fun w =>
         (ih1 w).mono fun v w' ⟨e, h⟩ => ⟨by rw [hp] at h; exact h, e⟩
       have hp' : pre s = none := by rw [es]; exact pre_un_none hp c2
       clear es ih1
       refine Xp Tryz.func190 Z Tryz.results190 Tryz.ntmps190 Z ?_
       focus
         refine Zp<|Ub Z<|Yj Z<|Zn<|Zq<|Zp<|Vo Z<|Wo Z (Vc Z Z)<|Zn<|Vj Z fun h1 => ?_; refine Zv<|Zq<|Vf<|Vo Z<|Wo Z (Yt (l := 1) Kr Z Z Ka) ?_; refine Yj Z<|Zn<|Zp<|Vo Z<|Wo Z (Vl (k := 0) Kr Z Z Ka) ?_; refine Wo Z (Vs (ps := [(0, .int _ _)]) (cs := [_, _, _]) Sm Z Z)<|Yl Z Z Z ?_; rintro b1 w1 hb1 E1 hB1; refine Ub Z<|Zn<|Zq<|Zp<|Vo Z<|Wo Z (Vl (k := 0) Kr Z Z Ka) ?_; refine Zn<|Zw<|Zp<|Vm Z<|Zz Z<|Zn<|Zt Z fun h2 => ?_; refine Zq<|Zp<|Vm Z<|Zz Z<|Zn<|Zs Z (fun h3 => ?_) (fun h3 => ?_)
         refine Zv<|Zs Z (fun h4 => ?_) (fun h4 => ?_); refine Zp<|Vo Z<|Zr Z (Vx (a := .string _) Jk Z) (ih2 _) ?_; rintro _ w2 ⟨rfl, E2⟩; refine Xl Z<|Tu Z<|Rs Z<|Ub Z<|Yj Z<|Zn<|Zq<|Zp<|Qc Z<|Wo Z (Sk Jj Z Z)<|Zn<|Vv Z ?_; refine Zp<|Vo Z<|Ub Z<|Yj Z<|Zn<|Zy ?_; refine Ve (v := .tuple #[.pointer _, .string _]) Z ?_; rotate_left; contradiction; refine Zp<|Vm Z<|Zz Z<|Zn<|Zs Z (fun h4 => ?_) (fun h4 => ?_); refine Zv<|Zs Z (fun h5 => ?_) (fun h5 => ?_); refine Zp<|Vo Z<|Zr Z (Vx (a := .string _) Jk Z) (ih2 _) ?_; rintro _ w2 ⟨rfl, E2⟩
         refine Xl Z<|Tu Z<|Rs Z<|Ub Z<|Yj Z<|Zn<|Zq<|Zq<|Vf<|Qc Z<|Wo Z (Sk Jj Z Z)<|Zn<|Vv Z ?_; refine Zp<|Vo Z<|Ub Z<|Yj Z<|Zn<|Zy ?_; refine Ve (v := .tuple #[.pointer _, .string _]) Z ?_; rotate_left; contradiction; refine Vf<|Vm Z<|Zz Z<|Zn<|Zs Z (fun h5 => ?_) (fun h5 => ?_); refine Zp<|Vo Z<|Zr Z (Vx (a := .string _) Jk Z) (ih2 _) ?_; rintro _ w2 ⟨rfl, E2⟩; refine Xl Z<|Tu Z<|Rs Z<|Ub Z<|Yj Z<|Zn<|Zq<|Zp<|Qc Z<|Wo Z (Sk Jj Z Z)<|Zn<|Vv Z ?_; refine Zp<|Vo Z<|Ub Z<|Yj Z<|Zn<|Zy ?_; refine Ve (v := .tuple #[.pointer _, .string _]) Z ?_; rotate_left
         (exfalso; omega)
       all_goals exact ⟨E1.trans E2, by rw [hp']⟩
     | some q =>
       obtain ⟨f, r1⟩ := q
       have ih2 : ∀ w, Does Tryz.prog 190 [str (s.drop 1)] w (RetX w (fun ad => .tuple #[.pointer (some ad), str r1]) fun ad w' => Above w.heap.size EFm w' (.pointer (some ad)) f) := fun w =>
         (ih1 w).mono fun v w' ⟨e, h⟩ => by
           rw [hp] at h
           obtain ⟨u, hv, hu⟩ := h
           obtain ⟨ad, rfl⟩ := hu.here.ptr
           exact ⟨e, ad, hv, hu⟩
       have hl1 : r1.length ≤ s.length - 1 := by have := congrArg List.length (Qa hp); simp at this; omega
       clear ih1
       have hd : ∃ g : Fm, pre s = some (g, r1) ∧ ∀ (w : World) (b bp : Nat) (u : Value), Blk w b [.int .u8 ((s.getD 0 0).toNat : Int), str g.enc, .slice (some ⟨bp, 0, none⟩) 1 1] → Blk w bp [u] → EFm w u f → EFm w (.pointer (some ⟨b, 0, none⟩)) g := by
         rw [hc]
         rcases c2 with rfl | rfl | rfl
         · exact ⟨.neg f, by rw [es]; exact pre_neg hp, fun w b bp u h1 h2 h3 => ⟨b, bp, u, rfl, h1, h2, h3⟩⟩
         · exact ⟨.S f, by rw [es]; exact pre_S hp, fun w b bp u h1 h2 h3 => ⟨b, bp, u, rfl, h1, h2, h3⟩⟩
         · exact ⟨.A f, by rw [es]; exact pre_A hp, fun w b bp u h1 h2 h3 => ⟨b, bp, u, rfl, h1, h2, h3⟩⟩
       obtain ⟨g, hp', hg⟩ := hd
       clear es
       refine Xp Tryz.func190 Z Tryz.results190 Tryz.ntmps190 Z ?_
       focus
         refine Zp<|Ub Z<|Yj Z<|Zn<|Zq<|Zp<|Vo Z<|Wo Z (Vc Z Z)<|Zn<|Vj Z fun h1 => ?_; refine Zv<|Zq<|Vf<|Vo Z<|Wo Z (Yt (l := 1) Kr Z Z Ka) ?_; refine Yj Z<|Zn<|Zp<|Vo Z<|Wo Z (Vl (k := 0) Kr Z Z Ka) ?_; refine Wo Z (Vs (ps := [(0, .int _ _)]) (cs := [_, _, _]) Sm Z Z)<|Yl Z Z Z ?_; rintro b1 w1 hb1 E1 hB1; have hlb1 := hB1.lt; have hs1 := E1.size; refine Ub Z<|Zn<|Zq<|Zp<|Vo Z<|Wo Z (Vl (k := 0) Kr Z Z Ka) ?_; refine Zn<|Zw<|Zp<|Vm Z<|Zz Z<|Zn<|Zt Z fun h2 => ?_
         refine Zq<|Zp<|Vm Z<|Zz Z<|Zn<|Zs Z (fun h3 => ?_) (fun h3 => ?_); refine Zv<|Zs Z (fun h4 => ?_) (fun h4 => ?_); refine Zp<|Vo Z<|Zr Z (Vx (a := .string _) Jk Z) (ih2 _) ?_; rintro _ w2 ⟨E2, y1, rfl, hy1⟩; have hs2 := E2.size; refine Xl Z<|Tu Z<|Rs Z<|Ub Z<|Yj Z<|Zn<|Zq<|Zp<|Qc Z<|Wo Z (Uf Jj Z Z)<|Zn<|Zx Z ?_; refine Zv<|Zp<|Qc Z<|Qc Z<|Xm (ps := [(0, .pointer _)]) (cs := [_]) Z Gg Gh Zl Z Z Z Z ?_; rintro b2 w3 hb2 E3 hB2; refine Wo Z (Xe Z)<|Vn Ji Ju Z<|Xk (v := .slice _ _ _) Z Ju Z Z Z (hB1.ext exq) Ki Ka exq ?_
         rintro w4 E4 hB1 K1 hz1; simp only [List.set] at hB1; have hy1 := (hy1.ext E3).keep (fun k h1 h2 => K1 k Ka) Ka; have hB2 := hB2.of_heap (K1 _ Ka); refine Zn<|Vf<|Vo Z<|Yj Z<|Zn<|Zp<|Qc Z<|Vo Z<|Vo Z<|Wo Z (Yc Kr Z)<|Vo Z<|Wo Z (Yc Kr Z)<|Qm Z<|Wo Z (Qd Kr Z Z Ka) ?_; refine Wo Z (Xe Z)<|Vn Ji Ku Z<|Xk (v := .string _) Z Ku Z Z Z hB1 Ki Ka E4 ?_; rintro w5 E5 hB1 K2 hz2; simp only [List.set] at hB1; have hy1 := hy1.keep (fun k h1 h2 => K2 k Ka) Ka; have hB2 := hB2.of_heap (K2 _ Ka); refine Zn<|Zp<|Qc Z<|Vo Z<|Ub Z<|Yj Z<|Zn<|Zy ?_
         refine Ve (v := .tuple #[.pointer _, .string _]) Z ?_; rotate_left; contradiction; refine Zp<|Vm Z<|Zz Z<|Zn<|Zs Z (fun h4 => ?_) (fun h4 => ?_); refine Zv<|Zs Z (fun h5 => ?_) (fun h5 => ?_); refine Zp<|Vo Z<|Zr Z (Vx (a := .string _) Jk Z) (ih2 _) ?_; rintro _ w2 ⟨E2, y1, rfl, hy1⟩; have hs2 := E2.size; refine Xl Z<|Tu Z<|Rs Z<|Ub Z<|Yj Z<|Zn<|Zq<|Zq<|Vf<|Qc Z<|Wo Z (Uf Jj Z Z)<|Zn<|Zx Z ?_; refine Zv<|Zq<|Vf<|Qc Z<|Qc Z<|Xm (ps := [(0, .pointer _)]) (cs := [_]) Z Gg Gh Zl Z Z Z Z ?_; rintro b2 w3 hb2 E3 hB2
         refine Wo Z (Xe Z)<|Vn Ji Ju Z<|Xk (v := .slice _ _ _) Z Ju Z Z Z (hB1.ext exq) Ki Ka exq ?_; rintro w4 E4 hB1 K1 hz1; simp only [List.set] at hB1; have hy1 := (hy1.ext E3).keep (fun k h1 h2 => K1 k Ka) Ka; have hB2 := hB2.of_heap (K1 _ Ka); refine Zn<|Vf<|Vo Z<|Yj Z<|Zn<|Zp<|Qc Z<|Vo Z<|Vo Z<|Wo Z (Yc Kr Z)<|Vo Z<|Wo Z (Yc Kr Z)<|Qm Z<|Wo Z (Qd Kr Z Z Ka) ?_; refine Wo Z (Xe Z)<|Vn Ji Ku Z<|Xk (v := .string _) Z Ku Z Z Z hB1 Ki Ka E4 ?_; rintro w5 E5 hB1 K2 hz2; simp only [List.set] at hB1
         have hy1 := hy1.keep (fun k h1 h2 => K2 k Ka) Ka; have hB2 := hB2.of_heap (K2 _ Ka); refine Zn<|Zp<|Qc Z<|Vo Z<|Ub Z<|Yj Z<|Zn<|Zy ?_; refine Ve (v := .tuple #[.pointer _, .string _]) Z ?_; rotate_left; contradiction; refine Vf<|Vm Z<|Zz Z<|Zn<|Zs Z (fun h5 => ?_) (fun h5 => ?_); refine Zp<|Vo Z<|Zr Z (Vx (a := .string _) Jk Z) (ih2 _) ?_; rintro _ w2 ⟨E2, y1, rfl, hy1⟩; have hs2 := E2.size; refine Xl Z<|Tu Z<|Rs Z<|Ub Z<|Yj Z<|Zn<|Zq<|Zp<|Qc Z<|Wo Z (Uf Jj Z Z)<|Zn<|Zx Z ?_; refine Zv<|Zp<|Qc Z<|Qc Z<|Xm (ps := [(0, .pointer _)]) (cs := [_]) Z Gg Gh Zl Z Z Z Z ?_
         rintro b2 w3 hb2 E3 hB2; refine Wo Z (Xe Z)<|Vn Ji Ju Z<|Xk (v := .slice _ _ _) Z Ju Z Z Z (hB1.ext exq) Ki Ka exq ?_; rintro w4 E4 hB1 K1 hz1; simp only [List.set] at hB1; have hy1 := (hy1.ext E3).keep (fun k h1 h2 => K1 k Ka) Ka; have hB2 := hB2.of_heap (K1 _ Ka); refine Zn<|Vf<|Vo Z<|Yj Z<|Zn<|Zp<|Qc Z<|Vo Z<|Vo Z<|Wo Z (Yc Kr Z)<|Vo Z<|Wo Z (Yc Kr Z)<|Qm Z<|Wo Z (Qd Kr Z Z Ka) ?_; refine Wo Z (Xe Z)<|Vn Ji Ku Z<|Xk (v := .string _) Z Ku Z Z Z hB1 Ki Ka E4 ?_; rintro w5 E5 hB1 K2 hz2; simp only [List.set] at hB1
         have hy1 := hy1.keep (fun k h1 h2 => K2 k Ka) Ka; have hB2 := hB2.of_heap (K2 _ Ka); refine Zn<|Zp<|Qc Z<|Vo Z<|Ub Z<|Yj Z<|Zn<|Zy ?_; refine Ve (v := .tuple #[.pointer _, .string _]) Z ?_; rotate_left; (exfalso; omega)
       all_goals
         refine ⟨Kd, ?_⟩
         rw [hp']
         refine ⟨_, Z, fun w6 k hs => hg w6 b1 b2 _ ((hB1.keep k hb1).cast ?_) (hB2.keep k Ka) (hy1 w6 (k.mono Ka) Ka)⟩
         rw [fin _ _ (Qa hp')]
   by_cases c3 : c = 40
   · subst c3
     have hn : (s.getD 0 0).toNat = 40 := by rw [hc]; rfl
     cases hp : pre (s.drop 1) with
     | none =>
       have ih2 : ∀ w, Does Tryz.prog 190 [str (s.drop 1)] w (Ret w (.tuple #[.pointer none, str (s.drop 1)])) := fun w =>
         (ih1 w).mono fun v w' ⟨e, h⟩ => ⟨by rw [hp] at h; exact h, e⟩
       have hp' : pre s = none := by rw [es]; exact pre_br1 hp
       clear es ih1
       refine Xp Tryz.func190 Z Tryz.results190 Tryz.ntmps190 Z ?_
       focus
         refine Zp<|Ub Z<|Yj Z<|Zn<|Zq<|Zp<|Vo Z<|Wo Z (Vc Z Z)<|Zn<|Vj Z fun h1 => ?_; refine Zv<|Zq<|Vf<|Vo Z<|Wo Z (Yt (l := 1) Kr Z Z Ka) ?_; refine Yj Z<|Zn<|Zp<|Vo Z<|Wo Z (Vl (k := 0) Kr Z Z Ka) ?_; refine Wo Z (Vs (ps := [(0, .int _ _)]) (cs := [_, _, _]) Sm Z Z)<|Yl Z Z Z ?_; rintro b1 w1 hb1 E1 hB1; refine Ub Z<|Zn<|Zq<|Zp<|Vo Z<|Wo Z (Vl (k := 0) Kr Z Z Ka) ?_; refine Zn<|Zw<|Zp<|Vm Z<|Zz Z<|Zn<|Zt Z fun h2 => ?_; refine Zq<|Zp<|Vm Z<|Zz Z<|Zn<|Zt Z fun h3 => ?_
         refine Zp<|Vm Z<|Zz Z<|Zn<|Zt Z fun h4 => ?_; refine Vf<|Vm Z<|Zz Z<|Zn<|Zt Z fun h5 => ?_; refine Zp<|Vm Z<|Zz Z<|Zn<|Zs Z (fun h6 => ?_) (fun h6 => ?_); refine Zp<|Vo Z<|Zr Z (Vx (a := .string _) Jk Z) (ih2 _) ?_; rintro _ w2 ⟨rfl, E2⟩; refine Xl Z<|Tu Z<|Rs Z<|Ub Z<|Yj Z<|Zn<|Zq<|Zq<|Vf<|Qc Z<|Wo Z (Sk Jj Z Z)<|Yi Z<|Zo Z<|Zo Z<|Yq Z<|Yi Z<|Zo Z<|Zo Z<|Zo Z<|Zo Z<|Zo Z<|Zo Z<|Zo Z<|Zo Z<|Yq Z<|Zn<|Vv Z ?_; refine Zp<|Vo Z<|Ub Z<|Yj Z<|Zn<|Zy ?_; refine Ve (v := .tuple #[.pointer _, .string _]) Z ?_
         rotate_left; (exfalso; omega)
       all_goals exact ⟨E1.trans E2, by rw [hp']⟩
     | some q =>
       obtain ⟨f, r1⟩ := q
       have ih2 : ∀ w, Does Tryz.prog 190 [str (s.drop 1)] w (RetX w (fun ad => .tuple #[.pointer (some ad), str r1]) fun ad w' => Above w.heap.size EFm w' (.pointer (some ad)) f) := fun w =>
         (ih1 w).mono fun v w' ⟨e, h⟩ => by
           rw [hp] at h
           obtain ⟨u, hv, hu⟩ := h
           obtain ⟨ad, rfl⟩ := hu.here.ptr
           exact ⟨e, ad, hv, hu⟩
       have hl1 : r1.length + f.enc.length = s.length - 1 := by have := congrArg List.length (Qa hp); simp at this; omega
       clear ih1
       by_cases r0 : r1 = []
       · have hp' : pre s = none := by rw [es]; exact pre_br2 hp (by rintro c r2 rfl; cases r0)
         subst r0
         clear es
         refine Xp Tryz.func190 Z Tryz.results190 Tryz.ntmps190 Z ?_
         focus
           refine Zp<|Ub Z<|Yj Z<|Zn<|Zq<|Zp<|Vo Z<|Wo Z (Vc Z Z)<|Zn<|Vj Z fun h1 => ?_; refine Zv<|Zq<|Vf<|Vo Z<|Wo Z (Yt (l := 1) Kr Z Z Ka) ?_; refine Yj Z<|Zn<|Zp<|Vo Z<|Wo Z (Vl (k := 0) Kr Z Z Ka) ?_; refine Wo Z (Vs (ps := [(0, .int _ _)]) (cs := [_, _, _]) Sm Z Z)<|Yl Z Z Z ?_; rintro b1 w1 hb1 E1 hB1; refine Ub Z<|Zn<|Zq<|Zp<|Vo Z<|Wo Z (Vl (k := 0) Kr Z Z Ka) ?_; refine Zn<|Zw<|Zp<|Vm Z<|Zz Z<|Zn<|Zt Z fun h2 => ?_; refine Zq<|Zp<|Vm Z<|Zz Z<|Zn<|Zt Z fun h3 => ?_
           refine Zp<|Vm Z<|Zz Z<|Zn<|Zt Z fun h4 => ?_; refine Vf<|Vm Z<|Zz Z<|Zn<|Zt Z fun h5 => ?_; refine Zp<|Vm Z<|Zz Z<|Zn<|Zs Z (fun h6 => ?_) (fun h6 => ?_); refine Zp<|Vo Z<|Zr Z (Vx (a := .string _) Jk Z) (ih2 _) ?_; rintro _ w2 ⟨E2, y1, rfl, hy1⟩; refine Xl Z<|Tu Z<|Rs Z<|Ub Z<|Yj Z<|Zn<|Zq<|Zq<|Vf<|Qc Z<|Wo Z (Uf Jj Z Z)<|Yi Z<|Vo Z<|Wo Z (Vc Z Z)<|Vp Z<|Yf Z (fun h7 => ?_) (fun h7 => ?_); refine Zo Z<|Zo Z<|Zo Z<|Zo Z<|Zo Z<|Zo Z<|Zo Z<|Zo Z<|Yq Z<|Zn<|Vv Z ?_; refine Zp<|Vo Z<|Ub Z<|Yj Z<|Zn<|Zy ?_
           refine Ve (v := .tuple #[.pointer _, .string _]) Z ?_; rotate_left; contradiction; (exfalso; omega)
         all_goals exact ⟨E1.trans E2, by rw [hp']⟩
       have hr1 : 0 < r1.length := List.length_pos_iff.2 r0
       have er : r1 = r1.getD 0 0 :: r1.drop 1 := by have := Tv hr1; simpa using this
       have hr1l : (r1.drop 1).length = r1.length - 1 := Ki
       generalize hd : r1.getD 0 0 = d at er
       by_cases c4 : d = 38 ∨ d = 124
       · have hn2 : (r1.getD 0 0).toNat = 38 ∨ (r1.getD 0 0).toNat = 124 := by rw [hd]; rcases c4 with rfl | rfl <;> simp
         have ih3 : ∀ w, Does Tryz.prog 190 [str (r1.drop 1)] w (PartP w (r1.drop 1)) := fun w => ih _ w (by unfold lim; omega) Ka
         rw [er] at hp
         cases hp2 : pre (r1.drop 1) with
         | none =>
           have ih4 : ∀ w, Does Tryz.prog 190 [str (r1.drop 1)] w (Ret w (.tuple #[.pointer none, str (r1.drop 1)])) := fun w =>
             (ih3 w).mono fun v w' ⟨e, h⟩ => ⟨by rw [hp2] at h; exact h, e⟩
           have hp' : pre s = none := by rw [es]; exact pre_br3 hp hp2
           clear es er ih3
           refine Xp Tryz.func190 Z Tryz.results190 Tryz.ntmps190 Z ?_
           focus
             refine Zp<|Ub Z<|Yj Z<|Zn<|Zq<|Zp<|Vo Z<|Wo Z (Vc Z Z)<|Zn<|Vj Z fun h1 => ?_; refine Zv<|Zq<|Vf<|Vo Z<|Wo Z (Yt (l := 1) Kr Z Z Ka) ?_; refine Yj Z<|Zn<|Zp<|Vo Z<|Wo Z (Vl (k := 0) Kr Z Z Ka) ?_; refine Wo Z (Vs (ps := [(0, .int _ _)]) (cs := [_, _, _]) Sm Z Z)<|Yl Z Z Z ?_; rintro b1 w1 hb1 E1 hB1; refine Ub Z<|Zn<|Zq<|Zp<|Vo Z<|Wo Z (Vl (k := 0) Kr Z Z Ka) ?_; refine Zn<|Zw<|Zp<|Vm Z<|Zz Z<|Zn<|Zt Z fun h2 => ?_; refine Zq<|Zp<|Vm Z<|Zz Z<|Zn<|Zt Z fun h3 => ?_
             refine Zp<|Vm Z<|Zz Z<|Zn<|Zt Z fun h4 => ?_; refine Vf<|Vm Z<|Zz Z<|Zn<|Zt Z fun h5 => ?_; refine Zp<|Vm Z<|Zz Z<|Zn<|Zs Z (fun h6 => ?_) (fun h6 => ?_); refine Zp<|Vo Z<|Zr Z (Vx (a := .string _) Jk Z) (ih2 _) ?_; rintro _ w2 ⟨E2, y1, rfl, hy1⟩; refine Xl Z<|Tu Z<|Rs Z<|Ub Z<|Yj Z<|Zn<|Zq<|Zq<|Vf<|Qc Z<|Wo Z (Uf Jj Z Z)<|Yi Z<|Vo Z<|Wo Z (Vc Z Z)<|Vp Z<|Yw Z fun h7 => ?_; refine Vo Z<|Wo Z (Vl (k := 0) Kr Z Z Ka) ?_; refine Xo Z<|Uh Z (fun h8 => ?_) (fun h8 => ?_); refine Vo Z<|Wo Z (Vl (k := 0) Kr Z Z Ka) ?_
             refine Xo Z<|Yq Z<|Vp Z<|Zn<|Xt Z fun h9 => ?_; refine Zv<|Zp<|Vo Z<|Wo Z (Yt (l := 1) Kr Z Z Ka) ?_; refine Zr Z (Vx (a := .string _) Jk Z) (ih4 _) ?_; rintro _ w3 ⟨rfl, E3⟩; refine Xl Z<|Tu Z<|Rs Z<|Ub Z<|Yj Z<|Zn<|Zq<|Zq<|Vf<|Qc Z<|Wo Z (Sk Jj Z Z)<|Yi Z<|Zo Z<|Zo Z<|Yq Z<|Yi Z<|Zo Z<|Zo Z<|Zo Z<|Yq Z<|Zn<|Vv Z ?_; refine Zp<|Vo Z<|Ub Z<|Yj Z<|Zn<|Zy ?_; refine Ve (v := .tuple #[.pointer _, .string _]) Z ?_; rotate_left; refine Zo Z<|Zo Z<|Zo Z<|Vp Z<|Vp Z<|Zn<|Zx Z ?_
             refine Zv<|Zp<|Vo Z<|Wo Z (Yt (l := 1) Kr Z Z Ka) ?_; refine Zr Z (Vx (a := .string _) Jk Z) (ih4 _) ?_; rintro _ w3 ⟨rfl, E3⟩; refine Xl Z<|Tu Z<|Rs Z<|Ub Z<|Yj Z<|Zn<|Zq<|Zp<|Qc Z<|Wo Z (Sk Jj Z Z)<|Yi Z<|Zo Z<|Zo Z<|Yq Z<|Yi Z<|Zo Z<|Zo Z<|Zo Z<|Yq Z<|Zn<|Vv Z ?_; refine Zq<|Vf<|Vo Z<|Ub Z<|Yj Z<|Zn<|Zy ?_; refine Ve (v := .tuple #[.pointer _, .string _]) Z ?_; rotate_left; (exfalso; omega)
           all_goals exact ⟨(E1.trans E2).trans E3, by rw [hp']⟩
         | some q2 =>
           obtain ⟨g, r3⟩ := q2
           have ih4 : ∀ w, Does Tryz.prog 190 [str (r1.drop 1)] w (RetX w (fun ad => .tuple #[.pointer (some ad), str r3]) fun ad w' => Above w.heap.size EFm w' (.pointer (some ad)) g) := fun w =>
             (ih3 w).mono fun v w' ⟨e, h⟩ => by
               rw [hp2] at h
               obtain ⟨u, hv, hu⟩ := h
               obtain ⟨ad, rfl⟩ := hu.here.ptr
               exact ⟨e, ad, hv, hu⟩
           have hl3 : r3.length + g.enc.length = r1.length - 1 := by have := congrArg List.length (Qa hp2); simp at this; omega
           clear ih3
           by_cases r0' : r3 = []
           · have hp' : pre s = none := by rw [es]; exact pre_br4 hp hp2 (by rintro r4 rfl; cases r0')
             subst r0'
             clear es er
             refine Xp Tryz.func190 Z Tryz.results190 Tryz.ntmps190 Z ?_
             focus
               refine Zp<|Ub Z<|Yj Z<|Zn<|Zq<|Zp<|Vo Z<|Wo Z (Vc Z Z)<|Zn<|Vj Z fun h1 => ?_; refine Zv<|Zq<|Vf<|Vo Z<|Wo Z (Yt (l := 1) Kr Z Z Ka) ?_; refine Yj Z<|Zn<|Zp<|Vo Z<|Wo Z (Vl (k := 0) Kr Z Z Ka) ?_; refine Wo Z (Vs (ps := [(0, .int _ _)]) (cs := [_, _, _]) Sm Z Z)<|Yl Z Z Z ?_; rintro b1 w1 hb1 E1 hB1; refine Ub Z<|Zn<|Zq<|Zp<|Vo Z<|Wo Z (Vl (k := 0) Kr Z Z Ka) ?_; refine Zn<|Zw<|Zp<|Vm Z<|Zz Z<|Zn<|Zt Z fun h2 => ?_; refine Zq<|Zp<|Vm Z<|Zz Z<|Zn<|Zt Z fun h3 => ?_
               refine Zp<|Vm Z<|Zz Z<|Zn<|Zt Z fun h4 => ?_; refine Vf<|Vm Z<|Zz Z<|Zn<|Zt Z fun h5 => ?_; refine Zp<|Vm Z<|Zz Z<|Zn<|Zs Z (fun h6 => ?_) (fun h6 => ?_); refine Zp<|Vo Z<|Zr Z (Vx (a := .string _) Jk Z) (ih2 _) ?_; rintro _ w2 ⟨E2, y1, rfl, hy1⟩; refine Xl Z<|Tu Z<|Rs Z<|Ub Z<|Yj Z<|Zn<|Zq<|Zq<|Vf<|Qc Z<|Wo Z (Uf Jj Z Z)<|Yi Z<|Vo Z<|Wo Z (Vc Z Z)<|Vp Z<|Yw Z fun h7 => ?_; refine Vo Z<|Wo Z (Vl (k := 0) Kr Z Z Ka) ?_; refine Xo Z<|Uh Z (fun h8 => ?_) (fun h8 => ?_); refine Vo Z<|Wo Z (Vl (k := 0) Kr Z Z Ka) ?_
               refine Xo Z<|Yq Z<|Vp Z<|Zn<|Xt Z fun h9 => ?_; refine Zv<|Zp<|Vo Z<|Wo Z (Yt (l := 1) Kr Z Z Ka) ?_; refine Zr Z (Vx (a := .string _) Jk Z) (ih4 _) ?_; rintro _ w3 ⟨E3, y2, rfl, hy2⟩; refine Xl Z<|Tu Z<|Rs Z<|Ub Z<|Yj Z<|Zn<|Zq<|Zq<|Vf<|Qc Z<|Wo Z (Uf Jj Z Z)<|Yi Z<|Vo Z<|Wo Z (Vc Z Z)<|Vp Z<|Yf Z (fun h10 => ?_) (fun h10 => ?_); refine Zo Z<|Zo Z<|Zo Z<|Yq Z<|Zn<|Vv Z ?_; refine Zp<|Vo Z<|Ub Z<|Yj Z<|Zn<|Zy ?_; refine Ve (v := .tuple #[.pointer _, .string _]) Z ?_; rotate_left; contradiction
               refine Zo Z<|Zo Z<|Zo Z<|Vp Z<|Vp Z<|Zn<|Zx Z ?_; refine Zv<|Zp<|Vo Z<|Wo Z (Yt (l := 1) Kr Z Z Ka) ?_; refine Zr Z (Vx (a := .string _) Jk Z) (ih4 _) ?_; rintro _ w3 ⟨E3, y2, rfl, hy2⟩; refine Xl Z<|Tu Z<|Rs Z<|Ub Z<|Yj Z<|Zn<|Zq<|Zq<|Vf<|Qc Z<|Wo Z (Uf Jj Z Z)<|Yi Z<|Vo Z<|Wo Z (Vc Z Z)<|Vp Z<|Yf Z (fun h9 => ?_) (fun h9 => ?_); refine Zo Z<|Zo Z<|Zo Z<|Yq Z<|Zn<|Vv Z ?_; refine Zp<|Vo Z<|Ub Z<|Yj Z<|Zn<|Zy ?_; refine Ve (v := .tuple #[.pointer _, .string _]) Z ?_; rotate_left; contradiction; (exfalso; omega)
             all_goals exact ⟨(E1.trans E2).trans E3, by rw [hp']⟩
           have hr3 : 0 < r3.length := List.length_pos_iff.2 r0'
           have er3 : r3 = r3.getD 0 0 :: r3.drop 1 := by have := Tv hr3; simpa using this
           have hr3l : (r3.drop 1).length = r3.length - 1 := Ki
           generalize hd3 : r3.getD 0 0 = d3 at er3
           by_cases c5 : d3 = 41
           · have hn3 : (r3.getD 0 0).toNat = 41 := by rw [hd3, c5]; rfl
             have hh : ∃ k : Fm, pre s = some (k, r3.drop 1) ∧ ∀ (w : World) (b bp : Nat) (u u' : Value), Blk w b [.int .u8 ((r1.getD 0 0).toNat : Int), str k.enc, .slice (some ⟨bp, 0, none⟩) 2 2] → Blk w bp [u, u'] → EFm w u f → EFm w u' g → EFm w (.pointer (some ⟨b, 0, none⟩)) k := by
               rw [hd]
               rw [er3, c5] at hp2
               rcases c4 with rfl | rfl
               · exact ⟨.and f g, by rw [es]; exact pre_and hp hp2, fun w b bp u u' h1 h2 h3 h4 => ⟨b, bp, u, u', rfl, h1, h2, h3, h4⟩⟩
               · exact ⟨.or f g, by rw [es]; exact pre_or hp hp2, fun w b bp u u' h1 h2 h3 h4 => ⟨b, bp, u, u', rfl, h1, h2, h3, h4⟩⟩
             obtain ⟨k, hp', hg⟩ := hh
             clear es er er3 c5
             refine Xp Tryz.func190 Z Tryz.results190 Tryz.ntmps190 Z ?_
             focus
               refine Zp<|Ub Z<|Yj Z<|Zn<|Zq<|Zp<|Vo Z<|Wo Z (Vc Z Z)<|Zn<|Vj Z fun h1 => ?_; refine Zv<|Zq<|Vf<|Vo Z<|Wo Z (Yt (l := 1) Kr Z Z Ka) ?_; refine Yj Z<|Zn<|Zp<|Vo Z<|Wo Z (Vl (k := 0) Kr Z Z Ka) ?_; refine Wo Z (Vs (ps := [(0, .int _ _)]) (cs := [_, _, _]) Sm Z Z)<|Yl Z Z Z ?_; rintro b1 w1 hb1 E1 hB1; have hlb1 := hB1.lt; have hs1 := E1.size; refine Ub Z<|Zn<|Zq<|Zp<|Vo Z<|Wo Z (Vl (k := 0) Kr Z Z Ka) ?_; refine Zn<|Zw<|Zp<|Vm Z<|Zz Z<|Zn<|Zt Z fun h2 => ?_; refine Zq<|Zp<|Vm Z<|Zz Z<|Zn<|Zt Z fun h3 => ?_
               refine Zp<|Vm Z<|Zz Z<|Zn<|Zt Z fun h4 => ?_; refine Vf<|Vm Z<|Zz Z<|Zn<|Zt Z fun h5 => ?_; refine Zp<|Vm Z<|Zz Z<|Zn<|Zs Z (fun h6 => ?_) (fun h6 => ?_); refine Zp<|Vo Z<|Zr Z (Vx (a := .string _) Jk Z) (ih2 _) ?_; rintro _ w2 ⟨E2, y1, rfl, hy1⟩; have hs2 := E2.size; refine Xl Z<|Tu Z<|Rs Z<|Ub Z<|Yj Z<|Zn<|Zq<|Zq<|Vf<|Qc Z<|Wo Z (Uf Jj Z Z)<|Yi Z<|Vo Z<|Wo Z (Vc Z Z)<|Vp Z<|Yw Z fun h7 => ?_; refine Vo Z<|Wo Z (Vl (k := 0) Kr Z Z Ka) ?_; refine Xo Z<|Uh Z (fun h8 => ?_) (fun h8 => ?_)
               refine Vo Z<|Wo Z (Vl (k := 0) Kr Z Z Ka) ?_; refine Xo Z<|Yq Z<|Vp Z<|Zn<|Xt Z fun h9 => ?_; refine Zv<|Zp<|Vo Z<|Wo Z (Yt (l := 1) Kr Z Z Ka) ?_; refine Zr Z (Vx (a := .string _) Jk Z) (ih4 _) ?_; rintro _ w3 ⟨E3, y2, rfl, hy2⟩; have hs3 := E3.size; refine Xl Z<|Tu Z<|Rs Z<|Ub Z<|Yj Z<|Zn<|Zq<|Zq<|Vf<|Qc Z<|Wo Z (Uf Jj Z Z)<|Yi Z<|Vo Z<|Wo Z (Vc Z Z)<|Vp Z<|Yw Z fun h10 => ?_; refine Vo Z<|Wo Z (Vl (k := 0) Kr Z Z Ka) ?_; refine Xo Z<|Vp Z<|Zn<|Xt Z fun h11 => ?_
               refine Zv<|Zp<|Qc Z<|Vo Z<|Wo Z (Vl (k := 0) Kr Z Z Ka) ?_; refine Wo Z (Xe Z)<|Vn Ji Ga Z<|Xk (v := .int _ _) Z Ga Z Z Z (hB1.ext exq) Ki Ka exq ?_; rintro w4 E4 hB1 K1 hz1; simp only [List.set] at hB1; have hy1 := (hy1.ext E3).keep (fun k h1 h2 => K1 k Ka) Ka; have hy2 := hy2.keep (fun k h1 h2 => K1 k Ka) Ka; refine Zn<|Zq<|Vf<|Qc Z<|Qc Z<|Qc Z<|Xm (ps := [(0, .pointer _), (1, .pointer _)]) (cs := [_, _]) Z Gg Gh Zl Z Z Z Z ?_; rintro b2 w5 hb2 E5 hB2
               refine Wo Z (Xe Z)<|Vn Ji Ju Z<|Xk (v := .slice _ _ _) Z Ju Z Z Z (hB1.ext E5) Ki Ka exq ?_; rintro w6 E6 hB1 K2 hz2; simp only [List.set] at hB1; have hy1 := (hy1.ext E5).keep (fun k h1 h2 => K2 k Ka) Ka; have hy2 := (hy2.ext E5).keep (fun k h1 h2 => K2 k Ka) Ka; have hB2 := hB2.of_heap (K2 _ Ka); refine Zn<|Vf<|Vo Z<|Wo Z (Yt (l := 1) Kr Z Z Ka) ?_; refine Yj Z<|Zn<|Zp<|Qc Z<|Vo Z<|Vo Z<|Wo Z (Yc Kr Z)<|Vo Z<|Wo Z (Yc Kr Z)<|Qm Z<|Wo Z (Qd Kr Z Z Ka) ?_
               refine Wo Z (Xe Z)<|Vn Ji Ku Z<|Xk (v := .string _) Z Ku Z Z Z hB1 Ki Ka E6 ?_; rintro w7 E7 hB1 K3 hz3; simp only [List.set] at hB1; have hy1 := hy1.keep (fun k h1 h2 => K3 k Ka) Ka; have hy2 := hy2.keep (fun k h1 h2 => K3 k Ka) Ka; have hB2 := hB2.of_heap (K3 _ Ka); refine Zn<|Zp<|Qc Z<|Vo Z<|Ub Z<|Yj Z<|Zn<|Zy ?_; refine Ve (v := .tuple #[.pointer _, .string _]) Z ?_; rotate_left; refine Zo Z<|Zo Z<|Zo Z<|Vp Z<|Vp Z<|Zn<|Zx Z ?_; refine Zv<|Zp<|Vo Z<|Wo Z (Yt (l := 1) Kr Z Z Ka) ?_; refine Zr Z (Vx (a := .string _) Jk Z) (ih4 _) ?_; rintro _ w3 ⟨E3, y2, rfl, hy2⟩
               have hs3 := E3.size; refine Xl Z<|Tu Z<|Rs Z<|Ub Z<|Yj Z<|Zn<|Zq<|Zp<|Qc Z<|Wo Z (Uf Jj Z Z)<|Yi Z<|Vo Z<|Wo Z (Vc Z Z)<|Vp Z<|Yw Z fun h9 => ?_; refine Vo Z<|Wo Z (Vl (k := 0) Kr Z Z Ka) ?_; refine Xo Z<|Vp Z<|Zn<|Xt Z fun h10 => ?_; refine Zv<|Zp<|Qc Z<|Vo Z<|Wo Z (Vl (k := 0) Kr Z Z Ka) ?_; refine Wo Z (Xe Z)<|Vn Ji Ga Z<|Xk (v := .int _ _) Z Ga Z Z Z (hB1.ext exq) Ki Ka exq ?_; rintro w4 E4 hB1 K1 hz1; simp only [List.set] at hB1; have hy1 := (hy1.ext E3).keep (fun k h1 h2 => K1 k Ka) Ka
               have hy2 := hy2.keep (fun k h1 h2 => K1 k Ka) Ka; refine Zn<|Zp<|Qc Z<|Qc Z<|Qc Z<|Xm (ps := [(0, .pointer _), (1, .pointer _)]) (cs := [_, _]) Z Gg Gh Zl Z Z Z Z ?_; rintro b2 w5 hb2 E5 hB2; refine Wo Z (Xe Z)<|Vn Ji Ju Z<|Xk (v := .slice _ _ _) Z Ju Z Z Z (hB1.ext E5) Ki Ka exq ?_; rintro w6 E6 hB1 K2 hz2; simp only [List.set] at hB1; have hy1 := (hy1.ext E5).keep (fun k h1 h2 => K2 k Ka) Ka; have hy2 := (hy2.ext E5).keep (fun k h1 h2 => K2 k Ka) Ka; have hB2 := hB2.of_heap (K2 _ Ka); refine Zn<|Vf<|Vo Z<|Wo Z (Yt (l := 1) Kr Z Z Ka) ?_
               refine Yj Z<|Zn<|Zp<|Qc Z<|Vo Z<|Vo Z<|Wo Z (Yc Kr Z)<|Vo Z<|Wo Z (Yc Kr Z)<|Qm Z<|Wo Z (Qd Kr Z Z Ka) ?_; refine Wo Z (Xe Z)<|Vn Ji Ku Z<|Xk (v := .string _) Z Ku Z Z Z hB1 Ki Ka E6 ?_; rintro w7 E7 hB1 K3 hz3; simp only [List.set] at hB1; have hy1 := hy1.keep (fun k h1 h2 => K3 k Ka) Ka; have hy2 := hy2.keep (fun k h1 h2 => K3 k Ka) Ka; have hB2 := hB2.of_heap (K3 _ Ka); refine Zn<|Zp<|Qc Z<|Vo Z<|Ub Z<|Yj Z<|Zn<|Zy ?_; refine Ve (v := .tuple #[.pointer _, .string _]) Z ?_; rotate_left; (exfalso; omega)
             all_goals
               refine ⟨Kd, ?_⟩
               rw [hp']
               refine ⟨_, Z, fun w9 q hs => hg w9 b1 b2 _ _ ((hB1.keep q hb1).cast ?_) (hB2.keep q Ka) (hy1 w9 (q.mono Ka) Ka) (hy2 w9 (q.mono Ka) Ka)⟩
               rw [fin _ _ (Qa hp')]
           · have hn3 : (r3.getD 0 0).toNat ≠ 41 := by rw [hd3]; exact fun h => c5 (UInt8.toNat_inj.1 h)
             have hp' : pre s = none := by rw [es]; exact pre_br4 hp hp2 (by intro r4 h; rw [h] at er3; exact c5 (List.cons.inj er3).1.symm)
             clear es er er3
             refine Xp Tryz.func190 Z Tryz.results190 Tryz.ntmps190 Z ?_
             focus
               refine Zp<|Ub Z<|Yj Z<|Zn<|Zq<|Zp<|Vo Z<|Wo Z (Vc Z Z)<|Zn<|Vj Z fun h1 => ?_; refine Zv<|Zq<|Vf<|Vo Z<|Wo Z (Yt (l := 1) Kr Z Z Ka) ?_; refine Yj Z<|Zn<|Zp<|Vo Z<|Wo Z (Vl (k := 0) Kr Z Z Ka) ?_; refine Wo Z (Vs (ps := [(0, .int _ _)]) (cs := [_, _, _]) Sm Z Z)<|Yl Z Z Z ?_; rintro b1 w1 hb1 E1 hB1; refine Ub Z<|Zn<|Zq<|Zp<|Vo Z<|Wo Z (Vl (k := 0) Kr Z Z Ka) ?_; refine Zn<|Zw<|Zp<|Vm Z<|Zz Z<|Zn<|Zt Z fun h2 => ?_; refine Zq<|Zp<|Vm Z<|Zz Z<|Zn<|Zt Z fun h3 => ?_
               refine Zp<|Vm Z<|Zz Z<|Zn<|Zt Z fun h4 => ?_; refine Vf<|Vm Z<|Zz Z<|Zn<|Zt Z fun h5 => ?_; refine Zp<|Vm Z<|Zz Z<|Zn<|Zs Z (fun h6 => ?_) (fun h6 => ?_); refine Zp<|Vo Z<|Zr Z (Vx (a := .string _) Jk Z) (ih2 _) ?_; rintro _ w2 ⟨E2, y1, rfl, hy1⟩; refine Xl Z<|Tu Z<|Rs Z<|Ub Z<|Yj Z<|Zn<|Zq<|Zq<|Vf<|Qc Z<|Wo Z (Uf Jj Z Z)<|Yi Z<|Vo Z<|Wo Z (Vc Z Z)<|Vp Z<|Yw Z fun h7 => ?_; refine Vo Z<|Wo Z (Vl (k := 0) Kr Z Z Ka) ?_; refine Xo Z<|Uh Z (fun h8 => ?_) (fun h8 => ?_); refine Vo Z<|Wo Z (Vl (k := 0) Kr Z Z Ka) ?_
               refine Xo Z<|Yq Z<|Vp Z<|Zn<|Xt Z fun h9 => ?_; refine Zv<|Zp<|Vo Z<|Wo Z (Yt (l := 1) Kr Z Z Ka) ?_; refine Zr Z (Vx (a := .string _) Jk Z) (ih4 _) ?_; rintro _ w3 ⟨E3, y2, rfl, hy2⟩; refine Xl Z<|Tu Z<|Rs Z<|Ub Z<|Yj Z<|Zn<|Zq<|Zq<|Vf<|Qc Z<|Wo Z (Uf Jj Z Z)<|Yi Z<|Vo Z<|Wo Z (Vc Z Z)<|Vp Z<|Yw Z fun h10 => ?_; refine Vo Z<|Wo Z (Vl (k := 0) Kr Z Z Ka) ?_; refine Xo Z<|Vp Z<|Zn<|Vz Z (fun h11 => ?_) (fun h11 => ?_); refine Zp<|Vo Z<|Ub Z<|Yj Z<|Zn<|Zy ?_; refine Ve (v := .tuple #[.pointer _, .string _]) Z ?_; rotate_left
               (exfalso; omega); refine Zo Z<|Zo Z<|Zo Z<|Vp Z<|Vp Z<|Zn<|Zx Z ?_; refine Zv<|Zq<|Vf<|Vo Z<|Wo Z (Yt (l := 1) Kr Z Z Ka) ?_; refine Zr Z (Vx (a := .string _) Jk Z) (ih4 _) ?_; rintro _ w3 ⟨E3, y2, rfl, hy2⟩; refine Xl Z<|Tu Z<|Rs Z<|Ub Z<|Yj Z<|Zn<|Zq<|Zp<|Qc Z<|Wo Z (Uf Jj Z Z)<|Yi Z<|Vo Z<|Wo Z (Vc Z Z)<|Vp Z<|Yw Z fun h9 => ?_; refine Vo Z<|Wo Z (Vl (k := 0) Kr Z Z Ka) ?_; refine Xo Z<|Vp Z<|Zn<|Vz Z (fun h10 => ?_) (fun h10 => ?_); refine Zp<|Vo Z<|Ub Z<|Yj Z<|Zn<|Zy ?_
               refine Ve (v := .tuple #[.pointer _, .string _]) Z ?_; rotate_left; (exfalso; omega); (exfalso; omega)
             all_goals exact ⟨(E1.trans E2).trans E3, by rw [hp']⟩
       · have hn2 : (r1.getD 0 0).toNat ≠ 38 ∧ (r1.getD 0 0).toNat ≠ 124 := by
           rw [hd]; exact ⟨fun h => c4 (.inl (UInt8.toNat_inj.1 h)), fun h => c4 (.inr (UInt8.toNat_inj.1 h))⟩
         have hp' : pre s = none := by
           rw [es]
           refine pre_br2 hp ?_
           intro c r2 h
           rw [h] at er
           obtain ⟨rfl, _⟩ := List.cons.inj er
           exact ⟨fun h => c4 (.inl h), fun h => c4 (.inr h)⟩
         clear es er
         refine Xp Tryz.func190 Z Tryz.results190 Tryz.ntmps190 Z ?_
         focus
           refine Zp<|Ub Z<|Yj Z<|Zn<|Zq<|Zp<|Vo Z<|Wo Z (Vc Z Z)<|Zn<|Vj Z fun h1 => ?_; refine Zv<|Zq<|Vf<|Vo Z<|Wo Z (Yt (l := 1) Kr Z Z Ka) ?_; refine Yj Z<|Zn<|Zp<|Vo Z<|Wo Z (Vl (k := 0) Kr Z Z Ka) ?_; refine Wo Z (Vs (ps := [(0, .int _ _)]) (cs := [_, _, _]) Sm Z Z)<|Yl Z Z Z ?_; rintro b1 w1 hb1 E1 hB1; refine Ub Z<|Zn<|Zq<|Zp<|Vo Z<|Wo Z (Vl (k := 0) Kr Z Z Ka) ?_; refine Zn<|Zw<|Zp<|Vm Z<|Zz Z<|Zn<|Zt Z fun h2 => ?_; refine Zq<|Zp<|Vm Z<|Zz Z<|Zn<|Zt Z fun h3 => ?_
           refine Zp<|Vm Z<|Zz Z<|Zn<|Zt Z fun h4 => ?_; refine Vf<|Vm Z<|Zz Z<|Zn<|Zt Z fun h5 => ?_; refine Zp<|Vm Z<|Zz Z<|Zn<|Zs Z (fun h6 => ?_) (fun h6 => ?_); refine Zp<|Vo Z<|Zr Z (Vx (a := .string _) Jk Z) (ih2 _) ?_; rintro _ w2 ⟨E2, y1, rfl, hy1⟩; refine Xl Z<|Tu Z<|Rs Z<|Ub Z<|Yj Z<|Zn<|Zq<|Zq<|Vf<|Qc Z<|Wo Z (Uf Jj Z Z)<|Yi Z<|Vo Z<|Wo Z (Vc Z Z)<|Vp Z<|Yw Z fun h7 => ?_; refine Vo Z<|Wo Z (Vl (k := 0) Kr Z Z Ka) ?_; refine Xo Z<|Uh Z (fun h8 => ?_) (fun h8 => ?_); refine Vo Z<|Wo Z (Vl (k := 0) Kr Z Z Ka) ?_
           refine Xo Z<|Yq Z<|Vp Z<|Zn<|Vz Z (fun h9 => ?_) (fun h9 => ?_); refine Zq<|Vf<|Vo Z<|Ub Z<|Yj Z<|Zn<|Zy ?_; refine Ve (v := .tuple #[.pointer _, .string _]) Z ?_; rotate_left; (exfalso; omega); (exfalso; omega); (exfalso; omega)
         all_goals exact ⟨E1.trans E2, by rw [hp']⟩
   · have hn : (s.getD 0 0).toNat ≠ 116 ∧ (s.getD 0 0).toNat ≠ 33 ∧ (s.getD 0 0).toNat ≠ 83 ∧ (s.getD 0 0).toNat ≠ 65 ∧ (s.getD 0 0).toNat ≠ 40 := by
       rw [hc]
       refine ⟨fun h => c1 (UInt8.toNat_inj.1 h), fun h => c2 (.inl (UInt8.toNat_inj.1 h)), fun h => c2 (.inr (.inl (UInt8.toNat_inj.1 h))), fun h => c2 (.inr (.inr (UInt8.toNat_inj.1 h))), fun h => c3 (UInt8.toNat_inj.1 h)⟩
     have hp' : pre s = none := by
       rw [es]; exact pre_other ⟨c1, fun h => c2 (.inl h), fun h => c2 (.inr (.inl h)), fun h => c2 (.inr (.inr h)), c3⟩
     clear es
     refine Xp Tryz.func190 Z Tryz.results190 Tryz.ntmps190 Z ?_
     focus
       refine Zp<|Ub Z<|Yj Z<|Zn<|Zq<|Zp<|Vo Z<|Wo Z (Vc Z Z)<|Zn<|Vj Z fun h1 => ?_; refine Zv<|Zq<|Vf<|Vo Z<|Wo Z (Yt (l := 1) Kr Z Z Ka) ?_; refine Yj Z<|Zn<|Zp<|Vo Z<|Wo Z (Vl (k := 0) Kr Z Z Ka) ?_; refine Wo Z (Vs (ps := [(0, .int _ _)]) (cs := [_, _, _]) Sm Z Z)<|Yl Z Z Z ?_; rintro b1 w1 hb1 E1 hB1; refine Ub Z<|Zn<|Zq<|Zp<|Vo Z<|Wo Z (Vl (k := 0) Kr Z Z Ka) ?_; refine Zn<|Zw<|Zp<|Vm Z<|Zz Z<|Zn<|Zt Z fun h2 => ?_; refine Zq<|Zp<|Vm Z<|Zz Z<|Zn<|Zt Z fun h3 => ?_
       refine Zp<|Vm Z<|Zz Z<|Zn<|Zt Z fun h4 => ?_; refine Vf<|Vm Z<|Zz Z<|Zn<|Zt Z fun h5 => ?_; refine Zp<|Vm Z<|Zz Z<|Zn<|Zt Z fun h6 => ?_; refine Zp<|Vo Z<|Ub Z<|Yj Z<|Zn<|Zy ?_; refine Ve (v := .tuple #[.pointer _, .string _]) Z ?_
     exact ⟨E1, by rw [hp']⟩
theorem Nu (s:List UInt8) (w:World) (f:Fm) (h:theF s=some f) :
  Does Tryz.prog 159 [str s] w (RetX w (fun ad=>.pointer (some ad)) fun ad w'=>Above w.heap.size EFm w' (.pointer (some ad)) f):=by
 obtain ⟨hs,hl⟩:=theF_some.1 h
 have hp:pre s=some (f,[]):=Sg (by simpa using hs)
 have ih2 : ∀ w,Does Tryz.prog 190 [str s] w (RetX w (fun ad=>.tuple #[.pointer (some ad),str []]) fun ad w'=>Above w.heap.size EFm w' (.pointer (some ad)) f):=fun w =>
  (readPart_ok _ s w (by unfold lim;omega) (Nat.le_refl _)).mono fun v w' ⟨e,h⟩=>by
   rw [hp] at h
   obtain ⟨u,hv,hu⟩:=h
   obtain ⟨ad,rfl⟩:=hu.here.ptr
   exact ⟨e,ad,hv,hu⟩
 clear hp hs
 refine Vh Tryz.func159 Z Tryz.results159 Tryz.ntmps159 Z ?_
 focus
  refine Zp<|Ub Z<|Zn<|Zq<|Zp<|Vo Z<|Wo Z (Yc Kr Z)<|Qe Z<|Zn<|Zt Z fun h1=>?_;refine Zv<|Zq<|Vf<|Vo Z<|Zr Z (Vx (a:=.string _) Jk Z) (ih2 _) ?_;rintro _ w1 ⟨E1,y1,rfl,hy1⟩;refine Xl Z<|Tu Z<|Rs Z<|Ub Z<|Yj Z<|Zn<|Zq<|Zp<|Vo Z<|Wo Z (Xb Z Z)<|Zn<|Uv Z fun h2=>?_;refine Zv<|Zp<|Qc Z<|Ub Z<|Zn<|Zy ?_;refine Ve (v:=.pointer _) Z ?_;refine ⟨E1,_,Z,?_⟩;(try dsimp only)
 exact hy1
theorem Nl (s:List UInt8) (w:World) (hl:s.length≤lim) (h:theF s=none):Does Tryz.prog 159 [str s] w (Ret w (.pointer none)):=by
 unfold lim at hl
 by_cases h60:60 < s.length
 ·refine Vh Tryz.func159 Z Tryz.results159 Tryz.ntmps159 Z ?_
  focus
   refine Zp<|Ub Z<|Zn<|Zq<|Zp<|Vo Z<|Wo Z (Yc Kr Z)<|Qe Z<|Zn<|Zs Z (fun h1=>?_) (fun h1=>?_);refine Zp<|Ub Z<|Zn<|Zy ?_;exact ⟨rfl,(Ext.refl _)⟩;(exfalso;omega)
 cases hp:pre s with
 | none =>
   have ih2 : ∀ w, Does Tryz.prog 190 [str s] w (Ret w (.tuple #[.pointer none, str s])) := fun w =>
     (readPart_ok _ s w (by unfold lim; omega) (Nat.le_refl _)).mono fun v w' ⟨e, h⟩ => ⟨by rw [hp] at h; exact h, e⟩
   clear hp h
   refine Vh Tryz.func159 Z Tryz.results159 Tryz.ntmps159 Z ?_
   focus
     refine Zp<|Ub Z<|Zn<|Zq<|Zp<|Vo Z<|Wo Z (Yc Kr Z)<|Qe Z<|Zn<|Zt Z fun h1 => ?_; refine Zv<|Zq<|Vf<|Vo Z<|Zr Z (Vx (a := .string _) Jk Z) (ih2 _) ?_; rintro _ w1 ⟨rfl, E1⟩; refine Xl Z<|Tu Z<|Rs Z<|Ub Z<|Yj Z<|Zn<|Zq<|Zp<|Vo Z<|Wo Z (Xb Z Z)<|Zn<|Vz Z (fun h2 => ?_) (fun h2 => ?_); refine Zp<|Ub Z<|Zn<|Zy ?_; exact ⟨rfl, E1⟩; refine Zv<|Zp<|Qc Z<|Ub Z<|Zn<|Zy ?_; exact ⟨rfl, E1⟩
 | some q =>
   obtain ⟨f, r1⟩ := q
   have ih2 : ∀ w, Does Tryz.prog 190 [str s] w (RetX w (fun ad => .tuple #[.pointer (some ad), str r1]) fun ad w' => Above w.heap.size EFm w' (.pointer (some ad)) f) := fun w =>
     (readPart_ok _ s w (by unfold lim; omega) (Nat.le_refl _)).mono fun v w' ⟨e, h⟩ => by
       rw [hp] at h
       obtain ⟨u, hv, hu⟩ := h
       obtain ⟨ad, rfl⟩ := hu.here.ptr
       exact ⟨e, ad, hv, hu⟩
   have hr : r1 ≠ [] := by
     rintro rfl
     have := Qa hp
     rw [theF_some.2 ⟨by simpa using this, Ka⟩] at h
     cases h
   clear hp h
   refine Vh Tryz.func159 Z Tryz.results159 Tryz.ntmps159 Z ?_
   focus
     refine Zp<|Ub Z<|Zn<|Zq<|Zp<|Vo Z<|Wo Z (Yc Kr Z)<|Qe Z<|Zn<|Zt Z fun h1 => ?_; refine Zv<|Zq<|Vf<|Vo Z<|Zr Z (Vx (a := .string _) Jk Z) (ih2 _) ?_; rintro _ w1 ⟨E1, y1, rfl, hy1⟩; refine Xl Z<|Tu Z<|Rs Z<|Ub Z<|Yj Z<|Zn<|Zq<|Zp<|Vo Z<|Wo Z (Xb Z Z)<|Zn<|Vz Z (fun h2 => ?_) (fun h2 => ?_); refine Zp<|Ub Z<|Zn<|Zy ?_; exact ⟨rfl, E1⟩; contradiction
noncomputable def okF (s:List UInt8):Bool:=(theF s).isSome
theorem l10End_ok' (s:List UInt8) (w:World) (hl:s.length≤lim):Does Tryz.prog 163 [str s,.int .i64 0] w (Ret w (.int .i64 (endV s s.length))) :=
 l10End_ok _ s 0 w hl (Nat.le_refl _)
theorem Sr (s:List UInt8) (w:World) (hl:s.length≤lim):Does Tryz.prog 123 [str s] w (Ret w (.bool (okF s))):=by
 have hl':=hl
 unfold lim at hl'
 have key:(s.length≤60→0 < s.length→(endV s s.length=(s.length:Int)↔okF s=true))∧(60 < s.length→okF s=false)∧(s.length=0→okF s=false):=by
  refine ⟨fun h60 h0=>?_,fun h=>by rw [okF,theF_long h];rfl,fun h=>?_⟩
  ·cases hp:pre s with
   | none =>
     have : theF s = none := by unfold theF; rw [if_pos h60, hp]
     rw [endV, hp, okF, this]
     simp
   | some q =>
     obtain ⟨f, r⟩ := q
     have hs := Qa hp
     have hlen := congrArg List.length hs
     simp only [List.length_append] at hlen
     have hf := f.enc_pos
     cases r with
     | nil =>
       have : theF s = some f := theF_some.2 ⟨by simpa using hs, h60⟩
       rw [endV, hp, okF, this]
       simp
     | cons c r =>
       have : theF s = none := by unfold theF; rw [if_pos h60, hp]
       rw [endV, hp, okF, this]
       simp only [List.length_cons] at hlen ⊢
       simp
       omega
  ·have:s=[]:=List.eq_nil_of_length_eq_zero h
   subst this
   have:theF []=none:=by unfold theF;rw [pre_nil];rfl
   rw [okF,this];rfl
 obtain ⟨k1,k2,k3⟩:=key
 refine Vh Tryz.func123 Z Tryz.results123 Tryz.ntmps123 Z ?_
 focus
  refine Zp<|Zz Z<|Zn<|Zp<|Vo Z<|Wo Z (Yc Kr Z)<|Wsleq Z<|Yf Z (fun h1=>?_) (fun h1=>?_);refine Vo Z<|Wo Z (Yc Kr Z)<|Qe Z<|Yq Z<|Yf Z (fun h2=>?_) (fun h2=>?_);refine Vo Z<|Zr Z (Yg (a:=.string _) (b:=.int _ _) Jn Z Z) (l10End_ok' _ _ Kd) ?_;rintro _ w1 ⟨rfl,E1⟩;refine Vo Z<|Wo Z (Yc Kr Z)<|Vm Z<|Yq Z<|Zz Z<|Zn<|Zy ?_;refine Ve (v:=.bool _) Z ?_;refine ⟨congrArg Value.bool ?_,E1⟩;rotate_left;refine Zo Z<|Zo Z<|Zo Z<|Zo Z<|Zo Z<|Vp Z<|Zz Z<|Zn<|Zy ?_;refine Ve (v:=.bool _) Z ?_;refine ⟨congrArg Value.bool ?_,(Ext.refl _)⟩;rotate_left
  refine Zo Z<|Zo Z<|Zo Z<|Vp Z<|Yi Z<|Zo Z<|Zo Z<|Zo Z<|Zo Z<|Zo Z<|Vp Z<|Zz Z<|Zn<|Zy ?_;refine Ve (v:=.bool _) Z ?_;refine ⟨congrArg Value.bool ?_,(Ext.refl _)⟩;rotate_left
 ·rw [Bool.eq_iff_iff,decide_eq_true_iff];exact k1 Ka Ka
 ·exact (k3 Ka).symm
 ·exact (k2 Ka).symm
def cF:Nat→Nat
 | 0=>1
 | d+1=>4+2*cF d
end Go.Proofs.YtbgpppaljpngmaaGreatDoor
namespace Go.Hs
def Fm.holds (p:List (List Int)):Fm→Nat→Bool
 | .t,_=>true
 | .neg f,i=>!(f.holds p i)
 | .S f,i=>(arr p i).any (f.holds p)
 | .A f,i=>!((arr p i).any fun j=>!(f.holds p j))
 | .and f g,i=>f.holds p i && g.holds p i
 | .or f g,i=>f.holds p i || g.holds p i
end Go.Hs
namespace Go.Proofs.YtbgpppaljpngmaaGreatDoor
open Go.Hs
set_option maxRecDepth 10000
set_option maxHeartbeats 4000000
set_option linter.unusedVariables false
set_option linter.unusedSimpArgs false
theorem holds_ok (p:List (List Int)) (hp:Pic p) : ∀ (f:Fm) (w:World) (v pv:Value) (z:Int),EFm w v f→ESl Ints w pv p→0≤z∧z < p.length→f.enc.length≤1000 →
  Does Tryz.prog 160 [v,pv,.int .i64 z] w (Ret w (.bool (f.holds p z.toNat))):=by
 have hp5:=hp.2.1
 have harr : ∀ (w:World) (pv:Value) (z:Int),ESl Ints w pv p→0≤z∧z < p.length→Does Tryz.prog 130 [pv,.int .i64 z] w (RetO w XI (ints (arr p z.toNat))):=fun w pv z h hz =>
  Us w pv p h z hz (by rw [Ya Ka,hp.row Ka];omega)
 have hmem : ∀ (z x:Int),0≤z∧z < p.length→x ∈ ints (arr p z.toNat)→0≤x∧x < p.length:=by
  intro z x hz hx
  simp only [ints,List.mem_map] at hx
  obtain ⟨j,hj,rfl⟩:=hx
  have:=((Uo hp (show z.toNat < p.length by omega)).1 hj).1
  omega
 intro f
 induction f with
 | t =>
   intro w v pv z hf hpv hz hl
   obtain ⟨pa, pc, rfl, _⟩ := id hpv
   obtain ⟨b, rfl, hB⟩ := hf
   refine Vh Tryz.func160 Z Tryz.results160 Tryz.ntmps160 Z ?_
   focus
     refine Zp<|Yl Z Z Z ?_; rintro b1 w1 hb1 E1 hB1; refine Yl Z Z Z ?_; rintro b2 w2 hb2 E2 hB2; refine Zz Z<|Zn<|Zq<|Zp<|Wo (v := .pointer _) Z (Vt Jp Z ((hB1.ext E2).cell Z))<|Wo Z (Xe Z)<|Vn Ji Ga Z<|Yk Ze (hB.ext exq) Z<|Zn<|Zw<|Zp<|Vm Z<|Zz Z<|Zn<|Vj Z fun h1 => ?_; refine Zp<|Vm Z<|Zz Z<|Zn<|Vj Z fun h2 => ?_; refine Zp<|Vm Z<|Zz Z<|Zn<|Vj Z fun h3 => ?_; refine Zp<|Vm Z<|Zz Z<|Zn<|Vj Z fun h4 => ?_; refine Zp<|Vm Z<|Zz Z<|Zn<|Vj Z fun h5 => ?_; refine Zv<|Zp<|Zz Z<|Zn<|Zy ?_; exact ⟨rfl, exq⟩
 | neg f ih =>
   intro w v pv z hf hpv hz hl
   have hl' : f.enc.length ≤ 1000 := by simp only [Fm.enc, List.length_cons] at hl; omega
   obtain ⟨pa, pc, rfl, _⟩ := id hpv
   obtain ⟨b, bp, u, rfl, hB, hBp, hu⟩ := hf
   have hP := hBp.vals (c := 1) Ki
   refine Vh Tryz.func160 Z Tryz.results160 Tryz.ntmps160 Z ?_
   focus
     refine Zp<|Yl Z Z Z ?_; rintro b1 w1 hb1 E1 hB1; refine Yl Z Z Z ?_; rintro b2 w2 hb2 E2 hB2; refine Zz Z<|Zn<|Zq<|Zp<|Wo (v := .pointer _) Z (Vt Jp Z ((hB1.ext E2).cell Z))<|Wo Z (Xe Z)<|Vn Ji Ga Z<|Yk Ze (hB.ext exq) Z<|Zn<|Zw<|Zp<|Vm Z<|Zz Z<|Zn<|Zs Z (fun h1 => ?_) (fun h1 => ?_); refine Zq<|Xx Xr Kb Z ?_; refine Xs (v := .pointer _) Z (fun w' hw' => Vt Jp Z (((hB1.ext E2).ext hw').cell Z)) ?_; refine Xs Z (fun _ _ => Xe Z) ?_; refine Uw Ji Ju Z<|Xs (v := .slice _ _ _) Z (fun w' hw' => Vt Gv Z (((hB.ext exq).ext hw').cell Z)) ?_
     refine Xn (k := 0) Gg Gh Jp Z (fun _ => Z) Z hP exq Z Kf ?_; rintro _ _ rfl; refine Xs (v := .slice _ _ _) Z (fun w' hw' => Vt Kw Z ((hB2.ext hw').cell Z)) ?_; refine Rf Z<|Ut Z (fun _ _ => Ud (b := .slice _ _ _) (c := .int _ _) Gm Z Z Z) (fun w' hw' => (ih _ _ _ _ ((Mono.mono exq hu)) ((Mono.mono exq hpv)) Kd Kd)) ?_; refine Wqnot Z<|Tp Z<|Xu (fun w3 E3 => ?_); refine Zy ?_; exact ⟨rfl, exq⟩; contradiction
 | S f ih =>
   intro w v pv z hf hpv hz hl
   have hl' : f.enc.length ≤ 1000 := by simp only [Fm.enc, List.length_cons] at hl; omega
   obtain ⟨pa, pc, rfl, _⟩ := id hpv
   obtain ⟨b, bp, u, rfl, hB, hBp, hu⟩ := hf
   have hP := hBp.vals (c := 1) Ki
   have hcl : ∀ (w1 : World) (b3 b4 : Nat) (x : Int), Ext w w1 → Blk w1 b3 [.pointer (some ⟨b, 0, none⟩)] → Blk w1 b4 [.slice pa p.length pc] → 0 ≤ x ∧ x < p.length → Does Tryz.prog 191 [.int .i64 x, .pointer (some ⟨b3, 0, none⟩), .pointer (some ⟨b4, 0, none⟩)] w1 (Ret w1 (.bool (f.holds p x.toNat))) := by
     intro w1 b3 b4 x E0 hB3 hB4 hx
     refine Vh Tryz.func191 Z Tryz.results191 Tryz.ntmps191 Z ?_
     focus
       refine Zp<|Zz Z<|Zn<|Zq<|Xx Xr Kb Z ?_; refine Xs (v := .pointer _) Z (fun w' hw' => Vt Jp Z ((hB3.ext hw').cell Z)) ?_; refine Xs Z (fun _ _ => Xe Z) ?_; refine Uw Ji Ju Z<|Xs (v := .slice _ _ _) Z (fun w' hw' => Vt Gv Z (((hB.ext E0).ext hw').cell Z)) ?_; refine Xn (k := 0) Gg Gh Jp Z (fun _ => Z) Z hP E0 Z Kf ?_; rintro _ _ rfl; refine Xs (v := .slice _ _ _) Z (fun w' hw' => Vt Kw Z ((hB4.ext hw').cell Z)) ?_; refine Rf Z<|Ut Z (fun _ _ => Ud (b := .slice _ _ _) (c := .int _ _) Gm Z Z Z) (fun w' hw' => (ih _ _ _ _ ((Mono.mono exq hu)) ((Mono.mono exq hpv)) Kd Kd)) ?_
       refine Tp Z<|Xu (fun w2 E1 => ?_); refine Zy ?_; exact ⟨rfl, E1⟩
   have hcon : ∀ (w1 : World) (u : Value) (b3 b4 : Nat), Ext w w1 → Blk w1 b3 [.pointer (some ⟨b, 0, none⟩)] → Blk w1 b4 [.slice pa p.length pc] → Ints w1 u (ints (arr p z.toNat)) → Does Tryz.prog 146 [u, .func (.func 191) [].toArray [.pointer (some ⟨b3, 0, none⟩), .pointer (some ⟨b4, 0, none⟩)].toArray] w1 (Ret w1 (.bool ((Fm.S f).holds p z.toNat))) := by
     intro w1 u b3 b4 E0 hB3 hB4 hu
     have := Qp w1 u _ hu 191 [.pointer (some ⟨b3, 0, none⟩), .pointer (some ⟨b4, 0, none⟩)] (fun x => f.holds p x.toNat) Tryz.call191 (fun x w' hx e => hcl w' b3 b4 x (E0.trans e) (hB3.ext e) (hB4.ext e) (hmem z x hz hx))
     rw [any_ints] at this
     exact this
   refine Vh Tryz.func160 Z Tryz.results160 Tryz.ntmps160 Z ?_
   focus
     refine Zp<|Yl Z Z Z ?_; rintro b1 w1 hb1 E1 hB1; refine Yl Z Z Z ?_; rintro b2 w2 hb2 E2 hB2; refine Zz Z<|Zn<|Zq<|Zp<|Wo (v := .pointer _) Z (Vt Jp Z ((hB1.ext E2).cell Z))<|Wo Z (Xe Z)<|Vn Ji Ga Z<|Yk Ze (hB.ext exq) Z<|Zn<|Zw<|Zp<|Vm Z<|Zz Z<|Zn<|Vj Z fun h1 => ?_; refine Zp<|Vm Z<|Zz Z<|Zn<|Zs Z (fun h2 => ?_) (fun h2 => ?_); refine Zp<|Ql Kw hB2 Z<|Zu Z<|Zr Z (Yg (a := .slice _ _ _) (b := .int _ _) Js Z Z) (harr _ _ _ ((Mono.mono exq hpv)) Kd) ?_; rintro u1 w3 ⟨E3, hO1⟩
     refine Wo Z (Qg Z Z)<|Zr Z (Yg (a := u1) (b := .func _ _ _) Gs Z Z) (hcon _ _ _ _ exq ((hB1.ext exq)) ((hB2.ext E3)) ((Owned.read hO1))) ?_; rintro _ w4 ⟨rfl, E4⟩; refine Zz Z<|Zn<|Zy ?_; exact ⟨rfl, exq⟩; contradiction
 | A f ih =>
   intro w v pv z hf hpv hz hl
   have hl' : f.enc.length ≤ 1000 := by simp only [Fm.enc, List.length_cons] at hl; omega
   obtain ⟨pa, pc, rfl, _⟩ := id hpv
   obtain ⟨b, bp, u, rfl, hB, hBp, hu⟩ := hf
   have hP := hBp.vals (c := 1) Ki
   have hcl : ∀ (w1 : World) (b3 b4 : Nat) (x : Int), Ext w w1 → Blk w1 b3 [.pointer (some ⟨b, 0, none⟩)] → Blk w1 b4 [.slice pa p.length pc] → 0 ≤ x ∧ x < p.length → Does Tryz.prog 192 [.int .i64 x, .pointer (some ⟨b3, 0, none⟩), .pointer (some ⟨b4, 0, none⟩)] w1 (Ret w1 (.bool (!(f.holds p x.toNat)))) := by
     intro w1 b3 b4 x E0 hB3 hB4 hx
     refine Vh Tryz.func192 Z Tryz.results192 Tryz.ntmps192 Z ?_
     focus
       refine Zp<|Zz Z<|Zn<|Zq<|Xx Xr Kb Z ?_; refine Xs (v := .pointer _) Z (fun w' hw' => Vt Jp Z ((hB3.ext hw').cell Z)) ?_; refine Xs Z (fun _ _ => Xe Z) ?_; refine Uw Ji Ju Z<|Xs (v := .slice _ _ _) Z (fun w' hw' => Vt Gv Z (((hB.ext E0).ext hw').cell Z)) ?_; refine Xn (k := 0) Gg Gh Jp Z (fun _ => Z) Z hP E0 Z Kf ?_; rintro _ _ rfl; refine Xs (v := .slice _ _ _) Z (fun w' hw' => Vt Kw Z ((hB4.ext hw').cell Z)) ?_; refine Rf Z<|Ut Z (fun _ _ => Ud (b := .slice _ _ _) (c := .int _ _) Gm Z Z Z) (fun w' hw' => (ih _ _ _ _ ((Mono.mono exq hu)) ((Mono.mono exq hpv)) Kd Kd)) ?_
       refine Wqnot Z<|Tp Z<|Xu (fun w2 E1 => ?_); refine Zy ?_; exact ⟨rfl, E1⟩
   have hcon : ∀ (w1 : World) (u : Value) (b3 b4 : Nat), Ext w w1 → Blk w1 b3 [.pointer (some ⟨b, 0, none⟩)] → Blk w1 b4 [.slice pa p.length pc] → Ints w1 u (ints (arr p z.toNat)) → Does Tryz.prog 146 [u, .func (.func 192) [].toArray [.pointer (some ⟨b3, 0, none⟩), .pointer (some ⟨b4, 0, none⟩)].toArray] w1 (Ret w1 (.bool ((arr p z.toNat).any fun j => !(f.holds p j)))) := by
     intro w1 u b3 b4 E0 hB3 hB4 hu
     have := Qp w1 u _ hu 192 [.pointer (some ⟨b3, 0, none⟩), .pointer (some ⟨b4, 0, none⟩)] (fun x => !(f.holds p x.toNat)) Tryz.call192 (fun x w' hx e => hcl w' b3 b4 x (E0.trans e) (hB3.ext e) (hB4.ext e) (hmem z x hz hx))
     rw [any_ints _ (fun j => !(f.holds p j))] at this
     exact this
   refine Vh Tryz.func160 Z Tryz.results160 Tryz.ntmps160 Z ?_
   focus
     refine Zp<|Yl Z Z Z ?_; rintro b1 w1 hb1 E1 hB1; refine Yl Z Z Z ?_; rintro b2 w2 hb2 E2 hB2; refine Zz Z<|Zn<|Zq<|Zp<|Wo (v := .pointer _) Z (Vt Jp Z ((hB1.ext E2).cell Z))<|Wo Z (Xe Z)<|Vn Ji Ga Z<|Yk Ze (hB.ext exq) Z<|Zn<|Zw<|Zp<|Vm Z<|Zz Z<|Zn<|Vj Z fun h1 => ?_; refine Zp<|Vm Z<|Zz Z<|Zn<|Vj Z fun h2 => ?_; refine Zp<|Vm Z<|Zz Z<|Zn<|Zs Z (fun h3 => ?_) (fun h3 => ?_); refine Zp<|Ql Kw hB2 Z<|Zu Z<|Zr Z (Yg (a := .slice _ _ _) (b := .int _ _) Js Z Z) (harr _ _ _ ((Mono.mono exq hpv)) Kd) ?_; rintro u1 w3 ⟨E3, hO1⟩
     refine Wo Z (Qg Z Z)<|Zr Z (Yg (a := u1) (b := .func _ _ _) Gs Z Z) (hcon _ _ _ _ exq ((hB1.ext exq)) ((hB2.ext E3)) ((Owned.read hO1))) ?_; rintro _ w4 ⟨rfl, E4⟩; refine Ym Z<|Zz Z<|Zn<|Zy ?_; exact ⟨rfl, exq⟩; contradiction
 | and f g ih1 ih2 =>
   intro w v pv z hf hpv hz hl
   have hl' : f.enc.length ≤ 1000 ∧ g.enc.length ≤ 1000 := by simp [Fm.enc] at hl; omega
   have hl1 := hl'.1
   have hl2 := hl'.2
   obtain ⟨pa, pc, rfl, _⟩ := id hpv
   obtain ⟨b, bp, u, u', rfl, hB, hBp, hu, hu'⟩ := hf
   have hP := hBp.vals (c := 2) Ki
   have h1 : ∀ w' (q : Value) (zz : Int), EFm w' u f → ESl Ints w' q p → 0 ≤ zz ∧ zz < p.length → Does Tryz.prog 160 [u, q, .int .i64 zz] w' (Ret w' (.bool (f.holds p zz.toNat))) := fun w' q zz e1 e2 e3 => ih1 w' u q zz e1 e2 e3 hl1
   have h2 : ∀ w' (q : Value) (zz : Int), EFm w' u' g → ESl Ints w' q p → 0 ≤ zz ∧ zz < p.length → Does Tryz.prog 160 [u', q, .int .i64 zz] w' (Ret w' (.bool (g.holds p zz.toNat))) := fun w' q zz e1 e2 e3 => ih2 w' u' q zz e1 e2 e3 hl2
   refine Vh Tryz.func160 Z Tryz.results160 Tryz.ntmps160 Z ?_
   focus
     refine Zp<|Yl Z Z Z ?_; rintro b1 w1 hb1 E1 hB1; refine Yl Z Z Z ?_; rintro b2 w2 hb2 E2 hB2; refine Zz Z<|Zn<|Zq<|Zp<|Wo (v := .pointer _) Z (Vt Jp Z ((hB1.ext E2).cell Z))<|Wo Z (Xe Z)<|Vn Ji Ga Z<|Yk Ze (hB.ext exq) Z<|Zn<|Zw<|Zp<|Vm Z<|Zz Z<|Zn<|Vj Z fun h3 => ?_; refine Zp<|Vm Z<|Zz Z<|Zn<|Vj Z fun h4 => ?_; refine Zp<|Vm Z<|Zz Z<|Zn<|Vj Z fun h5 => ?_; refine Zp<|Vm Z<|Zz Z<|Zn<|Zs Z (fun h6 => ?_) (fun h6 => ?_); refine Zq<|Xx Xr Kb Z ?_; refine Xs (v := .pointer _) Z (fun w' hw' => Vt Jp Z (((hB1.ext E2).ext hw').cell Z)) ?_
     refine Xs Z (fun _ _ => Xe Z) ?_; refine Uw Ji Ju Z<|Xs (v := .slice _ _ _) Z (fun w' hw' => Vt Gv Z (((hB.ext exq).ext hw').cell Z)) ?_; refine Xn (k := 0) Gg Gh Jp Z (fun _ => Z) Z hP exq Z Kf ?_; rintro _ _ rfl; refine Xs (v := .slice _ _ _) Z (fun w' hw' => Vt Kw Z ((hB2.ext hw').cell Z)) ?_; refine Rf Z<|Ut Z (fun _ _ => Ud (b := .slice _ _ _) (c := .int _ _) Gm Z Z Z) (fun w' hw' => (h1 _ _ _ ((Mono.mono exq hu)) ((Mono.mono exq hpv)) Kd)) ?_; refine Sb Z (fun _ _ => Vq (v := .bool _) Z) (fun h7 => ?_) (fun h7 => ?_); refine Xs (v := .pointer _) Z (fun w' hw' => Vt Jp Z (((hB1.ext E2).ext hw').cell Z)) ?_
     refine Xs Z (fun _ _ => Xe Z) ?_; refine Uw Ji Ju Z<|Xs (v := .slice _ _ _) Z (fun w' hw' => Vt Gv Z (((hB.ext exq).ext hw').cell Z)) ?_; refine Xn (k := 1) Gg Gh Jp Z (fun _ => Z) Z hP exq Z Kf ?_; rintro _ _ rfl; refine Xs (v := .slice _ _ _) Z (fun w' hw' => Vt Kw Z ((hB2.ext hw').cell Z)) ?_; refine Rf Z<|Ut Z (fun _ _ => Ud (b := .slice _ _ _) (c := .int _ _) Gm Z Z Z) (fun w' hw' => (h2 _ _ _ ((Mono.mono exq hu')) ((Mono.mono exq hpv)) Kd)) ?_; refine Nt Z<|Tp Z<|Xu (fun w3 E3 => ?_); refine Zy ?_; refine Ve (v := .bool _) Z ?_; refine ⟨congrArg Value.bool ?_, exq⟩; rotate_left
     refine Va Z<|Va Z<|Va Z<|Va Z<|Va Z<|Va Z<|Va Z<|Va Z<|Va Z<|Rc Z<|Tp Z<|Xu (fun w3 E3 => ?_); refine Zy ?_; refine Ve (v := .bool _) Z ?_; refine ⟨congrArg Value.bool ?_, exq⟩; rotate_left; contradiction
   all_goals
     have hc : Fm.holds p (f.and g) z.toNat = (f.holds p z.toNat && g.holds p z.toNat) := rfl
     rw [hc]
     first
       | (rw [show f.holds p z.toNat = true from by assumption]; rfl)
       | (rw [show f.holds p z.toNat = false from by assumption]; rfl)
 | or f g ih1 ih2 =>
   intro w v pv z hf hpv hz hl
   have hl' : f.enc.length ≤ 1000 ∧ g.enc.length ≤ 1000 := by simp [Fm.enc] at hl; omega
   have hl1 := hl'.1
   have hl2 := hl'.2
   obtain ⟨pa, pc, rfl, _⟩ := id hpv
   obtain ⟨b, bp, u, u', rfl, hB, hBp, hu, hu'⟩ := hf
   have hP := hBp.vals (c := 2) Ki
   have h1 : ∀ w' (q : Value) (zz : Int), EFm w' u f → ESl Ints w' q p → 0 ≤ zz ∧ zz < p.length → Does Tryz.prog 160 [u, q, .int .i64 zz] w' (Ret w' (.bool (f.holds p zz.toNat))) := fun w' q zz e1 e2 e3 => ih1 w' u q zz e1 e2 e3 hl1
   have h2 : ∀ w' (q : Value) (zz : Int), EFm w' u' g → ESl Ints w' q p → 0 ≤ zz ∧ zz < p.length → Does Tryz.prog 160 [u', q, .int .i64 zz] w' (Ret w' (.bool (g.holds p zz.toNat))) := fun w' q zz e1 e2 e3 => ih2 w' u' q zz e1 e2 e3 hl2
   refine Vh Tryz.func160 Z Tryz.results160 Tryz.ntmps160 Z ?_
   focus
     refine Zp<|Yl Z Z Z ?_; rintro b1 w1 hb1 E1 hB1; refine Yl Z Z Z ?_; rintro b2 w2 hb2 E2 hB2; refine Zz Z<|Zn<|Zq<|Zp<|Wo (v := .pointer _) Z (Vt Jp Z ((hB1.ext E2).cell Z))<|Wo Z (Xe Z)<|Vn Ji Ga Z<|Yk Ze (hB.ext exq) Z<|Zn<|Zw<|Zp<|Vm Z<|Zz Z<|Zn<|Vj Z fun h3 => ?_; refine Zp<|Vm Z<|Zz Z<|Zn<|Vj Z fun h4 => ?_; refine Zp<|Vm Z<|Zz Z<|Zn<|Vj Z fun h5 => ?_; refine Zp<|Vm Z<|Zz Z<|Zn<|Vj Z fun h6 => ?_; refine Zp<|Vm Z<|Zz Z<|Zn<|Zs Z (fun h7 => ?_) (fun h7 => ?_); refine Zq<|Xx Xr Kb Z ?_
     refine Xs (v := .pointer _) Z (fun w' hw' => Vt Jp Z (((hB1.ext E2).ext hw').cell Z)) ?_; refine Xs Z (fun _ _ => Xe Z) ?_; refine Uw Ji Ju Z<|Xs (v := .slice _ _ _) Z (fun w' hw' => Vt Gv Z (((hB.ext exq).ext hw').cell Z)) ?_; refine Xn (k := 0) Gg Gh Jp Z (fun _ => Z) Z hP exq Z Kf ?_; rintro _ _ rfl; refine Xs (v := .slice _ _ _) Z (fun w' hw' => Vt Kw Z ((hB2.ext hw').cell Z)) ?_; refine Rf Z<|Ut Z (fun _ _ => Ud (b := .slice _ _ _) (c := .int _ _) Gm Z Z Z) (fun w' hw' => (h1 _ _ _ ((Mono.mono exq hu)) ((Mono.mono exq hpv)) Kd)) ?_; refine Sb Z (fun _ _ => Vq (v := .bool _) Z) (fun h8 => ?_) (fun h8 => ?_)
     refine Va Z<|Va Z<|Va Z<|Va Z<|Va Z<|Va Z<|Va Z<|Va Z<|Va Z<|Nt Z<|Tp Z<|Xu (fun w3 E3 => ?_); refine Zy ?_; refine Ve (v := .bool _) Z ?_; refine ⟨congrArg Value.bool ?_, exq⟩; rotate_left; refine Xs (v := .pointer _) Z (fun w' hw' => Vt Jp Z (((hB1.ext E2).ext hw').cell Z)) ?_; refine Xs Z (fun _ _ => Xe Z) ?_; refine Uw Ji Ju Z<|Xs (v := .slice _ _ _) Z (fun w' hw' => Vt Gv Z (((hB.ext exq).ext hw').cell Z)) ?_; refine Xn (k := 1) Gg Gh Jp Z (fun _ => Z) Z hP exq Z Kf ?_; rintro _ _ rfl; refine Xs (v := .slice _ _ _) Z (fun w' hw' => Vt Kw Z ((hB2.ext hw').cell Z)) ?_
     refine Rf Z<|Ut Z (fun _ _ => Ud (b := .slice _ _ _) (c := .int _ _) Gm Z Z Z) (fun w' hw' => (h2 _ _ _ ((Mono.mono exq hu')) ((Mono.mono exq hpv)) Kd)) ?_; refine Rc Z<|Tp Z<|Xu (fun w3 E3 => ?_); refine Zy ?_; refine Ve (v := .bool _) Z ?_; refine ⟨congrArg Value.bool ?_, exq⟩; rotate_left; contradiction
   all_goals
     have hc : Fm.holds p (f.or g) z.toNat = (f.holds p z.toNat || g.holds p z.toNat) := rfl
     rw [hc]
     first
       | (rw [show f.holds p z.toNat = true from by assumption]; rfl)
       | (rw [show f.holds p z.toNat = false from by assumption]; rfl)
noncomputable def holdsV (s:List UInt8) (p:List (List Int)) (z:Int):Bool:=match theF s with
 | some f=>decide (Nod p z) && f.holds p z.toNat
 | none=>false
open Go.Lib (decDigits)
theorem dec_len : ∀ (m n:Nat),n≤m→(decDigits n).length≤n+1:=by
 intro m
 induction m with
 | zero=>intro n h;rw [decDigits,dif_pos Ka];simp
 | succ m ih =>
   intro n h
   rw [decDigits]
   split
   · simp
   · have := ih (n / 10) Ka
     simp only [List.length_append, List.length_cons, List.length_nil]; omega
theorem l1Num_ok : ∀ (m n:Nat),n≤m→n≤1000000→∀ (w:World),Does Tryz.prog 64 [.int .i64 (n:Int)] w (Ret w (str (decDigits n))):=by
 intro m
 induction m with
 | zero =>
   intro n hm hn w
   have := Tj w n Ka
   rwa [show decDigits n = [dig n] by rw [decDigits, dif_pos Ka]; rfl]
 | succ m ih =>
   intro n hm hn w
   by_cases h10 : n < 10
   · have := Tj w n h10
     rwa [show decDigits n = [dig n] by rw [decDigits, dif_pos h10]; rfl]
   · have hd := dec_len _ (n / 10) (Nat.le_refl _)
     have k1 : ∀ w, Does Tryz.prog 64 [.int .i64 ((n : Int) / 10)] w (Ret w (str (decDigits (n / 10)))) := fun w => by
       have := ih (n / 10) Ka Ka w
       rwa [show ((n / 10 : Nat) : Int) = (n : Int) / 10 by omega] at this
     refine Vh Tryz.func64 Z Tryz.results64 Tryz.ntmps64 Z ?_
     have e : decDigits n = decDigits (n / 10) ++ [UInt8.ofNat (48 + n % 10)] := by conv => lhs; rw [decDigits, dif_neg h10]
     have e2 : (48 + (n : Int) % 10).toNat = 48 + n % 10 := Ka
     focus
       refine Zp<|Yj Z<|Zn<|Zq<|Zp<|Zu Z<|Vi Z<|Zn<|Zt Z fun h1 => ?_; refine Zv<|Zq<|Rb (fun _ => True) Xr Z Kb ?_; intro w1 E1 K1 hz1; refine WtmI 0 Z Z trivial<|Yo 1 Z Kb Kb Z (fun _ _ => opv_quo Z Z Ka) trivial ?_; refine WtmI 3 Z Z trivial<|Yo 4 Z Kb Kb Z (fun _ _ => opv_rem Z Z Ka) trivial ?_; refine Yo 5 Z Kb Kb Z (fun _ _ => Rw Z Z Ka) trivial ?_; refine Yo 6 Z Kb Kb Z (fun _ _ => opv_conv_u8 Gd Jw Z Ka) trivial ?_; refine Wha [2, 7]<|Vu Z ?_ ?_; refine Zr Z (Vx (a := .int _ _) Jo Z) (k1 _) ?_; rintro _ w2 ⟨rfl, E2⟩
       refine Wnx trivial<|Wha [7]<|Wh1 Z<|Ye (ps := [(0, .int _ _)]) (cs := [_]) Z Gl Ga Tryz.zeroValue5 Z Z Z Z ?_; rintro b1 w3 hb1 E3 hB1 hHb1; refine Wnx trivial<|Wha [8]<|Wh1 Z<|Wo Z (Td Gl Jw Kr Z Kd) ?_; refine Wnx trivial<|Yo 9 Z Kb Kb Z (fun _ _ => Xw Z Z (by simp <;> omega)) trivial ?_; refine Uq 10 Z Z trivial<|Yh Kb ?_; refine Zy ?_; refine Ve (v := .string _) Z ?_; refine ⟨congrArg str ?_, exq⟩; rotate_left; refine Wh1 Z<|Ye (ps := [(0, .int _ _)]) (cs := [_]) Z Gl Ga Tryz.zeroValue5 Z Z Z Z ?_; rintro b1 w2 hb1 E2 hB1 hHb1; refine Wnx trivial<|Wha [2, 8]<|Vu Z ?_ ?_
       refine Zr Z (Vx (a := .int _ _) Jo Z) (k1 _) ?_; rintro _ w3 ⟨rfl, E3⟩; refine Wnx trivial<|Wha [8]<|Wh1 Z ?_; rotate_left; refine Wh1 Z<|Wo Z (Td Gl Jw Kr Z Kd) ?_; refine Wnx trivial<|Wha [2]<|Wh1 Z<|Zr Z (Vx (a := .int _ _) Jo Z) (k1 _) ?_; rintro _ w3 ⟨rfl, E3⟩; refine Wnx trivial<|Yo 9 Z Kb Kb Z (fun _ _ => Xw Z Z (by simp <;> omega)) trivial ?_; refine Uq 10 Z Z trivial<|Yh Kb ?_; refine Zy ?_; refine Ve (v := .string _) Z ?_; refine ⟨congrArg str ?_, exq⟩; rotate_left
     · rw [e, e2]
     · have hB1 := hB1.ext E3
       focus
         refine Wo Z (Td Gl Jw Kr Z Kd) ?_; refine Wnx trivial<|Yo 9 Z Kb Kb Z (fun _ _ => Xw Z Z (by simp <;> omega)) trivial ?_; refine Uq 10 Z Z trivial<|Yh Kb ?_; refine Zy ?_; refine Ve (v := .string _) Z ?_; refine ⟨congrArg str ?_, exq⟩
       rw [e, e2]
     · rw [e, e2]
def Tryz.laysItoaM_ren : Go.Shelf.Ren := ⟨fun | 171 => 131 | 243 => 168 | 246 => 196 | 283 => 214 | 284 => 215 | 285 => 216 | 286 => 217 | 129 => 231 | 317 => 230 | 318 => 232 | 319 => 233 | 320 => 234 | 337 => 240 | 338 => 241 | n => n, fun | 3 => 3 | 9 => 9 | 2 => 2 | 4 => 4 | 171 => 170 | 0 => 0 | 53 => 171 | 37 => 22 | 5 => 5 | 173 => 174 | 212 => 185 | 51 => 179 | 20 => 20 | 213 => 186 | 46 => 168 | 232 => 199 | 233 => 200 | n => n, fun | 17 => 1 | 18 => 2 | 19 => 3 | n => n⟩
theorem Tryz.laysItoaM : Go.Proofs.LaysM.n171 Tryz.prog Tryz.laysItoaM_ren := {
  mixed := by kernel_rfl
  f129 := Tryz.func231.trans (congrArg some (by kernel_rfl))
  f171 := Tryz.func131.trans (congrArg some (by kernel_rfl))
  f243 := Tryz.func168.trans (congrArg some (by kernel_rfl))
  f246 := Tryz.func196.trans (congrArg some (by kernel_rfl))
  f283 := Tryz.func214.trans (congrArg some (by kernel_rfl))
  f284 := Tryz.func215.trans (congrArg some (by kernel_rfl))
  f285 := Tryz.func216.trans (congrArg some (by kernel_rfl))
  f286 := Tryz.func217.trans (congrArg some (by kernel_rfl))
  f317 := Tryz.func230.trans (congrArg some (by kernel_rfl))
  f318 := Tryz.func232.trans (congrArg some (by kernel_rfl))
  f319 := Tryz.func233.trans (congrArg some (by kernel_rfl))
  f320 := Tryz.func234.trans (congrArg some (by kernel_rfl))
  f337 := Tryz.func240.trans (congrArg some (by kernel_rfl))
  f338 := Tryz.func241.trans (congrArg some (by kernel_rfl))
  t0 := Tryz.underlying0
  a0 := Tryz.isAgg0
  z0 := Tryz.sizeOf0
  v0 := Tryz.zeroValue0
  t2 := Tryz.underlying2
  a2 := Tryz.isAgg2
  z2 := Tryz.sizeOf2
  v2 := Tryz.zeroValue2
  t3 := Tryz.underlying3
  a3 := Tryz.isAgg3
  z3 := Tryz.sizeOf3
  v3 := Tryz.zeroValue3
  t4 := Tryz.underlying4
  a4 := Tryz.isAgg4
  z4 := Tryz.sizeOf4
  v4 := Tryz.zeroValue4
  t5 := Tryz.underlying5
  a5 := Tryz.isAgg5
  z5 := Tryz.sizeOf5
  v5 := Tryz.zeroValue5
  t9 := Tryz.underlying9
  a9 := Tryz.isAgg9
  z9 := Tryz.sizeOf9
  v9 := Tryz.zeroValue9
  t20 := Tryz.underlying20
  a20 := Tryz.isAgg20
  z20 := Tryz.sizeOf20
  v20 := Tryz.zeroValue20
  t37 := Tryz.underlying22
  a37 := Tryz.isAgg22
  z37 := Tryz.sizeOf22
  v37 := Tryz.zeroValue22
  t46 := Tryz.underlying168
  a46 := Tryz.isAgg168
  z46 := Tryz.sizeOf168
  v46 := Tryz.zeroValue168
  t51 := Tryz.underlying179
  a51 := Tryz.isAgg179
  z51 := Tryz.sizeOf179
  v51 := Tryz.zeroValue179
  t53 := Tryz.underlying171
  a53 := Tryz.isAgg171
  z53 := Tryz.sizeOf171
  v53 := Tryz.zeroValue171
  t171 := Tryz.underlying170
  a171 := Tryz.isAgg170
  z171 := Tryz.sizeOf170
  v171 := Tryz.zeroValue170
  t173 := Tryz.underlying174
  a173 := Tryz.isAgg174
  z173 := Tryz.sizeOf174
  v173 := Tryz.zeroValue174
  t212 := Tryz.underlying185
  a212 := Tryz.isAgg185
  z212 := Tryz.sizeOf185
  v212 := Tryz.zeroValue185
  t213 := Tryz.underlying186
  a213 := Tryz.isAgg186
  z213 := Tryz.sizeOf186
  t232 := Tryz.underlying199
  a232 := Tryz.isAgg199
  z232 := Tryz.sizeOf199
  v232 := Tryz.zeroValue199
  t233 := Tryz.underlying200
  a233 := Tryz.isAgg200
  z233 := Tryz.sizeOf200
  v233 := Tryz.zeroValue200
  g17 := by kernel_rfl
  g18 := by kernel_rfl
  g19 := by kernel_rfl
  i0 := by kernel_rfl
  i2 := by kernel_rfl
  i3 := by kernel_rfl
  i4 := by kernel_rfl
  i5 := by kernel_rfl
  i9 := by kernel_rfl
  i20 := by kernel_rfl
  i37 := by kernel_rfl
  i46 := by kernel_rfl
  i51 := by kernel_rfl
  i53 := by kernel_rfl
  i171 := by kernel_rfl
  i173 := by kernel_rfl
  i212 := by kernel_rfl
  i232 := by kernel_rfl
  i233 := by kernel_rfl
  m17 := by kernel_rfl
  m18 := by kernel_rfl
  m19 := by kernel_rfl }
def ETb : World → Value → Unit → Prop := fun w _ _ => Go.Lib.TabIs Tryz.prog w "internal/strconv.uint64pow10" .u64 Go.Lib.pow10Tab
instance:Mono ETb:=⟨fun {w w' _ _} e h=>by
 unfold ETb Go.Lib.TabIs World.var? at h ⊢
 cases hg : Tryz.prog.globalNamed "internal/strconv.uint64pow10" with
 | none=>rw [hg] at h;cases h
 | some g =>
   rw [hg] at h
   simp only [Option.bind_some] at h ⊢
   cases hb : w.heap[g]? with
   | none => rw [hb] at h; cases h
   | some o =>
     rw [hb] at h
     rw [e.block g (Array.getElem?_eq_some_iff.1 hb).1, hb]
     exact h⟩
theorem ItoaN_ok (w:World) (hT:ETb w (.bool true) ()) (n:Nat) (h:n≤1000000):Does Tryz.prog 131 [.int .i64 (n:Int)] w (Ret w (str (decDigits n))):=by
 unfold Does
 refine Calls.mono (show Calls Tryz.prog 131 _ w _ from Go.Proofs.Any.strconv_Itoa Tryz.laysItoaM (n:Int) Ka Ka w hT) ?_
 rintro e w' ⟨he,k,os,rfl⟩
 refine ⟨_,he,?_,?_⟩
 ·unfold Go.Lib.itoa
  rw [if_neg Ka];simp [str]
 ·exact ⟨rfl,rfl,rfl,by show w.heap.size≤(w.heap++os).size;simp,fun i hi=>by show (w.heap++os)[i]? = _;exact Array.getElem?_append_left hi⟩
open Go.Lib (decDigits)
def ynV (b:Bool):List UInt8:=if b then [121,101,115] else [110,111]
noncomputable def ask2 (p:List (List Int)) (wd r:List UInt8):List UInt8 :=
 if wd=[104,111,108,100,115]∧okF r=true then ynV (holdsV r p 0)
 else if wd=[104,97,115]∧(rdP r).isSome=true then ynV (hasV p 0 ((rdP r).getD []) 0)
 else if wd=[105,115]∧(rdP r).isSome=true then ynV (ssetV p 0 ((rdP r).getD []) 0)
 else [119,104,97,116]
noncomputable def askV (p:List (List Int)) (s:List UInt8):List UInt8 :=
 if s=[112,105,99,116,117,114,101] then 58::txt p
 else if s=[99,111,100,101] then (if (codeV p 0).2 then decDigits (codeV p 0).1.toNat else [110,111,110,101])
 else if s=[109,97,110,121] then decDigits (manyV p 0)
 else if s=[111,119,110] then ynV (hasV p 0 p 0)
 else if s=[100,101,101,112] then (if 0≤deepAtV p 0 then decDigits (deepAtV p 0).toNat else [110,111,110,101])
 else if s=[102,111,117,110,100,101,100] then decDigits (faV p).length
 else if (cutF 32 s).2.2 then ask2 p (cutF 32 s).1 (cutF 32 s).2.1
 else [119,104,97,116]
theorem codeV_nat (p:List (List Int)) (z:Int):(∃ c:Nat,c < 65536∧codeV p z=((c:Int),true))∨codeV p z=(-1,false):=by
 unfold codeV
 split
 ·cases h:cod p p.length z.toNat with
  | none=>exact .inr rfl
  | some c=>exact .inl ⟨c,cod_lt h,rfl⟩
 ·exact .inr rfl
theorem deepAtV_nat {p:List (List Int)} (hp:Pic p) (z:Int):(∃ c:Nat,c < 10∧deepAtV p z=(c:Int))∨deepAtV p z = -1:=by
 unfold deepAtV
 split
 ·rename_i h
  have h2:=h.1.2
  have h5:=hp.2.1
  have:=dpt_lt hp (r:=p.length) (k:=z.toNat) Ka Ma h.2
  exact .inl ⟨_,Ka,rfl⟩
 ·exact .inr rfl
theorem faV_le (p:List (List Int)):(ints (faV p)).length≤p.length:=by
 rw [Yy];unfold faV
 split
 ·exact Nat.le_trans (List.length_filter_le _ _) Ki
 ·simp
theorem manyV_le (p:List (List Int)) (a:Nat):manyV p a≤p.length:=by
 unfold manyV
 exact Nat.le_trans (List.length_filter_le _ _) Ki
theorem yesNo_ok (w:World) (b:Bool):Does Tryz.prog 156 [.bool b] w (Ret w (str (ynV b))):=by
 cases b with
 | true =>
   refine Vh Tryz.func156 Z Tryz.results156 Tryz.ntmps156 Z ?_
   focus
     refine Zp<|Yj Z<|Zn<|Zq<|Zp<|Yi Z<|Zn<|Vv Z ?_; refine Zp<|Yj Z<|Zn<|Zy ?_; exact ⟨rfl, (Ext.refl _)⟩
 | false =>
   refine Vh Tryz.func156 Z Tryz.results156 Tryz.ntmps156 Z ?_
   focus
     refine Zp<|Yj Z<|Zn<|Zq<|Zp<|Yi Z<|Zn<|Zx Z ?_; refine Zv<|Zp<|Yj Z<|Zn<|Zy ?_; exact ⟨rfl, (Ext.refl _)⟩
theorem CodeAtN_ok (w:World) (v:Value) (p:List (List Int)) (h:ESl Ints w v p) (hp:Pic p):Does Tryz.prog 155 [v,.int .i64 0] w (Ret w (.tuple #[.int .i64 (codeV p 0).1,.bool (codeV p 0).2])):=by
 have hz:Nod p 0:=⟨hp,by have:=hp.1;omega⟩
 cases hc:cback p (0:Int).toNat with
 | false=>exact CodeAt_ok w v p h 0 hz hc
 | true =>
   have e : codeV p 0 = (-1, false) := if_neg fun h => by rw [hc] at h; exact absurd h.2 Kc
   have k1 : ∀ (w : World) (pv : Value), ESl Ints w pv p → Does Tryz.prog 94 [pv, .int .i64 0] w (Ret w (.bool true)) := fun w pv h => by
     have := Qu w pv p h 0
     rw [decide_eq_true hz] at this; exact this
   have k2 : ∀ (w : World) (pv : Value), ESl Ints w pv p → Does Tryz.prog 187 [pv, .int .i64 0] w (Ret w (.bool true)) := fun w pv h => by
     have := Tt w pv p h hp 0 (by have := hp.1; omega)
     rw [show cback p 0 = true from hc] at this; exact this
   rw [e]
   refine Xp Tryz.func155 Z Tryz.results155 Tryz.ntmps155 Z ?_
   focus
     refine Zp<|Vg Z<|Zz Z<|Zn<|Zq<|Zp<|Vb v Z<|Zu Z<|Zr Z (Yg (a := v) (b := .int _ _) Jx Z Z) (k1 _ _ (h)) ?_; rintro _ w1 ⟨rfl, E1⟩; refine Ym Z<|Yn Z (Vq (v := .bool _) Z) (fun h1 => ?_) (fun h1 => ?_); contradiction; refine Vb v Z<|Zu Z<|Zr Z (Yg (a := v) (b := .int _ _) Gz Z Z) (k2 _ _ ((Mono.mono E1 h))) ?_; rintro _ w2 ⟨rfl, E2⟩; refine Vp Z<|Zn<|Vv Z ?_; refine Zp<|Vg Z<|Zz Z<|Zn<|Zy ?_; exact ⟨rfl, exq⟩
open Classical in
theorem asked_ok (w:World) (hM:EMx gMx w (.bool true) ()) (hT:ETb w (.bool true) ()) (v:Value) (p:List (List Int)) (h:ESl Ints w v p) (hp:Pic p) (s:List UInt8) (hs:s.length≤1048576):Does Tryz.prog 112 [v,str s] w (Ret w (str (askV p s))):=by
 have hp1:=hp.1
 have hp5:=hp.2.1
 have hfl:=faV_le p
 have hml:=manyV_le p 0
 have c1 : ∀ (w:World) (v:Value),ESl Ints w v p→Does Tryz.prog 79 [v] w (Ret w (str (txt p))):=fun w v h=>Sn w v p h hp
 have c3 : ∀ (w:World) (v:Value),ESl Ints w v p→Does Tryz.prog 95 [v,.int .i64 0] w (Ret w (.int .i64 (manyV p 0:Int))):=fun w v h=>manyIn_ok w v p h hp 0 Ka
 have c4 : ∀ (w:World) (v u:Value),ESl Ints w v p→ESl Ints w u p→Does Tryz.prog 96 [v,.int .i64 0,u,.int .i64 0] w (Ret w (.bool (hasV p 0 p 0))):=fun w v u h h'=>hasSet_ok w v u p p h h' hp hp 0 0 Ka Ka
 have c6 : ∀ (w:World) (v:Value),ESl Ints w v p→Does Tryz.prog 158 [v] w (RetO w XI (ints (faV p))):=fun w v h=>foundedAll_ok w v p h hp
 have cI : ∀ (w:World) (n:Nat),n≤1000000→ETb w (.bool true) ()→Does Tryz.prog 131 [.int .i64 (n:Int)] w (Ret w (str (decDigits n))):=fun w n hn hT=>ItoaN_ok w hT n hn
 have cF : ∀ (w:World),ETb w (.bool true) ()→Does Tryz.prog 131 [.int .i64 ((ints (faV p)).length:Int)] w (Ret w (str (decDigits (faV p).length))):=fun w hT=>by
  rw [Yy] at hfl ⊢
  exact ItoaN_ok w hT _ Ka
 have cM : ∀ (w:World),ETb w (.bool true) ()→Does Tryz.prog 131 [.int .i64 (manyV p 0:Int)] w (Ret w (str (decDigits (manyV p 0)))):=fun w hT=>cI w _ Ka hT
 have htx:=txt_len hp.gr
 refine Vh Tryz.func112 Z Tryz.results112 Tryz.ntmps112 Z ?_
 have stop5:True:=trivial
 have stop14:True:=trivial
 have stop20:True:=trivial
 focus
  refine Zp<|Yj Z<|Zn<|Zq<|Zp<|Vo Z<|Zn<|Zw<|Zp<|Wo Z (Vc Z Z)<|Zz Z<|Zn<|Zs Z (fun h1=>?_) (fun h1=>?_);refine Zp<|Vb v Z<|Zr Z (Vx (a:=v) Tryz.call79 Z) (c1 _ _ (h)) ?_;rintro _ w1 ⟨rfl,E1⟩;refine Wo Z (Xw Z Z (by simp <;> omega)) ?_;refine Yj Z<|Zn<|Zy ?_;refine Ve (v:=.string _) Z ?_;refine ⟨congrArg str ?_,E1⟩;rotate_left;refine Zp<|Wo Z (Vc Z Z)<|Zz Z<|Zn<|Zs Z (fun h2=>?_) (fun h2=>?_);refine Zq<|Zq ?_;rotate_left;refine Zp<|Wo Z (Vc Z Z)<|Zz Z<|Zn<|Zs Z (fun h3=>?_) (fun h3=>?_);refine Zp<|Vb v Z<|Zr Z (Yg (a:=v) (b:=.int _ _) Tryz.call95 Z Z) (c3 _ _ (h)) ?_;rintro _ w1 ⟨rfl,E1⟩
  refine Zr Z (Vx (a:=.int _ _) Gy Z) (cM _ ((Mono.mono E1 hT))) ?_;rintro _ w2 ⟨rfl,E2⟩;refine Yj Z<|Zn<|Zy ?_;refine Ve (v:=.string _) Z ?_;refine ⟨congrArg str ?_,exq⟩;rotate_left;refine Zp<|Wo Z (Vc Z Z)<|Zz Z<|Zn<|Zs Z (fun h4=>?_) (fun h4=>?_);refine Zq<|Vf<|Vb v Z<|Vb v Z<|Zr Z (Qz (a:=v) (b:=.int _ _) (c:=v) (d:=.int _ _) Tryz.call96 Z Z Z Z) (c4 _ _ _ (h) (h)) ?_;rintro _ w1 ⟨rfl,E1⟩;refine Zr Z (Vx (a:=.bool _) Gn Z) (yesNo_ok _ _) ?_;rintro _ w2 ⟨rfl,E2⟩;refine Yj Z<|Zn<|Zy ?_;refine Ve (v:=.string _) Z ?_;refine ⟨congrArg str ?_,exq⟩;rotate_left;refine Zp<|Wo Z (Vc Z Z)<|Zz Z<|Zn<|Zs Z (fun h5=>?_) (fun h5=>?_)
  refine Zq<|Zq ?_;rotate_left;refine Zp<|Wo Z (Vc Z Z)<|Zz Z<|Zn<|Zs Z (fun h6=>?_) (fun h6=>?_);refine Zp<|Vb v Z<|Zr Z (Vx (a:=v) Tryz.call158 Z) (c6 _ _ (h)) ?_;rintro u1 w1 ⟨E1,hO1⟩;refine Vk Kn Z (Owned.read hO1)<|Zr Z (Vx (a:=.int _ _) Gy Z) (cF _ ((Mono.mono E1 hT))) ?_;rintro _ w2 ⟨rfl,E2⟩;refine Yj Z<|Zn<|Zy ?_;refine Ve (v:=.string _) Z ?_;refine ⟨congrArg str ?_,exq⟩;rotate_left;refine Zv<|Zq ?_;rotate_left
 ·unfold askV;rw [if_pos Kd];rfl
 ·clear stop5 stop14 stop20
  have ea:askV p s=if (codeV p 0).2 then decDigits (codeV p 0).1.toNat else [110,111,110,101]:=by
   unfold askV;rw [if_neg Kd,if_pos Kd]
  rw [ea]
  have c2 : ∀ (w:World) (v:Value),ESl Ints w v p→Does Tryz.prog 155 [v,.int .i64 0] w (Ret w (.tuple #[.int .i64 (codeV p 0).1,.bool (codeV p 0).2])):=fun w v h=>CodeAtN_ok w v p h hp
  rcases codeV_nat p 0 with ⟨c,hc,e⟩ | e
  ·rw [e] at c2 ⊢
   have cC:=fun w hT=>cI w c Ka hT
   focus
    refine Vf<|Vb v Z<|Zr Z (Yg (a:=v) (b:=.int _ _) Tryz.call155 Z Z) (c2 _ _ (h)) ?_;rintro _ w1 ⟨rfl,E1⟩;refine Xl Z<|WsxI Z<|Xv Z<|Vg Z<|Zz Z<|Zn<|Zp<|Yi Z<|Zn<|Vv Z ?_;refine Zq<|Vf<|Zu Z<|Zr Z (Vx (a:=.int _ _) Gy Z) (cC _ ((Mono.mono E1 hT))) ?_;rintro _ w2 ⟨rfl,E2⟩;refine Yj Z<|Zn<|Zy ?_;exact ⟨rfl,exq⟩
  ·rw [e] at c2 ⊢
   focus
    refine Vf<|Vb v Z<|Zr Z (Yg (a:=v) (b:=.int _ _) Tryz.call155 Z Z) (c2 _ _ (h)) ?_;rintro _ w1 ⟨rfl,E1⟩;refine Xl Z<|WsxI Z<|Xv Z<|Vg Z<|Zz Z<|Zn<|Zp<|Yi Z<|Zn<|Zx Z ?_;refine Zv<|Zp<|Yj Z<|Zn<|Zy ?_;exact ⟨rfl,E1⟩
 ·unfold askV;rw [if_neg Kd,if_neg Kd,if_pos Kd]
 ·unfold askV;rw [if_neg Kd,if_neg Kd,if_neg Kd,if_pos Kd]
 ·clear stop5 stop14 stop20
  have ea:askV p s=if 0≤deepAtV p 0 then decDigits (deepAtV p 0).toNat else [110,111,110,101]:=by
   unfold askV;rw [if_neg Kd,if_neg Kd,if_neg Kd,if_neg Kd,if_pos Kd]
  rw [ea]
  have c5 : ∀ (w:World) (v:Value),ESl Ints w v p→Does Tryz.prog 157 [v,.int .i64 0] w (Ret w (.int .i64 (deepAtV p 0))):=fun w v h=>impl_DeepAt_ok w v p h 0
  rcases deepAtV_nat hp 0 with ⟨c,hc,e⟩ | e
  ·rw [e] at c5 ⊢
   rw [if_pos Ka]
   have cC:=fun w hT=>cI w c Ka hT
   focus
    refine Vf<|Vb v Z<|Zr Z (Yg (a:=v) (b:=.int _ _) Tryz.call157 Z Z) (c5 _ _ (h)) ?_;rintro _ w1 ⟨rfl,E1⟩;refine Vg Z<|Zn<|Zp<|Zu Z<|Qk Z<|Zn<|Zs Z (fun h6=>?_) (fun h6=>?_);refine Zp<|Zu Z<|Zr Z (Vx (a:=.int _ _) Gy Z) (cC _ ((Mono.mono E1 hT))) ?_;rintro _ w2 ⟨rfl,E2⟩;refine Yj Z<|Zn<|Zy ?_;exact ⟨rfl,exq⟩;(exfalso;omega)
  ·rw [e] at c5 ⊢
   rw [if_neg Ka]
   focus
    refine Vf<|Vb v Z<|Zr Z (Yg (a:=v) (b:=.int _ _) Tryz.call157 Z Z) (c5 _ _ (h)) ?_;rintro _ w1 ⟨rfl,E1⟩;refine Vg Z<|Zn<|Zp<|Zu Z<|Qk Z<|Zn<|Vj Z fun h6=>?_;refine Zv<|Zp<|Yj Z<|Zn<|Zy ?_;exact ⟨rfl,E1⟩
 ·unfold askV;rw [if_neg Kd,if_neg Kd,if_neg Kd,if_neg Kd,if_neg Kd,if_pos Kd]
 clear stop5 stop14 stop20
 have ea:askV p s=if (cutF 32 s).2.2 then ask2 p (cutF 32 s).1 (cutF 32 s).2.1 else [119,104,97,116]:=by
  unfold askV;rw [if_neg Kd,if_neg Kd,if_neg Kd,if_neg Kd,if_neg Kd,if_neg Kd]
 rw [ea]
 have hRl:(cutF 32 s).2.1.length≤1048576:=by have:=(cutF_len 32 s).2;omega
 have c7 : ∀ w,EMx gMx w (.bool true) ()→Does Tryz.prog 102 [str s,str [32]] w (Ret w (.tuple #[str (cutF 32 s).1,str (cutF 32 s).2.1,.bool (cutF 32 s).2.2])):=fun w hM=>Cut_ok w s 32 hM hs
 clear ea c1 c3 c4 c6 cF cM
 generalize (cutF 32 s).1=wd at *
 generalize (cutF 32 s).2.1=R at *
 generalize (cutF 32 s).2.2=H at *
 cases H with
 | false => focus
              refine Um Z ?_; refine Wo Z (Vq (v := .string _) Z) ?_; refine Zr Z (Yg (a := .string _) (b := .string _) Zb Z Z) (c7 _ (hM)) ?_; rintro _ w1 ⟨rfl, E1⟩
              refine Wo Z (Vq (v := .tuple _) Z) ?_; refine Wo Z (Qi (v := .string _) Z Z) ?_; refine Wo Z (Qi (v := .string _) Z Z) ?_; refine Wo Z (Qi (v := .bool _) Z Z) ?_
              refine Wo Z (Xi (v := .string _) Z) ?_; refine Wo Z (Xi (v := .string _) Z) ?_; refine Wo Z (Xi (v := .bool _) Z) ?_; refine Zn ?_; refine Zq ?_; refine Zq ?_; refine Um Z ?_
              refine Wo Z (Vq (v := .bool _) Z) ?_; refine Wo Z (Ni Z) ?_; refine Zn ?_; refine Xg Z (fun h7 => ?_) (fun h7 => ?_); refine Zq ?_; refine Um Z ?_
              refine Wo Z (Xi (v := .string _) Z) ?_; refine Zn ?_; refine Zy ?_; exact ⟨rfl, E1⟩; contradiction
 | true =>
   have hRl' : R.length ≤ lim := by unfold lim; omega
   have c8 : ∀ w, EMx gMx w (.bool true) () → Does Tryz.prog 150 [str R] w (RetOB w XR ((rdP R).getD []) (rdP R).isSome) := fun w hM => Nf w R hM hRl
   have yn := yesNo_ok
   cases hq : rdP R with
   | none =>
     rw [hq] at c8
     cases hf : theF R with
     | none =>
       have c9 : ∀ w, Does Tryz.prog 159 [str R] w (Ret w (.pointer none)) := fun w => Nl R w hRl' hf
       have ho : okF R = false := by unfold okF; rw [hf]; rfl
       have ea : ask2 p wd R = [119, 104, 97, 116] := by unfold ask2; rw [ho, hq]; simp
       rw [if_pos rfl, ea]
       focus
         refine Vf<|Vo Z<|Zr Z (Yg (a := .string _) (b := .string _) Zb Z Z) (c7 _ (hM)) ?_; rintro _ w1 ⟨rfl, E1⟩; refine Xl Z<|Rs Z<|Rs Z<|Xv Z<|Yj Z<|Yj Z<|Zz Z<|Zn<|Zq<|Zp<|Yi Z<|Ym Z<|Zn<|Xa Z fun h7 => ?_; refine Zv<|Zp<|Vo Z<|Zr Z (Vx (a := .string _) Jt Z) (c8 _ ((Mono.mono E1 hM))) ?_; rintro _ w2 ⟨u1, rfl, E2, hO1⟩; refine Xl Z<|Un u1 Z<|Xv Z<|Yr u1 Z<|Zz Z<|Zn<|Zp<|Vo Z<|Zr Z (Vx (a := .string _) Tryz.call159 Z) (c9 _) ?_; rintro _ w3 ⟨rfl, E3⟩; refine Ub Z<|Zn<|Zq<|Zw<|Zp<|Vo Z<|Wo Z (Vc Z Z)<|Yf Z (fun h8 => ?_) (fun h8 => ?_)
         refine Qc Z<|Wo Z (opv_neq_nil Jj Z Z)<|Yq Z<|Zz Z<|Zn<|Zx Z ?_; refine Zq<|Vf<|Vo Z<|Wo Z (Vc Z Z)<|Yf Z (fun h9 => ?_) (fun h9 => ?_); refine Yi Z<|Yq Z<|Zz Z<|Zn<|Xa Z fun h10 => ?_; refine Zp<|Vo Z<|Wo Z (Vc Z Z)<|Yf Z (fun h11 => ?_) (fun h11 => ?_); refine Yi Z<|Yq Z<|Zz Z<|Zn<|Xa Z fun h12 => ?_; refine Zv<|Zp<|Yj Z<|Zn<|Zy ?_; exact ⟨rfl, exq⟩; refine Zo Z<|Vp Z<|Zz Z<|Zn<|Zx Z ?_; refine Zv<|Zp<|Yj Z<|Zn<|Zy ?_; exact ⟨rfl, exq⟩; refine Zo Z<|Vp Z<|Zz Z<|Zn<|Zx Z ?_
         refine Zp<|Vo Z<|Wo Z (Vc Z Z)<|Yf Z (fun h10 => ?_) (fun h10 => ?_); refine Yi Z<|Yq Z<|Zz Z<|Zn<|Xa Z fun h11 => ?_; refine Zv<|Zp<|Yj Z<|Zn<|Zy ?_; exact ⟨rfl, exq⟩; refine Zo Z<|Vp Z<|Zz Z<|Zn<|Zx Z ?_; refine Zv<|Zp<|Yj Z<|Zn<|Zy ?_; exact ⟨rfl, exq⟩; refine Zo Z<|Zo Z<|Vp Z<|Zz Z<|Zn<|Zx Z ?_; refine Zp<|Vo Z<|Wo Z (Vc Z Z)<|Yf Z (fun h9 => ?_) (fun h9 => ?_); refine Yi Z<|Yq Z<|Zz Z<|Zn<|Xa Z fun h10 => ?_; refine Zp<|Vo Z<|Wo Z (Vc Z Z)<|Yf Z (fun h11 => ?_) (fun h11 => ?_); refine Yi Z<|Yq Z<|Zz Z<|Zn<|Xa Z fun h12 => ?_
         refine Zv<|Zp<|Yj Z<|Zn<|Zy ?_; exact ⟨rfl, exq⟩; refine Zo Z<|Vp Z<|Zz Z<|Zn<|Zx Z ?_; refine Zv<|Zp<|Yj Z<|Zn<|Zy ?_; exact ⟨rfl, exq⟩; refine Zo Z<|Vp Z<|Zz Z<|Zn<|Zx Z ?_; refine Zp<|Vo Z<|Wo Z (Vc Z Z)<|Yf Z (fun h10 => ?_) (fun h10 => ?_); refine Yi Z<|Yq Z<|Zz Z<|Zn<|Xa Z fun h11 => ?_; refine Zv<|Zp<|Yj Z<|Zn<|Zy ?_; exact ⟨rfl, exq⟩; refine Zo Z<|Vp Z<|Zz Z<|Zn<|Zx Z ?_; refine Zv<|Zp<|Yj Z<|Zn<|Zy ?_; exact ⟨rfl, exq⟩
     | some f =>
       have c9 := fun w => Nu R w f hf
       have ho : okF R = true := by unfold okF; rw [hf]; rfl
       have c10 : ∀ (w : World) (v pv : Value), EFm w v f → ESl Ints w pv p → Does Tryz.prog 160 [v, pv, .int .i64 0] w (Ret w (.bool (holdsV R p 0))) := fun w v pv h1 h2 => by
         have := holds_ok p hp f w v pv 0 h1 h2 ⟨Ka, Ka⟩ (by have := theF_some.1 hf; rw [← this.1]; omega)
         rwa [show holdsV R p 0 = f.holds p (0 : Int).toNat by unfold holdsV; rw [hf]; simp [show Nod p 0 from ⟨hp, Ka⟩]]
       have ea : ask2 p wd R = if wd = [104, 111, 108, 100, 115] then ynV (holdsV R p 0) else [119, 104, 97, 116] := by unfold ask2; rw [ho, hq]; simp
       rw [if_pos rfl, ea]
       focus
         refine Vf<|Vo Z<|Zr Z (Yg (a := .string _) (b := .string _) Zb Z Z) (c7 _ (hM)) ?_; rintro _ w1 ⟨rfl, E1⟩; refine Xl Z<|Rs Z<|Rs Z<|Xv Z<|Yj Z<|Yj Z<|Zz Z<|Zn<|Zq<|Zp<|Yi Z<|Ym Z<|Zn<|Xa Z fun h7 => ?_; refine Zv<|Zp<|Vo Z<|Zr Z (Vx (a := .string _) Jt Z) (c8 _ ((Mono.mono E1 hM))) ?_; rintro _ w2 ⟨u1, rfl, E2, hO1⟩; refine Xl Z<|Un u1 Z<|Xv Z<|Yr u1 Z<|Zz Z<|Zn<|Zp<|Vo Z<|Zr Z (Vx (a := .string _) Tryz.call159 Z) (c9 _) ?_; rintro _ w3 ⟨E3, y1, rfl, hy1⟩; refine Ub Z<|Zn<|Zq<|Zw<|Zp<|Vo Z<|Wo Z (Vc Z Z)<|Yf Z (fun h8 => ?_) (fun h8 => ?_)
         refine Qc Z<|Wo Z (opv_neq_some Jj Z Z)<|Yq Z<|Zz Z<|Zn<|Vv Z ?_; refine Zq<|Vf<|Qc Z<|Vb v Z<|Zr Z (Ud (a := .pointer _) (b := v) (c := .int _ _) Gm Z Z Z) (c10 _ _ _ ((Above.here hy1)) ((Mono.mono exq h))) ?_; rintro _ w4 ⟨rfl, E4⟩; refine Zr Z (Vx (a := .bool _) Gn Z) (yn _ _) ?_; rintro _ w5 ⟨rfl, E5⟩; refine Yj Z<|Zn<|Zy ?_; refine Ve (v := .string _) Z ?_; refine ⟨congrArg str ?_, exq⟩; rotate_left; refine Zo Z<|Zo Z<|Vp Z<|Zz Z<|Zn<|Zx Z ?_; refine Zp<|Vo Z<|Wo Z (Vc Z Z)<|Yf Z (fun h9 => ?_) (fun h9 => ?_); refine Yi Z<|Yq Z<|Zz Z<|Zn<|Xa Z fun h10 => ?_
         refine Zp<|Vo Z<|Wo Z (Vc Z Z)<|Yf Z (fun h11 => ?_) (fun h11 => ?_); refine Yi Z<|Yq Z<|Zz Z<|Zn<|Xa Z fun h12 => ?_; refine Zv<|Zp<|Yj Z<|Zn<|Zy ?_; refine Ve (v := .string _) Z ?_; refine ⟨congrArg str ?_, exq⟩; rotate_left; refine Zo Z<|Vp Z<|Zz Z<|Zn<|Zx Z ?_; refine Zv<|Zp<|Yj Z<|Zn<|Zy ?_; refine Ve (v := .string _) Z ?_; refine ⟨congrArg str ?_, exq⟩; rotate_left; refine Zo Z<|Vp Z<|Zz Z<|Zn<|Zx Z ?_; refine Zp<|Vo Z<|Wo Z (Vc Z Z)<|Yf Z (fun h10 => ?_) (fun h10 => ?_); refine Yi Z<|Yq Z<|Zz Z<|Zn<|Xa Z fun h11 => ?_; refine Zv<|Zq<|Vf<|Yj Z<|Zn<|Zy ?_
         refine Ve (v := .string _) Z ?_; refine ⟨congrArg str ?_, exq⟩; rotate_left; refine Zo Z<|Vp Z<|Zz Z<|Zn<|Zx Z ?_; refine Zv<|Zp<|Yj Z<|Zn<|Zy ?_; refine Ve (v := .string _) Z ?_; refine ⟨congrArg str ?_, exq⟩; rotate_left
       all_goals first | rw [if_pos Kd] | rw [if_neg Kd]
   | some q =>
     rw [hq] at c8
     have hqp := (Sa hq).1
     have hq1 := hqp.1
     have c11 : ∀ (w : World) (v u : Value), ESl Ints w v p → ESl Ints w u q → Does Tryz.prog 96 [v, .int .i64 0, u, .int .i64 0] w (Ret w (.bool (hasV p 0 q 0))) := fun w v u h h' => hasSet_ok w v u p q h h' hp hqp 0 0 Ka Ka
     have c12 : ∀ (w : World) (v u : Value), ESl Ints w v p → ESl Ints w u q → Does Tryz.prog 148 [v, .int .i64 0, u, .int .i64 0] w (Ret w (.bool (ssetV p 0 q 0))) := fun w v u h h' => by
       have := sameSet_ok w v u p q h h' hp hqp 0 0 Ka Ka
       rwa [show ssetV p 0 q 0 = decide (Bis p (0 : Int).toNat q (0 : Int).toNat) from decide_eq_decide.2 ⟨fun h => h.2.2, fun h => ⟨⟨hp, Ka⟩, ⟨hqp, Ka⟩, h⟩⟩]
     cases hf : theF R with
     | none =>
       have c9 : ∀ w, Does Tryz.prog 159 [str R] w (Ret w (.pointer none)) := fun w => Nl R w hRl' hf
       have ho : okF R = false := by unfold okF; rw [hf]; rfl
       have ea : ask2 p wd R = if wd = [104, 97, 115] then ynV (hasV p 0 q 0) else if wd = [105, 115] then ynV (ssetV p 0 q 0) else [119, 104, 97, 116] := by unfold ask2; rw [ho, hq]; simp
       rw [if_pos rfl, ea]
       focus
         refine Vf<|Vo Z<|Zr Z (Yg (a := .string _) (b := .string _) Zb Z Z) (c7 _ (hM)) ?_; rintro _ w1 ⟨rfl, E1⟩; refine Xl Z<|Rs Z<|Rs Z<|Xv Z<|Yj Z<|Yj Z<|Zz Z<|Zn<|Zq<|Zp<|Yi Z<|Ym Z<|Zn<|Xa Z fun h7 => ?_; refine Zv<|Zp<|Vo Z<|Zr Z (Vx (a := .string _) Jt Z) (c8 _ ((Mono.mono E1 hM))) ?_; rintro _ w2 ⟨u1, rfl, E2, hO1⟩; refine Xl Z<|Un u1 Z<|Xv Z<|Yr u1 Z<|Zz Z<|Zn<|Zp<|Vo Z<|Zr Z (Vx (a := .string _) Tryz.call159 Z) (c9 _) ?_; rintro _ w3 ⟨rfl, E3⟩; refine Ub Z<|Zn<|Zq<|Zw<|Zp<|Vo Z<|Wo Z (Vc Z Z)<|Yf Z (fun h8 => ?_) (fun h8 => ?_)
         refine Qc Z<|Wo Z (opv_neq_nil Jj Z Z)<|Yq Z<|Zz Z<|Zn<|Zx Z ?_; refine Zq<|Vf<|Vo Z<|Wo Z (Vc Z Z)<|Yf Z (fun h9 => ?_) (fun h9 => ?_); refine Yi Z<|Yq Z<|Zz Z<|Zn<|Xg Z (fun h10 => ?_) (fun h10 => ?_); refine Zp<|Vb v Z<|Vb u1 Z<|Zr Z (Qz (a := v) (b := .int _ _) (c := u1) (d := .int _ _) Tryz.call96 Z Z Z Z) (c11 _ _ _ ((Mono.mono exq h)) ((Mono.mono E3 (Owned.read hO1)))) ?_; rintro _ w4 ⟨rfl, E4⟩; refine Zr Z (Vx (a := .bool _) Gn Z) (yn _ _) ?_; rintro _ w5 ⟨rfl, E5⟩; refine Yj Z<|Zn<|Zy ?_; refine Ve (v := .string _) Z ?_; refine ⟨congrArg str ?_, exq⟩; rotate_left; contradiction; refine Zo Z<|Vp Z<|Zz Z<|Zn<|Zx Z ?_
         refine Zp<|Vo Z<|Wo Z (Vc Z Z)<|Yf Z (fun h10 => ?_) (fun h10 => ?_); refine Yi Z<|Yq Z<|Zz Z<|Zn<|Xg Z (fun h11 => ?_) (fun h11 => ?_); refine Zp<|Vb v Z<|Vb u1 Z<|Zr Z (Qz (a := v) (b := .int _ _) (c := u1) (d := .int _ _) Tryz.call148 Z Z Z Z) (c12 _ _ _ ((Mono.mono exq h)) ((Mono.mono E3 (Owned.read hO1)))) ?_; rintro _ w4 ⟨rfl, E4⟩; refine Zr Z (Vx (a := .bool _) Gn Z) (yn _ _) ?_; rintro _ w5 ⟨rfl, E5⟩; refine Yj Z<|Zn<|Zy ?_; refine Ve (v := .string _) Z ?_; refine ⟨congrArg str ?_, exq⟩; rotate_left; contradiction; refine Zo Z<|Vp Z<|Zz Z<|Zn<|Zx Z ?_; refine Zv<|Zp<|Yj Z<|Zn<|Zy ?_; refine Ve (v := .string _) Z ?_; refine ⟨congrArg str ?_, exq⟩; rotate_left
         refine Zo Z<|Zo Z<|Vp Z<|Zz Z<|Zn<|Zx Z ?_; refine Zp<|Vo Z<|Wo Z (Vc Z Z)<|Yf Z (fun h9 => ?_) (fun h9 => ?_); refine Yi Z<|Yq Z<|Zz Z<|Zn<|Xg Z (fun h10 => ?_) (fun h10 => ?_); refine Zp<|Vb v Z<|Vb u1 Z<|Zr Z (Qz (a := v) (b := .int _ _) (c := u1) (d := .int _ _) Tryz.call96 Z Z Z Z) (c11 _ _ _ ((Mono.mono exq h)) ((Mono.mono E3 (Owned.read hO1)))) ?_; rintro _ w4 ⟨rfl, E4⟩; refine Zr Z (Vx (a := .bool _) Gn Z) (yn _ _) ?_; rintro _ w5 ⟨rfl, E5⟩; refine Yj Z<|Zn<|Zy ?_; refine Ve (v := .string _) Z ?_; refine ⟨congrArg str ?_, exq⟩; rotate_left; contradiction; refine Zo Z<|Vp Z<|Zz Z<|Zn<|Zx Z ?_
         refine Zp<|Vo Z<|Wo Z (Vc Z Z)<|Yf Z (fun h10 => ?_) (fun h10 => ?_); refine Yi Z<|Yq Z<|Zz Z<|Zn<|Xg Z (fun h11 => ?_) (fun h11 => ?_); refine Zp<|Vb v Z<|Vb u1 Z<|Zr Z (Qz (a := v) (b := .int _ _) (c := u1) (d := .int _ _) Tryz.call148 Z Z Z Z) (c12 _ _ _ ((Mono.mono exq h)) ((Mono.mono E3 (Owned.read hO1)))) ?_; rintro _ w4 ⟨rfl, E4⟩; refine Zr Z (Vx (a := .bool _) Gn Z) (yn _ _) ?_; rintro _ w5 ⟨rfl, E5⟩; refine Yj Z<|Zn<|Zy ?_; refine Ve (v := .string _) Z ?_; refine ⟨congrArg str ?_, exq⟩; rotate_left; contradiction; refine Zo Z<|Vp Z<|Zz Z<|Zn<|Zx Z ?_; refine Zv<|Zp<|Yj Z<|Zn<|Zy ?_; refine Ve (v := .string _) Z ?_; refine ⟨congrArg str ?_, exq⟩; rotate_left
       all_goals first | rw [if_pos Kd] | (rw [if_neg Kd]; first | rw [if_pos Kd] | rw [if_neg Kd])
     | some f =>
       have c9 := fun w => Nu R w f hf
       have ho : okF R = true := by unfold okF; rw [hf]; rfl
       have c10 : ∀ (w : World) (v pv : Value), EFm w v f → ESl Ints w pv p → Does Tryz.prog 160 [v, pv, .int .i64 0] w (Ret w (.bool (holdsV R p 0))) := fun w v pv h1 h2 => by
         have := holds_ok p hp f w v pv 0 h1 h2 ⟨Ka, Ka⟩ (by have := theF_some.1 hf; rw [← this.1]; omega)
         rwa [show holdsV R p 0 = f.holds p (0 : Int).toNat by unfold holdsV; rw [hf]; simp [show Nod p 0 from ⟨hp, Ka⟩]]
       have ea : ask2 p wd R = if wd = [104, 111, 108, 100, 115] then ynV (holdsV R p 0) else if wd = [104, 97, 115] then ynV (hasV p 0 q 0) else if wd = [105, 115] then ynV (ssetV p 0 q 0) else [119, 104, 97, 116] := by unfold ask2; rw [ho, hq]; simp
       rw [if_pos rfl, ea]
       focus
         refine Vf<|Vo Z<|Zr Z (Yg (a := .string _) (b := .string _) Zb Z Z) (c7 _ (hM)) ?_; rintro _ w1 ⟨rfl, E1⟩; refine Xl Z<|Rs Z<|Rs Z<|Xv Z<|Yj Z<|Yj Z<|Zz Z<|Zn<|Zq<|Zp<|Yi Z<|Ym Z<|Zn<|Xa Z fun h7 => ?_; refine Zv<|Zp<|Vo Z<|Zr Z (Vx (a := .string _) Jt Z) (c8 _ ((Mono.mono E1 hM))) ?_; rintro _ w2 ⟨u1, rfl, E2, hO1⟩; refine Xl Z<|Un u1 Z<|Xv Z<|Yr u1 Z<|Zz Z<|Zn<|Zp<|Vo Z<|Zr Z (Vx (a := .string _) Tryz.call159 Z) (c9 _) ?_; rintro _ w3 ⟨E3, y1, rfl, hy1⟩; refine Ub Z<|Zn<|Zq<|Zw<|Zp<|Vo Z<|Wo Z (Vc Z Z)<|Yf Z (fun h8 => ?_) (fun h8 => ?_)
         refine Qc Z<|Wo Z (opv_neq_some Jj Z Z)<|Yq Z<|Zz Z<|Zn<|Vv Z ?_; refine Zq<|Vf<|Qc Z<|Vb v Z<|Zr Z (Ud (a := .pointer _) (b := v) (c := .int _ _) Gm Z Z Z) (c10 _ _ _ ((Above.here hy1)) ((Mono.mono exq h))) ?_; rintro _ w4 ⟨rfl, E4⟩; refine Zr Z (Vx (a := .bool _) Gn Z) (yn _ _) ?_; rintro _ w5 ⟨rfl, E5⟩; refine Yj Z<|Zn<|Zy ?_; refine Ve (v := .string _) Z ?_; refine ⟨congrArg str ?_, exq⟩; rotate_left; refine Zo Z<|Zo Z<|Vp Z<|Zz Z<|Zn<|Zx Z ?_; refine Zp<|Vo Z<|Wo Z (Vc Z Z)<|Yf Z (fun h9 => ?_) (fun h9 => ?_); refine Yi Z<|Yq Z<|Zz Z<|Zn<|Xg Z (fun h10 => ?_) (fun h10 => ?_)
         refine Zp<|Vb v Z<|Vb u1 Z<|Zr Z (Qz (a := v) (b := .int _ _) (c := u1) (d := .int _ _) Tryz.call96 Z Z Z Z) (c11 _ _ _ ((Mono.mono exq h)) ((Mono.mono E3 (Owned.read hO1)))) ?_; rintro _ w4 ⟨rfl, E4⟩; refine Zr Z (Vx (a := .bool _) Gn Z) (yn _ _) ?_; rintro _ w5 ⟨rfl, E5⟩; refine Yj Z<|Zn<|Zy ?_; refine Ve (v := .string _) Z ?_; refine ⟨congrArg str ?_, exq⟩; rotate_left; contradiction; refine Zo Z<|Vp Z<|Zz Z<|Zn<|Zx Z ?_; refine Zp<|Vo Z<|Wo Z (Vc Z Z)<|Yf Z (fun h10 => ?_) (fun h10 => ?_); refine Yi Z<|Yq Z<|Zz Z<|Zn<|Xg Z (fun h11 => ?_) (fun h11 => ?_)
         refine Zp<|Vb v Z<|Vb u1 Z<|Zr Z (Qz (a := v) (b := .int _ _) (c := u1) (d := .int _ _) Tryz.call148 Z Z Z Z) (c12 _ _ _ ((Mono.mono exq h)) ((Mono.mono E3 (Owned.read hO1)))) ?_; rintro _ w4 ⟨rfl, E4⟩; refine Zr Z (Vx (a := .bool _) Gn Z) (yn _ _) ?_; rintro _ w5 ⟨rfl, E5⟩; refine Yj Z<|Zn<|Zy ?_; refine Ve (v := .string _) Z ?_; refine ⟨congrArg str ?_, exq⟩; rotate_left; contradiction; refine Zo Z<|Vp Z<|Zz Z<|Zn<|Zx Z ?_; refine Zv<|Zp<|Yj Z<|Zn<|Zy ?_; refine Ve (v := .string _) Z ?_; refine ⟨congrArg str ?_, exq⟩; rotate_left
       all_goals first | rw [if_pos Kd] | (rw [if_neg Kd]; first | rw [if_pos Kd] | (rw [if_neg Kd]; first | rw [if_pos Kd] | rw [if_neg Kd]))
noncomputable def lnV (d:Dsk) (s:List UInt8):Dsk × List UInt8:=match rdD s with
 | some a=>((doV d a).1,okV (doV d a).2)
 | none=>(d,askV d.now s)
open Classical in
theorem deskLine_ok (w:World) (hM:EMx gMx w (.bool true) ()) (hT:ETb w (.bool true) ()) (u1 u2:Value) (d:Dsk) (h1:ESl Ints w u1 d.now) (h2:ESl (ESl Ints) w u2 d.past) (hd:DkOk d) (s:List UInt8) (hs:s.length≤1048576) :
  Does Tryz.prog 59 [.agg #[u1,u2],str s] w (RetDkT w 23 88 3 (lnV d s).1.now (lnV d s).1.past (lnV d s).2):=by
 cases ha:rdD s with
 | some a =>
   have := deskLineD_ok w hM u1 u2 d h1 h2 hd s hs a ha
   unfold lnV; rw [ha]; exact this
 | none =>
   rw [show lnV d s = (d, askV d.now s) by unfold lnV; rw [ha]]
   have icu1 : isCell u1 = true := Uu h1
   have icu2 : isCell u2 = true := Uu h2
   have bnd : ∀ q, Pic q → q.length ≤ 100 ∧ ∀ r ∈ q, r.length ≤ 100 := fun q hq => ⟨by have := hq.2.1; omega, fun r hr => by rw [(hq.2.2 r hr).1]; have := hq.2.1; omega⟩
   have hppl := hd.2.1
   have k0 : ∀ (w : World), EMx gMx w (.bool true) () → Does Tryz.prog 103 [str s] w (Ret w (.tuple #[.agg #[.int .i64 0, str [], .int .i64 0], .bool false])) := fun w hM => by
     have := Ny w s hM hs
     rw [ha] at this; exact this
   have k1 : ∀ w, ESl Ints w u1 d.now → ESl (ESl Ints) w u2 d.past → Does Tryz.prog 77 [.agg #[u1, u2]] w (RetDk w 23 88 3 d.now d.past) := fun w h1 h2 => Sh w u1 u2 d.now d.past h1 h2 (bnd _ hd.1.1) Ka (fun q hq => bnd q (hd.2.2 q hq).1)
   have k2 : ∀ w, EMx gMx w (.bool true) () → ETb w (.bool true) () → ESl Ints w u1 d.now → Does Tryz.prog 112 [u1, str s] w (Ret w (str (askV d.now s))) := fun w hM hT h => asked_ok w hM hT u1 d.now h hd.1.1 s hs
   refine Su Tryz.func59 Z Tryz.results59 Tryz.ntmps59 Z Ks Ko ?_
   have heldS : w = w := rfl
   focus
     refine Zp<|Yl Z Z Z ?_; rintro b1 w1 hb1 E1 hB1; have hlb1 := hB1.lt; refine Yp Z Xf ?_; rintro b2 w2 hb2 E2 hB2; have hlb2 := hB2.lt; refine Yj Z<|Zn<|Zq<|Zp<|Vo Z<|Zr Z (Vx (a := .string _) Tryz.call103 Z) (k0 _ ((Mono.mono exq hM))) ?_; rintro _ w3 ⟨rfl, E3⟩; have hs3 := E3.size; refine Xl Z<|WsxA Z<|Xv Z<|Ru Z Yx ?_; rintro b3 w4 hb3 E4 hB3; have hlb3 := hB3.lt; refine Wo_st3 Z Kx Z Z Ke Ke Ke hB3 Ka (((E1.trans E2).trans E3).trans E4) ?_; rintro w5 E5 hB3 K1 hz1; have E6 := ((E2.trans E3).trans E4).wroteAt exq E5 K1 hz1 Ka; have szE6 := E6.size; have hB1 := (hB1.ext exq).of_heap (K1 _ Ka); have hB2 := (hB2.ext exq).of_heap (K1 _ Ka)
     refine Zz Z<|Zn<|Zp<|Yi Z<|Zn<|Zx Z ?_; refine Zv<|Zq<|Rb (fun w' => Ext w w') Xr Z Kb ?_; intro w6 E9 K2 hz2; refine St 2 Ky Ja Z Z exq<|WtmT 4 Z Z exq<|Wha [0, 3]<|Vu Z ?_ ?_; refine Xc Ks Ko (hB1.ext E9) Z<|Wnx exq<|Wha [1, 3]<|Vu Z ?_ ?_; refine Zr Z (Vx (a := .agg _) Gf Z) (k1 _ ((Mono.mono exq h1)) ((Mono.mono exq h2))) ?_; rintro _ w7 ⟨u3, q1, m1, rfl, E10, hO1, hQ1, hm1, hn1⟩; have icu3 := OwnedB.isC hO1; have icq1 := OwnedB.isC (Owned.toB hQ1); refine Wnx exq<|Wha [3]<|Wh1 Z<|Yu u1 Kw (hB1.ext exq) Z<|Wnx exq<|Wha [5]<|Wh1 Z<|Zr Z (Yg (a := u1) (b := .string _) Tryz.call112 Z Z) (k2 _ ((Mono.mono exq hM)) ((Mono.mono exq hT)) ((Mono.mono exq h1))) ?_
     rintro _ w8 ⟨rfl, E11⟩; have hs7 := E11.size; refine Wnx exq<|Wha [6]<|Wh1 Z<|Xj Z Ko Z Z Ke Ke (hB2.ext ((E9.trans E10).trans E11)) Ka (((E5.trans E9).trans E10).trans E11) ?_; rintro w9 E12 hB2 K3 hz3; have hO1 := (hO1.ext E11).wrote K3 Ka; have hQ1 := (hQ1.toB.ext E11).wrote K3 Ka; refine Wnx E12<|Uq 7 Z Z E12<|Yh Kb ?_; refine Zy ?_; rotate_left; refine Wh1 Z<|Yu u1 Kw (hB1.ext E9) Z<|Wnx exq<|Wha [1]<|Wh1 Z<|Zr Z (Vx (a := .agg _) Gf Z) (k1 _ ((Mono.mono exq h1)) ((Mono.mono exq h2))) ?_; rintro _ w7 ⟨u3, q1, m1, rfl, E10, hO1, hQ1, hm1, hn1⟩; have icu3 := OwnedB.isC hO1; have icq1 := OwnedB.isC (Owned.toB hQ1)
     refine Wnx exq<|Wha [5]<|Wh1 Z<|Zr Z (Yg (a := u1) (b := .string _) Tryz.call112 Z Z) (k2 _ ((Mono.mono exq hM)) ((Mono.mono exq hT)) ((Mono.mono exq h1))) ?_; rintro _ w8 ⟨rfl, E11⟩; have hs7 := E11.size; refine Wnx exq<|Wha [6]<|Wh1 Z<|Xj Z Ko Z Z Ke Ke (hB2.ext ((E9.trans E10).trans E11)) Ka (((E5.trans E9).trans E10).trans E11) ?_; rintro w9 E12 hB2 K3 hz3; have hO1 := (hO1.ext E11).wrote K3 Ka; have hQ1 := (hQ1.toB.ext E11).wrote K3 Ka; refine Wnx E12<|Uq 7 Z Z E12<|Yh Kb ?_; refine Zy ?_; rotate_left
     refine Wh1 Z<|Yu u1 Kw (hB1.ext E9) Z<|Wnx exq<|Wha [0]<|Wh1 Z<|Xc Ks Ko (hB1.ext E9) Z<|Wnx exq<|Wha [1]<|Wh1 Z<|Zr Z (Vx (a := .agg _) Gf Z) (k1 _ ((Mono.mono exq h1)) ((Mono.mono exq h2))) ?_; rintro _ w7 ⟨u3, q1, m1, rfl, E10, hO1, hQ1, hm1, hn1⟩; have icu3 := OwnedB.isC hO1; have icq1 := OwnedB.isC (Owned.toB hQ1); refine Wnx exq<|Wha [5]<|Wh1 Z<|Zr Z (Yg (a := u1) (b := .string _) Tryz.call112 Z Z) (k2 _ ((Mono.mono exq hM)) ((Mono.mono exq hT)) ((Mono.mono exq h1))) ?_; rintro _ w8 ⟨rfl, E11⟩; have hs7 := E11.size; refine Wnx exq<|Wha [6]<|Wh1 Z<|Xj Z Ko Z Z Ke Ke (hB2.ext ((E9.trans E10).trans E11)) Ka (((E5.trans E9).trans E10).trans E11) ?_; rintro w9 E12 hB2 K3 hz3
     have hO1 := (hO1.ext E11).wrote K3 Ka; have hQ1 := (hQ1.toB.ext E11).wrote K3 Ka; refine Wnx E12<|Uq 7 Z Z E12<|Yh Kb ?_; refine Zy ?_; rotate_left
   all_goals exact ⟨b2, u3, q1, rfl, hB2, u3, q1, m1, rfl, by repeat (first | assumption | refine Ext.trans Kd ?_), hO1.wide Ka (Nat.le_refl _), hQ1.o, Ka, Ka⟩
open Classical in
noncomputable def dlV (d:Dsk) (s:List UInt8):Dsk × List UInt8:=if DkOk d then lnV d s else (⟨[],[]⟩,[])
def codM:Option Nat→Int × Bool
 | some c=>((c:Int),true)
 | none=>(-1,false)
theorem specCode_back (p:List (List Int)) (hp:Pic p) (w:World) (v:Value) (k:Nat) (h:ESl Ints w v p) (hk:k < p.length) (hc:cback p k=true) :
  Does Tryz.prog 63 [v,.int .i64 (k:Int)] w (Ret w (.tuple #[.int .i64 (-1),.bool false])):=by
 have hle:=h.le
 have k1 : ∀ (w:World) (pv:Value),ESl Ints w pv p→Does Tryz.prog 115 [pv] w (Ret w (.bool true)):=fun w pv h=>by
  have:=Ue w pv p h;rwa [decide_eq_true hp] at this
 have k2 : ∀ w,Does Tryz.prog 116 [.int .i64 (k:Int),.int .i64 0,.int .i64 ((p.length:Int) - 1)] w (Ret w (.bool true)):=fun w=>by
  have:=Uz (k:Int) 0 ((p.length:Int) - 1) w
  rwa [decide_eq_true Ka] at this
 have k3 : ∀ (w:World) (pv:Value),ESl Ints w pv p→Does Tryz.prog 117 [pv,.int .i64 (k:Int)] w (Ret w (.bool true)):=fun w pv h=>by
  have:=Ss w pv p h hp k hk;rwa [hc] at this
 refine Xp Tryz.func63 Z Tryz.results63 Tryz.ntmps63 Z ?_
 focus
  refine Zp<|Vg Z<|Zz Z<|Zn<|Zq<|Zp<|Vb v Z<|Zr Z (Vx (a:=v) Jr Z) (k1 _ _ (h)) ?_;rintro _ w1 ⟨rfl,E1⟩;refine Ym Z<|Yn Z (Vq (v:=.bool _) Z) (fun h1=>?_) (fun h1=>?_);contradiction;refine Zu Z<|Vb v Z<|Vk Kp Z h<|Qm Z<|Zr Z (Ud (a:=.int _ _) (b:=.int _ _) (c:=.int _ _) Jl Z Z Z) (k2 _) ?_;rintro _ w2 ⟨rfl,E2⟩;refine Ym Z<|Vp Z<|Yn Z (Vq (v:=.bool _) Z) (fun h2=>?_) (fun h2=>?_);contradiction;refine Vb v Z<|Zu Z<|Zr Z (Yg (a:=v) (b:=.int _ _) Tryz.call117 Z Z) (k3 _ _ ((Mono.mono exq h))) ?_;rintro _ w3 ⟨rfl,E3⟩;refine Vp Z<|Zn<|Vv Z ?_;refine Zp<|Vg Z<|Zz Z<|Zn<|Zy ?_;exact ⟨rfl,exq⟩
theorem specCode_ok (p:List (List Int)) (hp:Pic p) : ∀ (r:Nat) (w:World) (v:Value) (k:Nat),ESl Ints w v p→k < p.length→cback p k=false→(rf p k).length≤r →
  Does Tryz.prog 63 [v,.int .i64 (k:Int)] w (Ret w (.tuple #[.int .i64 (codM (cod p r k)).1,.bool (codM (cod p r k)).2])):=by
 have hp5:=hp.2.1
 intro r
 induction r with
 | zero =>
   intro w v k h hk hc hr
   have hm := (Qn hp hk).2 (.refl k)
   rw [List.length_eq_zero_iff.1 (Nat.le_zero.1 hr)] at hm; cases hm
 | succ r ih =>
   intro w v k h hk hc hr
   have hrow := hp.row hk
   have k1 : ∀ (w : World) (pv : Value), ESl Ints w pv p → Does Tryz.prog 115 [pv] w (Ret w (.bool true)) := fun w pv h => by
     have := Ue w pv p h; rwa [decide_eq_true hp] at this
   have k2 : ∀ w, Does Tryz.prog 116 [.int .i64 (k : Int), .int .i64 0, .int .i64 ((p.length : Int) - 1)] w (Ret w (.bool true)) := fun w => by
     have := Uz (k : Int) 0 ((p.length : Int) - 1) w
     rwa [decide_eq_true Ka] at this
   have k3 : ∀ (w : World) (pv : Value), ESl Ints w pv p → Does Tryz.prog 117 [pv, .int .i64 (k : Int)] w (Ret w (.bool false)) := fun w pv h => by
     have := Ss w pv p h hp k hk; rwa [hc] at this
   have harr : arr p k = (List.range p.length).filter fun j => decide (p[k].getD j 0 = 1) := by
     unfold arr; rw [Ya hk]; unfold arrR; rw [hrow]
   refine Xp Tryz.func63 Z Tryz.results63 Tryz.ntmps63 Z ?_
   focus
     refine Zp<|Vg Z<|Zz Z<|Zn<|Zq<|Zp<|Vb v Z<|Zr Z (Vx (a := v) Jr Z) (k1 _ _ (h)) ?_; rintro _ w1 ⟨rfl, E1⟩; refine Ym Z<|Yn Z (Vq (v := .bool _) Z) (fun h1 => ?_) (fun h1 => ?_); contradiction; refine Zu Z<|Vb v Z<|Vk Kp Z h<|Qm Z<|Zr Z (Ud (a := .int _ _) (b := .int _ _) (c := .int _ _) Jl Z Z Z) (k2 _) ?_; rintro _ w2 ⟨rfl, E2⟩; refine Ym Z<|Vp Z<|Yn Z (Vq (v := .bool _) Z) (fun h2 => ?_) (fun h2 => ?_); contradiction; refine Vb v Z<|Zu Z<|Zr Z (Yg (a := v) (b := .int _ _) Tryz.call117 Z Z) (k3 _ _ ((Mono.mono exq h))) ?_; rintro _ w3 ⟨rfl, E3⟩; refine Vp Z<|Zn<|Zx Z ?_; refine Zv<|Zp<|Vg Z<|Zn<|Zq<|Zp<|Vg Z<|Zn<|Zw ?_
   refine Vy [4, 5, 6, 7, 8, 9, 26, 27, 28, 29, 30, 31, 32, 33, 34, 35, 36, 37, 38, 39, 40, 41, 42, 43, 44, 45, 46, 47, 48, 49, 50, 51, 52, 53, 54, 55] (fun ((j, s) : Nat × Nat) => [(7, .int .i64 (j : Nat)), (6, .int .i64 (s : Nat))]) (fun (j, s) w' => Ext w w' ∧ j ≤ p.length ∧ s < 65536 ∧ ((List.range j).filter fun j => decide (p[k].getD j 0 = 1)).foldl (fun o j => codS o (cod p r j)) (some 0) = some s) (fun x => p.length - x.1) (0, 0) Kg ?_ ?_
   · exact ⟨by exact ((E1.trans E2).trans E3), Nat.zero_le _, Ka, Ki⟩
   rintro ⟨j, s⟩ ρj w2 ⟨E2, hj, hs, hf⟩
   by_cases hjl : j < p.length
   · have hfs := Xq (fun j => decide (p[k].getD j 0 = 1)) j
     have hgd : p[k].getD j 0 = p[k][j]'Ka := Ya Ka
     by_cases hb : p[k][j]'Ka = 1
     · rw [if_pos (by rw [hgd, hb]; rfl)] at hfs
       have hmm : j ∈ arr p k := by rw [harr, List.mem_filter]; exact ⟨List.mem_range.2 hjl, by rw [hgd, hb]; rfl⟩
       have hrl := rf_lt hp hk hc hmm
       have hcb := Sx hp hk hc hmm
       have k4 : ∀ y, cod p r j = y → ∀ (w : World) (pv : Value), ESl Ints w pv p → Does Tryz.prog 63 [pv, .int .i64 (j : Int)] w (Ret w (.tuple #[.int .i64 (codM y).1, .bool (codM y).2])) := fun y e w pv h => e ▸ ih w pv j h hjl hcb Ka
       have hstep : ((List.range (j + 1)).filter fun j => decide (p[k].getD j 0 = 1)).foldl (fun o j => codS o (cod p r j)) (some 0) = codS (some s) (cod p r j) := by rw [hfs, List.foldl_append, hf]; rfl
       have hdead : codS (some s) (cod p r j) = none → cod p (r + 1) k = none := fun e => by
         show (arr p k).foldl (fun o j => codS o (cod p r j)) (some 0) = none
         have er : List.range p.length = List.range (j + 1) ++ (List.range p.length).drop (j + 1) := by
           conv => lhs; rw [← List.take_append_drop (j + 1) (List.range p.length)]
           rw [List.take_range, Nat.min_eq_left Ka]
         rw [harr, er, List.filter_append, List.foldl_append, hstep, e, cod_none]
       cases hy : cod p r j with
       | none =>
         have k5 : ∀ (w : World) (pv : Value), ESl Ints w pv p → Does Tryz.prog 63 [pv, .int .i64 (j : Int)] w (Ret w (.tuple #[.int .i64 (-1), .bool false])) := k4 none hy
         have hn := hdead (by rw [hy]; rfl)
         simp only [hn, codM]
         clear k4
         focus
           refine Zq<|Zp<|Zu Z<|Vb v Z<|Vk Kp Z h<|Vi Z<|Zn<|Zs Z (fun h3 => ?_) (fun h3 => ?_); refine Zv<|Zq<|Zw<|Zp<|Vb v Z<|Zu Z<|Yb Kp Kt Kz Z (fun _ => Z) Z h E2 Z Kf ?_; rintro _ u1 hu1; refine Zu Z<|Yb Kn Kl Km Z (fun _ => Z) Z hu1 E2 Z Kf ?_; rintro _ _ rfl; refine Vm Z<|Zn<|Zs Z (fun h4 => ?_) (fun h4 => ?_); refine Zp<|Vb v Z<|Zu Z<|Zr Z (Yg (a := v) (b := .int _ _) Tryz.call63 Z Z) (k5 _ _ ((Mono.mono E2 h))) ?_; rintro _ w4 ⟨rfl, E4⟩
           refine Xl Z<|WsxI Z<|Xv Z<|Vg Z<|Zz Z<|Zn<|Zq<|Zp<|Yi Z<|Ym Z<|Yn Z (Vq (v := .bool _) Z) (fun h5 => ?_) (fun h5 => ?_); refine Zo Z<|Zo Z<|Yq Z<|Zn<|Vv Z ?_; refine Zp<|Vg Z<|Zz Z<|Zn<|Zy ?_; exact ⟨rfl, exq⟩; contradiction; contradiction; (exfalso; omega)
       | some m =>
         have k5 : ∀ (w : World) (pv : Value), ESl Ints w pv p → Does Tryz.prog 63 [pv, .int .i64 (j : Int)] w (Ret w (.tuple #[.int .i64 (m : Int), .bool true])) := k4 (some m) hy
         have hm6 := cod_lt hy
         clear k4
         by_cases hm15 : m ≤ 15
         · rw [hy, show codS (some s) (some m) = some (s ||| 1 <<< m) from if_pos hm15] at hstep
           have hsh : (1 : Int).toNat <<< ((m : Nat) : Int).toNat ≤ 32768 := by
             show 1 <<< m ≤ 32768
             rw [Nat.one_shiftLeft]; exact Nat.pow_le_pow_right (show 2 > 0 by omega) hm15
           have hns : s ||| 1 <<< m < 65536 := Nat.or_lt_two_pow (n := 16) hs (by have : 1 <<< m ≤ 32768 := hsh; omega)
           focus
             refine Zq<|Zp<|Zu Z<|Vb v Z<|Vk Kp Z h<|Vi Z<|Zn<|Zs Z (fun h3 => ?_) (fun h3 => ?_); refine Zv<|Zq<|Zw<|Zp<|Vb v Z<|Zu Z<|Yb Kp Kt Kz Z (fun _ => Z) Z h E2 Z Kf ?_; rintro _ u1 hu1; refine Zu Z<|Yb Kn Kl Km Z (fun _ => Z) Z hu1 E2 Z Kf ?_; rintro _ _ rfl; refine Vm Z<|Zn<|Zs Z (fun h4 => ?_) (fun h4 => ?_); refine Zp<|Vb v Z<|Zu Z<|Zr Z (Yg (a := v) (b := .int _ _) Tryz.call63 Z Z) (k5 _ _ ((Mono.mono E2 h))) ?_; rintro _ w4 ⟨rfl, E4⟩
             refine Xl Z<|WsxI Z<|Xv Z<|Vg Z<|Zz Z<|Zn<|Zq<|Zp<|Yi Z<|Ym Z<|Yn Z (Vq (v := .bool _) Z) (fun h5 => ?_) (fun h5 => ?_); contradiction; refine Zu Z<|Qe Z<|Vp Z<|Zn<|Zt Z fun h6 => ?_; refine Zv<|Vf<|Zu Z<|Zu Z<|Wo Z (opv_shl Z Z Ka) ?_; rotate_left; contradiction; (exfalso; omega)
           refine Wo Z (opv_or Z Z ⟨Int.natCast_nonneg _, Ka, Int.natCast_nonneg _, Int.le_trans (Int.ofNat_le.2 (show _ ≤ 32768 by assumption)) Kc⟩) ?_
           focus
             refine Vg Z<|Zn<|Vf<|Zu Z<|Vr Z<|Vg Z<|Zn ?_
           refine ⟨((j + 1, s ||| 1 <<< m)), Kg, Kh, ?_, ?_⟩
           · exact ⟨by exact (E2.trans E4), Ka, hns, hstep⟩
           · simp only; omega
         · have hn := hdead (by rw [hy]; exact if_neg hm15)
           simp only [hn, codM]
           focus
             refine Zq<|Zp<|Zu Z<|Vb v Z<|Vk Kp Z h<|Vi Z<|Zn<|Zs Z (fun h3 => ?_) (fun h3 => ?_); refine Zv<|Zq<|Zw<|Zp<|Vb v Z<|Zu Z<|Yb Kp Kt Kz Z (fun _ => Z) Z h E2 Z Kf ?_; rintro _ u1 hu1; refine Zu Z<|Yb Kn Kl Km Z (fun _ => Z) Z hu1 E2 Z Kf ?_; rintro _ _ rfl; refine Vm Z<|Zn<|Zs Z (fun h4 => ?_) (fun h4 => ?_); refine Zp<|Vb v Z<|Zu Z<|Zr Z (Yg (a := v) (b := .int _ _) Tryz.call63 Z Z) (k5 _ _ ((Mono.mono E2 h))) ?_; rintro _ w4 ⟨rfl, E4⟩
             refine Xl Z<|WsxI Z<|Xv Z<|Vg Z<|Zz Z<|Zn<|Zq<|Zp<|Yi Z<|Ym Z<|Yn Z (Vq (v := .bool _) Z) (fun h5 => ?_) (fun h5 => ?_); contradiction; refine Zu Z<|Qe Z<|Vp Z<|Zn<|Zs Z (fun h6 => ?_) (fun h6 => ?_); refine Zq<|Vf<|Vg Z<|Zz Z<|Zn<|Zy ?_; exact ⟨rfl, exq⟩; (exfalso; omega); contradiction; (exfalso; omega)
     · rw [if_neg (by rw [hgd]; simpa using hb), List.append_nil] at hfs
       focus
         refine Zq<|Zp<|Zu Z<|Vb v Z<|Vk Kp Z h<|Vi Z<|Zn<|Zs Z (fun h3 => ?_) (fun h3 => ?_); refine Zv<|Zq<|Zw<|Zp<|Vb v Z<|Zu Z<|Yb Kp Kt Kz Z (fun _ => Z) Z h E2 Z Kf ?_; rintro _ u1 hu1; refine Zu Z<|Yb Kn Kl Km Z (fun _ => Z) Z hu1 E2 Z Kf ?_; rintro _ _ rfl; refine Vm Z<|Zn<|Vj Z fun h4 => ?_; refine Zv<|Vf<|Zu Z<|Vr Z<|Vg Z<|Zn ?_; rotate_left; (exfalso; omega)
       refine ⟨((j + 1, s)), Kg, Kh, ?_, ?_⟩
       · exact ⟨by exact E2, Ka, hs, by rw [hfs]; exact hf⟩
       · simp only; omega
   · obtain rfl : j = p.length := by omega
     rw [← harr] at hf
     have hfin : cod p (r + 1) k = some s := hf
     simp only [hfin, codM]
     focus
       refine Zq<|Zp<|Zu Z<|Vb v Z<|Vk Kp Z h<|Vi Z<|Zn<|Zt Z fun h3 => ?_; refine Vw ?_; refine Vd ?_; refine Zp<|Zu Z<|Vg Z<|Zz Z<|Zn<|Zy ?_; exact ⟨rfl, E2⟩
theorem spec_CodeAt_ok (w:World) (v:Value) (p:List (List Int)) (h:ESl Ints w v p) (hp:Pic p):Does Tryz.prog 63 [v,.int .i64 0] w (Ret w (.tuple #[.int .i64 (codeV p 0).1,.bool (codeV p 0).2])):=by
 have hz:Nod p 0:=⟨hp,by have:=hp.1;omega⟩
 cases hc:cback p (0:Int).toNat with
 | false =>
   have eM : ∀ o : Option Nat, (match o with | some c => ((c : Int), true) | none => (-1, false)) = codM o := fun o => by cases o <;> rfl
   have := specCode_ok p hp p.length w v 0 h (by have := hp.1; omega) hc Ma
   rw [show codeV p 0 = codM (cod p p.length 0) by unfold codeV; rw [if_pos ⟨hz, hc⟩]; exact eM _]
   exact this
 | true =>
   rw [show codeV p 0 = (-1, false) from if_neg fun h => by rw [hc] at h; exact absurd h.2 Kc]
   exact specCode_back p hp w v 0 h (by have := hp.1; omega) hc
end Go.Proofs.YtbgpppaljpngmaaGreatDoor
