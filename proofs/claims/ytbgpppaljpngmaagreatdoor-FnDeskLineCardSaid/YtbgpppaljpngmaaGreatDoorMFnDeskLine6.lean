/- Lemmas for FnDeskLine. -/
import Derived.Test.YtbgpppaljpngmaaGreatDoorMFnDeskLine5
import Derived.Test.YtbgpppaljpngmaaGreatDoorProg
import Derived.Shelf.LaysM
import Derived.Lib.LaidTab
namespace Go.Proofs.YtbgpppaljpngmaaGreatDoor
open Go.Hs
set_option maxRecDepth 10000
set_option maxHeartbeats 4000000
set_option linter.unusedVariables false
theorem Nj {s:List UInt8} {k:Nat} (h:k < s.length):s.drop k=s.getD k 0::s.drop (k+1):=by
 rw [List.drop_eq_getElem_cons h,List.getD_eq_getElem?_getD,List.getElem?_eq_getElem h];rfl
theorem l10End_ok : ∀ (m:Nat) (s:List UInt8) (k:Nat) (w:World),s.length≤lim→s.length - k≤m →
  Does Tryz.prog 163 [str s,.int .i64 (k:Int)] w (Ret w (.int .i64 (endV (s.drop k) s.length))):=by
 intro m
 induction m with
 | zero =>
   intro s k w hl hm
   unfold lim at hl
   have e : s.drop k = [] := List.drop_eq_nil_of_le Ka
   rw [e, endV, pre_nil]
   refine Vu Tryz.func163 Z Tryz.results163 Tryz.ntmps163 Z ?_
   focus
     refine Zu<|Yb Z<|Zs<|Zw<|Zu<|Vc Z<|Vy Z<|Wo Z (Yr Ku Z)<|Qy Z<|Zs<|Zx Z (fun h1 => ?_) (fun h1 => ?_); refine Zw<|Vq<|Yb Z<|Zs<|Vb ?_; exact ⟨rfl, (Ext.refl _)⟩; (exfalso; omega)
 | succ m ih =>
   intro s k w hl hm
   have hl' := hl
   unfold lim at hl'
   by_cases hk : s.length ≤ k
   · have e : s.drop k = [] := List.drop_eq_nil_of_le Ka
     rw [e, endV, pre_nil]
     refine Vu Tryz.func163 Z Tryz.results163 Tryz.ntmps163 Z ?_
     focus
       refine Zu<|Yb Z<|Zs<|Zw<|Zu<|Vc Z<|Vy Z<|Wo Z (Yr Ku Z)<|Qy Z<|Zs<|Zx Z (fun h1 => ?_) (fun h1 => ?_); refine Zw<|Vq<|Yb Z<|Zs<|Vb ?_; exact ⟨rfl, (Ext.refl _)⟩; (exfalso; omega)
   have ih1 : ∀ w, Does Tryz.prog 163 [str s, .int .i64 ((k : Int) + 1)] w (Ret w (.int .i64 (endV (s.drop (k + 1)) s.length))) := fun w => ih s (k + 1) w hl Ka
   have ed := Nj (Nat.lt_of_not_le hk)
   rw [ed]
   generalize hc : s.getD k 0 = c
   have hlen : (s.drop (k + 1)).length = s.length - (k + 1) := Ki
   generalize hr : s.drop (k + 1) = r at ih1 hlen
   by_cases c1 : c = 116
   · subst c1
     have hn : (s.getD k 0).toNat = 116 := by rw [hc]; rfl
     have e : endV (116 :: r) s.length = (k : Int) + 1 := by rw [endV, pre_t]; simp only [hlen]; omega
     rw [e]
     refine Vu Tryz.func163 Z Tryz.results163 Tryz.ntmps163 Z ?_
     focus
       refine Zu<|Yb Z<|Zs<|Zw<|Zu<|Vc Z<|Vy Z<|Wo Z (Yr Ku Z)<|Qy Z<|Zs<|Zy Z fun h1 => ?_; refine Zz<|Zw<|Zu<|Vy Z<|Vc Z<|Wo Z (Vt Ku Z Z Ka) ?_; refine Zs<|Ve<|Zu<|Vr Z<|Vd Z<|Zs<|Zx Z (fun h2 => ?_) (fun h2 => ?_); refine Zu<|Vc Z<|Yk Z<|Yb Z<|Zs<|Vb ?_; exact ⟨rfl, (Ext.refl _)⟩; (exfalso; omega)
   by_cases c2 : c = 33 ∨ c = 83 ∨ c = 65
   · have hn : (s.getD k 0).toNat = 33 ∨ (s.getD k 0).toNat = 83 ∨ (s.getD k 0).toNat = 65 := by rw [hc]; rcases c2 with rfl | rfl | rfl <;> simp
     have e : endV (c :: r) s.length = endV r s.length := by
       cases hp : pre r with
       | none => rw [endV, endV, hp, pre_un_none hp c2]
       | some p =>
         obtain ⟨f, r1⟩ := p
         rcases c2 with rfl | rfl | rfl
         · rw [endV, endV, hp, pre_neg hp]
         · rw [endV, endV, hp, pre_S hp]
         · rw [endV, endV, hp, pre_A hp]
     rw [e]
     refine Vu Tryz.func163 Z Tryz.results163 Tryz.ntmps163 Z ?_
     focus
       refine Zu<|Yb Z<|Zs<|Zw<|Zu<|Vc Z<|Vy Z<|Wo Z (Yr Ku Z)<|Qy Z<|Zs<|Zy Z fun h1 => ?_; refine Zz<|Zw<|Zu<|Vy Z<|Vc Z<|Wo Z (Vt Ku Z Z Ka) ?_; refine Zs<|Ve<|Zu<|Vr Z<|Vd Z<|Zs<|Zy Z fun h2 => ?_; refine Zw<|Zu<|Vr Z<|Vd Z<|Zs<|Zx Z (fun h3 => ?_) (fun h3 => ?_); refine Zz<|Zx Z (fun h4 => ?_) (fun h4 => ?_); refine Zu<|Vy Z<|Vc Z<|Yk Z<|Zv Z (Yd (a := .string _) (b := .int _ _) Jr Z Z) (ih1 _) ?_; rintro _ w1 ⟨rfl, E1⟩; refine Yb Z<|Zs<|Vb ?_; exact ⟨rfl, E1⟩; contradiction; refine Zu<|Vr Z<|Vd Z<|Zs<|Zx Z (fun h4 => ?_) (fun h4 => ?_)
       refine Zz<|Zx Z (fun h5 => ?_) (fun h5 => ?_); refine Zu<|Vy Z<|Vc Z<|Yk Z<|Zv Z (Yd (a := .string _) (b := .int _ _) Jr Z Z) (ih1 _) ?_; rintro _ w1 ⟨rfl, E1⟩; refine Yb Z<|Zs<|Vb ?_; exact ⟨rfl, E1⟩; contradiction; refine Vq<|Vr Z<|Vd Z<|Zs<|Zx Z (fun h5 => ?_) (fun h5 => ?_); refine Zw<|Vq<|Vy Z<|Vc Z<|Yk Z<|Zv Z (Yd (a := .string _) (b := .int _ _) Jr Z Z) (ih1 _) ?_; rintro _ w1 ⟨rfl, E1⟩; refine Yb Z<|Zs<|Vb ?_; exact ⟨rfl, E1⟩; (exfalso; omega)
   by_cases c3 : c = 40
   · subst c3
     have hn : (s.getD k 0).toNat = 40 := by rw [hc]; rfl
     cases hp : pre r with
     | none =>
       have e1 : endV r s.length = -1 := by rw [endV, hp]
       rw [e1] at ih1
       have e : endV (40 :: r) s.length = -1 := by rw [endV, pre_br1 hp]
       rw [e]
       refine Vu Tryz.func163 Z Tryz.results163 Tryz.ntmps163 Z ?_
       focus
         refine Zu<|Yb Z<|Zs<|Zw<|Zu<|Vc Z<|Vy Z<|Wo Z (Yr Ku Z)<|Qy Z<|Zs<|Zy Z fun h1 => ?_; refine Zz<|Zw<|Zu<|Vy Z<|Vc Z<|Wo Z (Vt Ku Z Z Ka) ?_; refine Zs<|Ve<|Zu<|Vr Z<|Vd Z<|Zs<|Zy Z fun h2 => ?_; refine Zw<|Zu<|Vr Z<|Vd Z<|Zs<|Zy Z fun h3 => ?_; refine Zu<|Vr Z<|Vd Z<|Zs<|Zy Z fun h4 => ?_; refine Vq<|Vr Z<|Vd Z<|Zs<|Zy Z fun h5 => ?_; refine Zu<|Vr Z<|Vd Z<|Zs<|Zx Z (fun h6 => ?_) (fun h6 => ?_); refine Zu<|Vy Z<|Vc Z<|Yk Z<|Zv Z (Yd (a := .string _) (b := .int _ _) Jr Z Z) (ih1 _) ?_; rintro _ w1 ⟨rfl, E1⟩
         refine Yb Z<|Zs<|Zw<|Zu<|Vc Z<|Yc Z<|Ym Z (fun h7 => ?_) (fun h7 => ?_); refine Zt Z<|Zt Z<|Zt Z<|Zt Z<|Xb Z<|Yt Z<|Zt Z<|Zt Z<|Zt Z<|Zt Z<|Zt Z<|Zt Z<|Zt Z<|Zt Z<|Zt Z<|Zt Z<|Xb Z<|Zs<|Yi Z ?_; refine Zu<|Yb Z<|Zs<|Vb ?_; exact ⟨rfl, E1⟩; contradiction; (exfalso; omega)
     | some p =>
       obtain ⟨f, r1⟩ := p
       have e1 : endV r s.length = ((s.length - r1.length : Nat) : Int) := by rw [endV, hp]
       have hd := Qv hp
       have hl1 : r.length = f.enc.length + r1.length := by rw [hd]; simp
       have hdm : s.drop (s.length - r1.length) = r1 := by
         have : s.length - r1.length = (k + 1) + f.enc.length := Ka
         rw [this, ← List.drop_drop, hr, hd]; simp
       rw [e1] at ih1
       have hm1 : s.length - r1.length + r1.length = s.length := Ka
       have hmk : k < s.length - r1.length := by have := f.enc_pos; omega
       clear e1 hl1 hd
       generalize s.length - r1.length = q at ih1 hdm hm1 hmk
       cases r1 with
       | nil =>
         have e : endV (40 :: r) s.length = -1 := by rw [endV, pre_br2 hp (by intro c r2 h; cases h)]
         rw [e]
         simp only [List.length_nil] at hm1
         refine Vu Tryz.func163 Z Tryz.results163 Tryz.ntmps163 Z ?_
         focus
           refine Zu<|Yb Z<|Zs<|Zw<|Zu<|Vc Z<|Vy Z<|Wo Z (Yr Ku Z)<|Qy Z<|Zs<|Zy Z fun h1 => ?_; refine Zz<|Zw<|Zu<|Vy Z<|Vc Z<|Wo Z (Vt Ku Z Z Ka) ?_; refine Zs<|Ve<|Zu<|Vr Z<|Vd Z<|Zs<|Zy Z fun h2 => ?_; refine Zw<|Zu<|Vr Z<|Vd Z<|Zs<|Zy Z fun h3 => ?_; refine Zu<|Vr Z<|Vd Z<|Zs<|Zy Z fun h4 => ?_; refine Vq<|Vr Z<|Vd Z<|Zs<|Zy Z fun h5 => ?_; refine Zu<|Vr Z<|Vd Z<|Zs<|Zx Z (fun h6 => ?_) (fun h6 => ?_); refine Zu<|Vy Z<|Vc Z<|Yk Z<|Zv Z (Yd (a := .string _) (b := .int _ _) Jr Z Z) (ih1 _) ?_; rintro _ w1 ⟨rfl, E1⟩
           refine Yb Z<|Zs<|Zw<|Zu<|Vc Z<|Yc Z<|Xl Z fun h7 => ?_; refine Vc Z<|Vy Z<|Wo Z (Yr Ku Z)<|Qy Z<|Ye Z<|Ym Z (fun h8 => ?_) (fun h8 => ?_); refine Zt Z<|Zt Z<|Zt Z<|Zt Z<|Zt Z<|Zt Z<|Zt Z<|Zt Z<|Zt Z<|Zt Z<|Xb Z<|Zs<|Yi Z ?_; refine Zu<|Yb Z<|Zs<|Vb ?_; exact ⟨rfl, E1⟩; (exfalso; omega); (exfalso; omega)
       | cons d r2 =>
         simp only [List.length_cons] at hm1
         have ed2 := Nj (show q < s.length by omega)
         rw [hdm] at ed2
         obtain ⟨hd1, hd2⟩ := List.cons.inj ed2
         by_cases c4 : d = 38 ∨ d = 124
         · have hn2 : (s.getD q 0).toNat = 38 ∨ (s.getD q 0).toNat = 124 := by rw [← hd1]; rcases c4 with rfl | rfl <;> simp
           have ih2 : ∀ w, Does Tryz.prog 163 [str s, .int .i64 ((q : Int) + 1)] w (Ret w (.int .i64 (endV r2 s.length))) := fun w => by
             have := ih s (q + 1) w hl Ka
             rw [← hd2] at this
             exact this
           have hl2 : r2.length = s.length - (q + 1) := Ka
           cases hp2 : pre r2 with
           | none =>
             have e2 : endV r2 s.length = -1 := by rw [endV, hp2]
             rw [e2] at ih2
             have e : endV (40 :: r) s.length = -1 := by rw [endV, pre_br3 hp hp2]
             rw [e]
             clear ed2 hd1 hd2 hdm hr hc ed e2 e
             refine Vu Tryz.func163 Z Tryz.results163 Tryz.ntmps163 Z ?_
             focus
               refine Zu<|Yb Z<|Zs<|Zw<|Zu<|Vc Z<|Vy Z<|Wo Z (Yr Ku Z)<|Qy Z<|Zs<|Zy Z fun h1 => ?_; refine Zz<|Zw<|Zu<|Vy Z<|Vc Z<|Wo Z (Vt Ku Z Z Ka) ?_; refine Zs<|Ve<|Zu<|Vr Z<|Vd Z<|Zs<|Zy Z fun h2 => ?_; refine Zw<|Zu<|Vr Z<|Vd Z<|Zs<|Zy Z fun h3 => ?_; refine Zu<|Vr Z<|Vd Z<|Zs<|Zy Z fun h4 => ?_; refine Vq<|Vr Z<|Vd Z<|Zs<|Zy Z fun h5 => ?_; refine Zu<|Vr Z<|Vd Z<|Zs<|Zx Z (fun h6 => ?_) (fun h6 => ?_); refine Zu<|Vy Z<|Vc Z<|Yk Z<|Zv Z (Yd (a := .string _) (b := .int _ _) Jr Z Z) (ih1 _) ?_; rintro _ w1 ⟨rfl, E1⟩
               refine Yb Z<|Zs<|Zw<|Zu<|Vc Z<|Yc Z<|Xl Z fun h7 => ?_; refine Vc Z<|Vy Z<|Wo Z (Yr Ku Z)<|Qy Z<|Ye Z<|Uy Z fun h8 => ?_; refine Vy Z<|Vc Z<|Wo Z (Vt Ku Z Z Ka) ?_; refine Um Z<|Qb Z (fun h9 => ?_) (fun h9 => ?_); refine Vy Z<|Vc Z<|Wo Z (Vt Ku Z Z Ka) ?_; refine Um Z<|Xb Z<|Ye Z<|Zs<|Up Z fun h10 => ?_; refine Zz<|Zu<|Vy Z<|Vc Z<|Yk Z<|Zv Z (Yd (a := .string _) (b := .int _ _) Jr Z Z) (ih2 _) ?_; rintro _ w2 ⟨rfl, E2⟩; refine Yb Z<|Zs<|Zw<|Zu<|Vc Z<|Yc Z<|Ym Z (fun h11 => ?_) (fun h11 => ?_)
               refine Zt Z<|Zt Z<|Zt Z<|Zt Z<|Xb Z<|Yt Z<|Zt Z<|Zt Z<|Zt Z<|Zt Z<|Xb Z<|Zs<|Yi Z ?_; refine Zu<|Yb Z<|Zs<|Vb ?_; exact ⟨rfl, exq⟩; contradiction; refine Zt Z<|Zt Z<|Zt Z<|Zt Z<|Ye Z<|Ye Z<|Zs<|Va Z ?_; refine Zz<|Zu<|Vy Z<|Vc Z<|Yk Z<|Zv Z (Yd (a := .string _) (b := .int _ _) Jr Z Z) (ih2 _) ?_; rintro _ w2 ⟨rfl, E2⟩; refine Yb Z<|Zs<|Zw<|Zu<|Vc Z<|Yc Z<|Ym Z (fun h10 => ?_) (fun h10 => ?_); refine Zt Z<|Zt Z<|Zt Z<|Zt Z<|Xb Z<|Yt Z<|Zt Z<|Zt Z<|Zt Z<|Zt Z<|Xb Z<|Zs<|Yi Z ?_
               refine Zu<|Yb Z<|Zs<|Vb ?_; exact ⟨rfl, exq⟩; contradiction; (exfalso; omega)
           | some p2 =>
             obtain ⟨g, r3⟩ := p2
             have e2 : endV r2 s.length = ((s.length - r3.length : Nat) : Int) := by rw [endV, hp2]
             have hd3 := Qv hp2
             have hl3 : r2.length = g.enc.length + r3.length := by rw [hd3]; simp
             have hdm2 : s.drop (s.length - r3.length) = r3 := by
               have : s.length - r3.length = (q + 1) + g.enc.length := Ka
               rw [this, ← List.drop_drop, ← hd2, hd3]; simp
             rw [e2] at ih2
             have hm2 : s.length - r3.length + r3.length = s.length := Ka
             clear e2 hl3 hd3 hl2
             generalize s.length - r3.length = z at ih2 hdm2 hm2
             cases r3 with
             | nil =>
               have e : endV (40 :: r) s.length = -1 := by rw [endV, pre_br4 hp hp2 (by intro r4 h; cases h)]
               rw [e]
               simp only [List.length_nil] at hm2
               clear ed2 hd1 hd2 hdm hdm2 hr hc ed e
               refine Vu Tryz.func163 Z Tryz.results163 Tryz.ntmps163 Z ?_
               focus
                 refine Zu<|Yb Z<|Zs<|Zw<|Zu<|Vc Z<|Vy Z<|Wo Z (Yr Ku Z)<|Qy Z<|Zs<|Zy Z fun h1 => ?_; refine Zz<|Zw<|Zu<|Vy Z<|Vc Z<|Wo Z (Vt Ku Z Z Ka) ?_; refine Zs<|Ve<|Zu<|Vr Z<|Vd Z<|Zs<|Zy Z fun h2 => ?_; refine Zw<|Zu<|Vr Z<|Vd Z<|Zs<|Zy Z fun h3 => ?_; refine Zu<|Vr Z<|Vd Z<|Zs<|Zy Z fun h4 => ?_; refine Vq<|Vr Z<|Vd Z<|Zs<|Zy Z fun h5 => ?_; refine Zu<|Vr Z<|Vd Z<|Zs<|Zx Z (fun h6 => ?_) (fun h6 => ?_); refine Zu<|Vy Z<|Vc Z<|Yk Z<|Zv Z (Yd (a := .string _) (b := .int _ _) Jr Z Z) (ih1 _) ?_; rintro _ w1 ⟨rfl, E1⟩
                 refine Yb Z<|Zs<|Zw<|Zu<|Vc Z<|Yc Z<|Xl Z fun h7 => ?_; refine Vc Z<|Vy Z<|Wo Z (Yr Ku Z)<|Qy Z<|Ye Z<|Uy Z fun h8 => ?_; refine Vy Z<|Vc Z<|Wo Z (Vt Ku Z Z Ka) ?_; refine Um Z<|Qb Z (fun h9 => ?_) (fun h9 => ?_); refine Vy Z<|Vc Z<|Wo Z (Vt Ku Z Z Ka) ?_; refine Um Z<|Xb Z<|Ye Z<|Zs<|Up Z fun h10 => ?_; refine Zz<|Zu<|Vy Z<|Vc Z<|Yk Z<|Zv Z (Yd (a := .string _) (b := .int _ _) Jr Z Z) (ih2 _) ?_; rintro _ w2 ⟨rfl, E2⟩; refine Yb Z<|Zs<|Zw<|Zu<|Vc Z<|Yc Z<|Xl Z fun h11 => ?_
                 refine Vc Z<|Vy Z<|Wo Z (Yr Ku Z)<|Qy Z<|Ye Z<|Ym Z (fun h12 => ?_) (fun h12 => ?_); refine Zt Z<|Zt Z<|Zt Z<|Zt Z<|Xb Z<|Zs<|Yi Z ?_; refine Zu<|Yb Z<|Zs<|Vb ?_; exact ⟨rfl, exq⟩; (exfalso; omega); refine Zt Z<|Zt Z<|Zt Z<|Zt Z<|Ye Z<|Ye Z<|Zs<|Va Z ?_; refine Zz<|Zu<|Vy Z<|Vc Z<|Yk Z<|Zv Z (Yd (a := .string _) (b := .int _ _) Jr Z Z) (ih2 _) ?_; rintro _ w2 ⟨rfl, E2⟩; refine Yb Z<|Zs<|Zw<|Zu<|Vc Z<|Yc Z<|Xl Z fun h10 => ?_; refine Vc Z<|Vy Z<|Wo Z (Yr Ku Z)<|Qy Z<|Ye Z<|Ym Z (fun h11 => ?_) (fun h11 => ?_)
                 refine Zt Z<|Zt Z<|Zt Z<|Zt Z<|Xb Z<|Zs<|Yi Z ?_; refine Zu<|Yb Z<|Zs<|Vb ?_; exact ⟨rfl, exq⟩; (exfalso; omega); (exfalso; omega)
             | cons d3 r4 =>
               simp only [List.length_cons] at hm2
               have ed3 := Nj (show z < s.length by omega)
               rw [hdm2] at ed3
               obtain ⟨hd3, hd4⟩ := List.cons.inj ed3
               by_cases c5 : d3 = 41
               · subst c5
                 have hn3 : (s.getD z 0).toNat = 41 := by rw [← hd3]; rfl
                 have e : endV (40 :: r) s.length = (z : Int) + 1 := by
                   have : pre (40 :: r) = some (if d = 38 then Fm.and f g else Fm.or f g, r4) := by
                     rcases c4 with rfl | rfl
                     · exact pre_and hp hp2
                     · exact pre_or hp hp2
                   rw [endV, this]
                   simp only
                   omega
                 rw [e]
                 clear ed2 hd1 hd2 hdm hdm2 hr hc ed e ed3 hd3 hd4
                 refine Vu Tryz.func163 Z Tryz.results163 Tryz.ntmps163 Z ?_
                 focus
                   refine Zu<|Yb Z<|Zs<|Zw<|Zu<|Vc Z<|Vy Z<|Wo Z (Yr Ku Z)<|Qy Z<|Zs<|Zy Z fun h1 => ?_; refine Zz<|Zw<|Zu<|Vy Z<|Vc Z<|Wo Z (Vt Ku Z Z Ka) ?_; refine Zs<|Ve<|Zu<|Vr Z<|Vd Z<|Zs<|Zy Z fun h2 => ?_; refine Zw<|Zu<|Vr Z<|Vd Z<|Zs<|Zy Z fun h3 => ?_; refine Zu<|Vr Z<|Vd Z<|Zs<|Zy Z fun h4 => ?_; refine Vq<|Vr Z<|Vd Z<|Zs<|Zy Z fun h5 => ?_; refine Zu<|Vr Z<|Vd Z<|Zs<|Zx Z (fun h6 => ?_) (fun h6 => ?_); refine Zu<|Vy Z<|Vc Z<|Yk Z<|Zv Z (Yd (a := .string _) (b := .int _ _) Jr Z Z) (ih1 _) ?_; rintro _ w1 ⟨rfl, E1⟩
                   refine Yb Z<|Zs<|Zw<|Zu<|Vc Z<|Yc Z<|Xl Z fun h7 => ?_; refine Vc Z<|Vy Z<|Wo Z (Yr Ku Z)<|Qy Z<|Ye Z<|Uy Z fun h8 => ?_; refine Vy Z<|Vc Z<|Wo Z (Vt Ku Z Z Ka) ?_; refine Um Z<|Qb Z (fun h9 => ?_) (fun h9 => ?_); refine Vy Z<|Vc Z<|Wo Z (Vt Ku Z Z Ka) ?_; refine Um Z<|Xb Z<|Ye Z<|Zs<|Up Z fun h10 => ?_; refine Zz<|Zu<|Vy Z<|Vc Z<|Yk Z<|Zv Z (Yd (a := .string _) (b := .int _ _) Jr Z Z) (ih2 _) ?_; rintro _ w2 ⟨rfl, E2⟩; refine Yb Z<|Zs<|Zw<|Zu<|Vc Z<|Yc Z<|Xl Z fun h11 => ?_
                   refine Vc Z<|Vy Z<|Wo Z (Yr Ku Z)<|Qy Z<|Ye Z<|Uy Z fun h12 => ?_; refine Vy Z<|Vc Z<|Wo Z (Vt Ku Z Z Ka) ?_; refine Um Z<|Ye Z<|Zs<|Up Z fun h13 => ?_; refine Zz<|Zu<|Vc Z<|Yk Z<|Yb Z<|Zs<|Vb ?_; exact ⟨rfl, exq⟩; refine Zt Z<|Zt Z<|Zt Z<|Zt Z<|Ye Z<|Ye Z<|Zs<|Va Z ?_; refine Zz<|Zu<|Vy Z<|Vc Z<|Yk Z<|Zv Z (Yd (a := .string _) (b := .int _ _) Jr Z Z) (ih2 _) ?_; rintro _ w2 ⟨rfl, E2⟩; refine Yb Z<|Zs<|Zw<|Zu<|Vc Z<|Yc Z<|Xl Z fun h10 => ?_
                   refine Vc Z<|Vy Z<|Wo Z (Yr Ku Z)<|Qy Z<|Ye Z<|Uy Z fun h11 => ?_; refine Vy Z<|Vc Z<|Wo Z (Vt Ku Z Z Ka) ?_; refine Um Z<|Ye Z<|Zs<|Up Z fun h12 => ?_; refine Zz<|Zu<|Vc Z<|Yk Z<|Yb Z<|Zs<|Vb ?_; exact ⟨rfl, exq⟩; (exfalso; omega)
               · have hn3 : (s.getD z 0).toNat ≠ 41 := by rw [← hd3]; exact fun h => c5 (UInt8.toNat_inj.1 h)
                 have e : endV (40 :: r) s.length = -1 := by rw [endV, pre_br4 hp hp2 (by intro r4 h; exact c5 (List.cons.inj h).1)]
                 rw [e]
                 clear ed2 hd1 hd2 hdm hdm2 hr hc ed e ed3 hd3 hd4
                 refine Vu Tryz.func163 Z Tryz.results163 Tryz.ntmps163 Z ?_
                 focus
                   refine Zu<|Yb Z<|Zs<|Zw<|Zu<|Vc Z<|Vy Z<|Wo Z (Yr Ku Z)<|Qy Z<|Zs<|Zy Z fun h1 => ?_; refine Zz<|Zw<|Zu<|Vy Z<|Vc Z<|Wo Z (Vt Ku Z Z Ka) ?_; refine Zs<|Ve<|Zu<|Vr Z<|Vd Z<|Zs<|Zy Z fun h2 => ?_; refine Zw<|Zu<|Vr Z<|Vd Z<|Zs<|Zy Z fun h3 => ?_; refine Zu<|Vr Z<|Vd Z<|Zs<|Zy Z fun h4 => ?_; refine Vq<|Vr Z<|Vd Z<|Zs<|Zy Z fun h5 => ?_; refine Zu<|Vr Z<|Vd Z<|Zs<|Zx Z (fun h6 => ?_) (fun h6 => ?_); refine Zu<|Vy Z<|Vc Z<|Yk Z<|Zv Z (Yd (a := .string _) (b := .int _ _) Jr Z Z) (ih1 _) ?_; rintro _ w1 ⟨rfl, E1⟩
                   refine Yb Z<|Zs<|Zw<|Zu<|Vc Z<|Yc Z<|Xl Z fun h7 => ?_; refine Vc Z<|Vy Z<|Wo Z (Yr Ku Z)<|Qy Z<|Ye Z<|Uy Z fun h8 => ?_; refine Vy Z<|Vc Z<|Wo Z (Vt Ku Z Z Ka) ?_; refine Um Z<|Qb Z (fun h9 => ?_) (fun h9 => ?_); refine Vy Z<|Vc Z<|Wo Z (Vt Ku Z Z Ka) ?_; refine Um Z<|Xb Z<|Ye Z<|Zs<|Up Z fun h10 => ?_; refine Zz<|Zu<|Vy Z<|Vc Z<|Yk Z<|Zv Z (Yd (a := .string _) (b := .int _ _) Jr Z Z) (ih2 _) ?_; rintro _ w2 ⟨rfl, E2⟩; refine Yb Z<|Zs<|Zw<|Zu<|Vc Z<|Yc Z<|Xl Z fun h11 => ?_
                   refine Vc Z<|Vy Z<|Wo Z (Yr Ku Z)<|Qy Z<|Ye Z<|Uy Z fun h12 => ?_; refine Vy Z<|Vc Z<|Wo Z (Vt Ku Z Z Ka) ?_; refine Um Z<|Ye Z<|Zs<|Yq Z (fun h13 => ?_) (fun h13 => ?_); refine Zu<|Yb Z<|Zs<|Vb ?_; exact ⟨rfl, exq⟩; (exfalso; omega); refine Zt Z<|Zt Z<|Zt Z<|Zt Z<|Ye Z<|Ye Z<|Zs<|Va Z ?_; refine Zz<|Zu<|Vy Z<|Vc Z<|Yk Z<|Zv Z (Yd (a := .string _) (b := .int _ _) Jr Z Z) (ih2 _) ?_; rintro _ w2 ⟨rfl, E2⟩; refine Yb Z<|Zs<|Zw<|Zu<|Vc Z<|Yc Z<|Xl Z fun h10 => ?_
                   refine Vc Z<|Vy Z<|Wo Z (Yr Ku Z)<|Qy Z<|Ye Z<|Uy Z fun h11 => ?_; refine Vy Z<|Vc Z<|Wo Z (Vt Ku Z Z Ka) ?_; refine Um Z<|Ye Z<|Zs<|Yq Z (fun h12 => ?_) (fun h12 => ?_); refine Zu<|Yb Z<|Zs<|Vb ?_; exact ⟨rfl, exq⟩; (exfalso; omega); (exfalso; omega)
         · have hn2 : (s.getD q 0).toNat ≠ 38 ∧ (s.getD q 0).toNat ≠ 124 := by
             rw [← hd1]; exact ⟨fun h => c4 (.inl (UInt8.toNat_inj.1 h)), fun h => c4 (.inr (UInt8.toNat_inj.1 h))⟩
           have e : endV (40 :: r) s.length = -1 := by
             rw [endV, pre_br2 hp (by
               intro c r2 h
               obtain ⟨rfl, _⟩ := List.cons.inj h
               exact ⟨fun h => c4 (.inl h), fun h => c4 (.inr h)⟩)]
           rw [e]
           clear ed2 hd1 hd2 hdm hr hc ed e
           refine Vu Tryz.func163 Z Tryz.results163 Tryz.ntmps163 Z ?_
           focus
             refine Zu<|Yb Z<|Zs<|Zw<|Zu<|Vc Z<|Vy Z<|Wo Z (Yr Ku Z)<|Qy Z<|Zs<|Zy Z fun h1 => ?_; refine Zz<|Zw<|Zu<|Vy Z<|Vc Z<|Wo Z (Vt Ku Z Z Ka) ?_; refine Zs<|Ve<|Zu<|Vr Z<|Vd Z<|Zs<|Zy Z fun h2 => ?_; refine Zw<|Zu<|Vr Z<|Vd Z<|Zs<|Zy Z fun h3 => ?_; refine Zu<|Vr Z<|Vd Z<|Zs<|Zy Z fun h4 => ?_; refine Vq<|Vr Z<|Vd Z<|Zs<|Zy Z fun h5 => ?_; refine Zu<|Vr Z<|Vd Z<|Zs<|Zx Z (fun h6 => ?_) (fun h6 => ?_); refine Zu<|Vy Z<|Vc Z<|Yk Z<|Zv Z (Yd (a := .string _) (b := .int _ _) Jr Z Z) (ih1 _) ?_; rintro _ w1 ⟨rfl, E1⟩
             refine Yb Z<|Zs<|Zw<|Zu<|Vc Z<|Yc Z<|Xl Z fun h7 => ?_; refine Vc Z<|Vy Z<|Wo Z (Yr Ku Z)<|Qy Z<|Ye Z<|Uy Z fun h8 => ?_; refine Vy Z<|Vc Z<|Wo Z (Vt Ku Z Z Ka) ?_; refine Um Z<|Qb Z (fun h9 => ?_) (fun h9 => ?_); refine Vy Z<|Vc Z<|Wo Z (Vt Ku Z Z Ka) ?_; refine Um Z<|Xb Z<|Ye Z<|Zs<|Yq Z (fun h10 => ?_) (fun h10 => ?_); refine Zu<|Yb Z<|Zs<|Vb ?_; exact ⟨rfl, E1⟩; (exfalso; omega); (exfalso; omega); (exfalso; omega)
   · have hn : (s.getD k 0).toNat ≠ 116 ∧ (s.getD k 0).toNat ≠ 33 ∧ (s.getD k 0).toNat ≠ 83 ∧ (s.getD k 0).toNat ≠ 65 ∧ (s.getD k 0).toNat ≠ 40 := by
       rw [hc]
       refine ⟨fun h => c1 (UInt8.toNat_inj.1 h), fun h => c2 (.inl (UInt8.toNat_inj.1 h)), fun h => c2 (.inr (.inl (UInt8.toNat_inj.1 h))), fun h => c2 (.inr (.inr (UInt8.toNat_inj.1 h))), fun h => c3 (UInt8.toNat_inj.1 h)⟩
     have e : endV (c :: r) s.length = -1 := by
       rw [endV, pre_other ⟨c1, fun h => c2 (.inl h), fun h => c2 (.inr (.inl h)), fun h => c2 (.inr (.inr h)), c3⟩]
     rw [e]
     refine Vu Tryz.func163 Z Tryz.results163 Tryz.ntmps163 Z ?_
     focus
       refine Zu<|Yb Z<|Zs<|Zw<|Zu<|Vc Z<|Vy Z<|Wo Z (Yr Ku Z)<|Qy Z<|Zs<|Zy Z fun h1 => ?_; refine Zz<|Zw<|Zu<|Vy Z<|Vc Z<|Wo Z (Vt Ku Z Z Ka) ?_; refine Zs<|Ve<|Zu<|Vr Z<|Vd Z<|Zs<|Zy Z fun h2 => ?_; refine Zw<|Zu<|Vr Z<|Vd Z<|Zs<|Zy Z fun h3 => ?_; refine Zu<|Vr Z<|Vd Z<|Zs<|Zy Z fun h4 => ?_; refine Vq<|Vr Z<|Vd Z<|Zs<|Zy Z fun h5 => ?_; refine Zu<|Vr Z<|Vd Z<|Zs<|Zy Z fun h6 => ?_; refine Zz<|Zu<|Yb Z<|Zs<|Vb ?_; exact ⟨rfl, (Ext.refl _)⟩
theorem Yv {w0:World} (w:World) {br m:Nat} (n:Int) (hr:Rdr w0 w br m) (hm:m≤1000000000) :
  Does Tryz.prog 75 [.pointer (some ⟨br,0,none⟩),.int .i64 n] w (RetD w0 w br (m+1) (fun x:Nat=>.int .i64 (x:Int)) (fun x _=>1≤n→(x:Int) < n)):=by
 obtain ⟨E0,hge,hlt,vb,bs,p,hb,hlen,hB,hp⟩:=hr
 have hbs:=hb.le
 refine Vu Tryz.func75 Z Tryz.results75 Tryz.ntmps75 Z ?_
 have hG:w.grownBy w (some br):=Ra _ _
 have hp1:(p:Int)+1 - 1=p:=Ka
 rcases Nat.eq_zero_or_pos bs.length with h0 | h0
 ·have e0:bs=[]:=List.eq_nil_of_length_eq_zero h0
  focus
   have szE0:=E0.size;refine Zu<|Yb Z<|Zs<|Zu<|Ua Z<|Ua Z<|Wo Z (Xf Z)<|Vo Gj Kl Z<|Xa Kn hB Z<|Yk Z<|Wo Z (Xf Z)<|Vo Gj Kl Z<|Xp (v:=.int _ _) Z Kl Z Z Z hB Ki Ka E0 ?_;rintro w1 E1 hB K1 hz1;simp only [List.set] at hB;have hG:=Vz hG E0 E1 K1 hz1 (by first | exact .inr rfl | omega);refine Zs<|Zw<|Zu<|Vc Z<|Yc Z<|Ym Z (fun h1=>?_) (fun h1=>?_);refine Zt Z<|Zt Z<|Zt Z<|Zt Z<|Zt Z<|Zt Z<|Xb Z<|Zs<|Yi Z ?_;refine Zu<|Yb Z<|Zs<|Vb ?_;refine Vk (v:=.int _ _) Z ?_;rotate_left
   refine Ua Z<|Wo Z (Xf Z)<|Vo Gj Gx Z<|Yz vb Gy hB Z<|Vv Jp Z hb<|Vr Z<|Ye Z<|Zs<|Zx Z (fun h2=>?_) (fun h2=>?_);refine Zu<|Yb Z<|Zs<|Vb ?_;refine Vk (v:=.int _ _) Z ?_;rotate_left;(exfalso;omega)
  all_goals exact ⟨0,rfl,hG,⟨Kd,hge,hB.lt,vb,bs,p+1,hb,hlen,hB,Ka⟩,fun h=>Ka⟩
 have hL:(0:Int) < (bs.length:Int):=Ka
 have hm1:=Int.emod_lt_of_pos (p:Int) hL
 have hm2:=Int.emod_nonneg (p:Int) (show (bs.length:Int)≠0 by omega)
 have hm3:=Int.emod_lt_of_pos ((p:Int)*7+3) hL
 have hm4:=Int.emod_nonneg ((p:Int)*7+3) (show (bs.length:Int)≠0 by omega)
 have hm5:(p:Int) / (bs.length:Int)≤p:=Int.ediv_le_self _ Ka
 have hm6:0≤(p:Int) / (bs.length:Int):=Int.ediv_nonneg Ka Ka
 have hm1:=Int.emod_lt_of_pos ((p:Int)+1 - 1) hL
 have hm2:=Int.emod_nonneg ((p:Int)+1 - 1) (show (bs.length:Int)≠0 by omega)
 have hm3:=Int.emod_lt_of_pos (((p:Int)+1 - 1)*7+3) hL
 have hm4:=Int.emod_nonneg (((p:Int)+1 - 1)*7+3) (show (bs.length:Int)≠0 by omega)
 have hm5:((p:Int)+1 - 1) / (bs.length:Int)≤p:=by rw [hp1];exact hm5
 have hm6:0≤((p:Int)+1 - 1) / (bs.length:Int):=by rw [hp1];exact hm6
 focus
  have szE0:=E0.size;refine Zu<|Yb Z<|Zs<|Zu<|Ua Z<|Ua Z<|Wo Z (Xf Z)<|Vo Gj Kl Z<|Xa Kn hB Z<|Yk Z<|Wo Z (Xf Z)<|Vo Gj Kl Z<|Xp (v:=.int _ _) Z Kl Z Z Z hB Ki Ka E0 ?_;rintro w1 E1 hB K1 hz1;simp only [List.set] at hB;have hG:=Vz hG E0 E1 K1 hz1 (by first | exact .inr rfl | omega);refine Zs<|Zw<|Zu<|Vc Z<|Yc Z<|Ym Z (fun h1=>?_) (fun h1=>?_);refine Zt Z<|Zt Z<|Zt Z<|Zt Z<|Zt Z<|Zt Z<|Xb Z<|Zs<|Yi Z ?_;refine Zu<|Yb Z<|Zs<|Vb ?_;refine Vk (v:=.int _ _) Z ?_;rotate_left
  refine Ua Z<|Wo Z (Xf Z)<|Vo Gj Gx Z<|Yz vb Gy hB Z<|Vv Jp Z hb<|Vr Z<|Ye Z<|Zs<|Zy Z fun h2=>?_;refine Zz<|Zw<|Vq<|Ua Z<|Wo Z (Xf Z)<|Vo Gj Kl Z<|Xa Kn hB Z<|Rh Z<|Yb Z<|Zs<|Zw<|Zw<|Vq<|Vc Z<|Ua Z<|Wo Z (Xf Z)<|Vo Gj Gx Z<|Yz vb Gy hB Z<|Vv Jp Z hb<|Yc Z<|Zs<|Zx Z (fun h3=>?_) (fun h3=>?_)
  refine Zu<|Ua Z<|Wo Z (Xf Z)<|Vo Gj Gx Z<|Yz vb Gy hB Z<|Vc Z<|Wo_getB_z Jp Ga Gz Z (fun _=>Z) Z hb E1 Z Kf ?_;rintro _ n1 hn1 hn1';refine Wo Z (Rb Jx Gm Z Ka) ?_;refine Vc Z<|Wo Z (Mv Z Z Ka) ?_;refine Yb Z<|Zs<|Vb ?_;refine Vk (v:=.int _ _) Z ?_;rotate_left;refine Zz<|Zw<|Ul Xy Kb Z ?_;refine WqmP Z<|Xt Z (fun _ _=>Xf Z) ?_;refine Qc Gj Gx Z<|Xt (v:=vb) Z (fun w' hw'=>Yg Gy Z ((hB.ext hw').cell Z)) ?_;refine Sa Z<|WqmP Z<|Xt Z (fun _ _=>Xf Z) ?_
  refine Qc Gj Gx Z<|Xt (v:=vb) Z (fun w' hw'=>Yg Gy Z ((hB.ext hw').cell Z)) ?_;refine Xt Z (fun _ _=>Qt Jp Z hb) ?_;refine Xt Z (fun _ _=>Mv Z Z Ka) ?_;refine Wq_getB_z Jp Ga Gz Z (fun _=>Z) Z hb E1 Z Kf ?_;rintro _ n1 hn1 hn1';refine Xt Z (fun _ _=>Rb Jx Gm Z Ka) ?_;refine Xt Z (fun _ _=>Qf Z Z Ka) ?_;refine WqmP Z<|Xt Z (fun _ _=>Xf Z) ?_;refine Qc Gj Gx Z<|Xt (v:=vb) Z (fun w' hw'=>Yg Gy Z ((hB.ext hw').cell Z)) ?_;refine Sa Z<|Xt Z (fun _ _=>Qf Z Z Ka) ?_
  refine Xt Z (fun _ _=>Ub Z Z Ka) ?_;refine WqmP Z<|Xt Z (fun _ _=>Xf Z) ?_;refine Qc Gj Gx Z<|Xt (v:=vb) Z (fun w' hw'=>Yg Gy Z ((hB.ext hw').cell Z)) ?_;refine Xt Z (fun _ _=>Qt Jp Z hb) ?_;refine Xt Z (fun _ _=>Mv Z Z Ka) ?_;refine Wq_getB_z Jp Ga Gz Z (fun _=>Z) Z hb E1 Z Kf ?_;rintro _ n2 hn2 hn2';refine Xt Z (fun _ _=>Rb Jx Gm Z Ka) ?_;refine Xt Z (fun _ _=>Qf Z Z Ka) ?_;refine Xt Z (fun _ _=>Ub Z Z Ka) ?_;refine Sa Z<|Xt Z (fun _ _=>Qf Z Z Ka) ?_;refine Xt Z (fun _ _=>Ub Z Z Ka) ?_
  refine Sa Z<|WqmP Z<|Xt Z (fun _ _=>Xf Z) ?_;refine Qc Gj Gx Z<|Xt (v:=vb) Z (fun w' hw'=>Yg Gy Z ((hB.ext hw').cell Z)) ?_;refine Xt Z (fun _ _=>Qt Jp Z hb) ?_;refine Xt Z (fun _ _=>Qj Z Z Ka) ?_;refine Xt Z (fun _ _=>Qf Z Z Ka) ?_;refine Xt Z (fun _ _=>Ub Z Z Ka) ?_;refine WqaI Z<|Ud (fun w2 E2=>?_);have hG:=Vj hG E2;have hs1:=E2.size;refine Zw<|Vq<|Vc Z<|Vc Z<|Wo Z (Qj Z Z Ka) ?_;refine Wo Z (opv_xor Z Z Ka) ?_;refine Yb Z<|Zs<|Zu<|Vc Z<|Vc Z<|Wo Z (Mv Z Z Ka) ?_;refine Yb Z<|Zs<|Vb ?_;refine Vk (v:=.int _ _) Z ?_;rotate_left
 ·exact ⟨0,rfl,hG,⟨Kd,hge,hB.lt,vb,bs,p+1,hb,hlen,hB,Ka⟩,fun h=>Ka⟩
 ·have e:=Int.emod_nonneg (n1:Int) (show n≠0 by omega)
  refine ⟨((n1:Int) % n).toNat,by simp only [Int.toNat_of_nonneg e],hG,⟨Kd,hge,hB.lt,vb,bs,p+1,hb,hlen,hB,Ka⟩,fun h=>?_⟩
  simp only [Int.toNat_of_nonneg e]
  exact Int.emod_lt_of_pos _ Ka
 ·refine Vk (v:=.int .i64 _) Z ?_
  generalize hz:((((n1*131:Int)+n2*1117+((p:Int)+1 - 1)*29+((p:Int)+1 - 1) / (bs.length:Int)*53).toNat ^^^ (((n1*131:Int)+n2*1117+((p:Int)+1 - 1)*29+((p:Int)+1 - 1) / (bs.length:Int)*53) / 64).toNat:Nat):Int)=z
  have hz0:0≤z:=by rw [← hz];omega
  have hB:=hB.ext (show Ext w1 w2 by assumption)
  have e:=Int.emod_nonneg z (show n≠0 by omega)
  refine ⟨(z % n).toNat,by simp only [Int.toNat_of_nonneg e],hG,⟨E1.trans Kd,hge,hB.lt,vb,bs,p+1,hb,hlen,hB,Ka⟩,fun h=>?_⟩
  simp only [Int.toNat_of_nonneg e]
  exact Int.emod_lt_of_pos _ Ka
theorem odd_ok {w0:World} (w:World) {br m:Nat} (n:Int) (hr:Rdr w0 w br m) (hm:m≤1000000000) (hn : -1000000≤n∧n≤1000000) :
  Does Tryz.prog 76 [.pointer (some ⟨br,0,none⟩),.int .i64 n] w (RetD w0 w br (m+1) Value.bool (fun _ _=>True)):=by
 refine Vu Tryz.func76 Z Tryz.results76 Tryz.ntmps76 Z ?_
 have hG:w.grownBy w (some br):=Ra _ _
 focus
  refine Zu<|Vd Z<|Zs<|Zu<|Vc Z<|Ut Z<|Ym Z (fun h1=>?_) (fun h1=>?_);refine Ua Z<|Vc Z<|Zv Z (Yd (a:=.pointer _) (b:=.int _ _) Jb Z Z) (Yv _ _ Kd Kd) ?_;rintro _ w1 ⟨y1,rfl,E1,hr1,hy1⟩;(try dsimp only at hy1);have hlhr1:=hr1.lt;have Ehr1:=hr1.old;have hG:=Vh hG E1;have hs1:=E1.size;refine Vc Z<|Rh Z<|Vr Z<|Xb Z<|Vd Z<|Zs<|Vb ?_;refine Vk (v:=.bool _) Z ?_;rotate_left;refine Zt Z<|Zt Z<|Zt Z<|Zt Z<|Zt Z<|Zt Z<|Ye Z<|Vd Z<|Zs<|Vb ?_;refine Vk (v:=.bool _) Z ?_;rotate_left
 all_goals first | exact ⟨_,rfl,hG,hr1,trivial⟩ | exact ⟨_,rfl,hG,hr.le Ka,trivial⟩
theorem flat112:Flat Tryz.prog 112 [.slice none 0 0,.int .i64 0]:=⟨_,Tryz.underlying112,fun _=>Kb,fun _=>Kb⟩
theorem open_ok (w:World) (v:Value) (xs:List UInt8) (h:Bytes w v xs) (hc:CapOk v) :
  Does Tryz.prog 55 [v] w (RetX w (fun br:Nat=>.pointer (some ⟨br,0,none⟩)) (fun br w'=>Rdr w w' br 0)):=by
 refine Vu Tryz.func55 Z Tryz.results55 Tryz.ntmps55 Z ?_
 have hl:=h.le
 obtain ⟨a,c,rfl,hR⟩:=id h
 obtain ⟨a',l',c',e,hcap⟩:=hc
 cases e
 by_cases h2:2000 < xs.length
 ·obtain ⟨b,o,u,rfl,_⟩:=hR.at (show 0 < xs.length by omega)
  have hT:=h.take (cap':=c) 2000 Ka
  focus
   refine Zu<|Us Z<|Zs<|Zw<|Zu<|Qo Z<|Vv Jp Z h<|Ut Z<|Zs<|Zx Z (fun h1=>?_) (fun h1=>?_);refine Vq<|Qo Z<|Wo Z (Rr Jp Ga Z Z Ka) ?_;refine Xm Z<|Zs<|Zw<|Vq<|Qo Z<|Wo Z (Vx (ps:=[(0,.slice _ _ _)]) (cs:=[_,_]) flat112 Z Z)<|Yx Z Z Z ?_;rintro b1 w1 hb1 E1 hB1;have hlb1:=hB1.lt;have hs1:=E1.size;refine Us Z<|Zs<|Vb ?_;refine Vk (v:=.pointer _) Z ?_;refine ⟨E1,_,Z,?_⟩;(try dsimp only);rotate_left;(exfalso;omega)
  all_goals exact ⟨Kd,Kd,Kd,_,_,0,hT,by simp;omega,Kd,Ka⟩
 ·focus
   refine Zu<|Us Z<|Zs<|Zw<|Zu<|Qo Z<|Vv Jp Z h<|Ut Z<|Zs<|Zy Z fun h1=>?_;refine Zz<|Zw<|Vq<|Qo Z<|Wo Z (Vx (ps:=[(0,.slice _ _ _)]) (cs:=[_,_]) flat112 Z Z)<|Yx Z Z Z ?_;rintro b1 w1 hb1 E1 hB1;have hlb1:=hB1.lt;have hs1:=E1.size;refine Us Z<|Zs<|Vb ?_;refine Vk (v:=.pointer _) Z ?_;refine ⟨E1,_,Z,?_⟩;(try dsimp only)
  all_goals exact ⟨Kd,Kd,Kd,_,_,0,h,Ka,Kd,Ka⟩
set_option linter.unusedSimpArgs false
theorem isCode_ok (n:Int) (w:World):Does Tryz.prog 127 [.int .i64 n] w (Ret w (.bool (decide (0≤n∧n≤65535)))):=by
 refine Vu Tryz.func127 Z Tryz.results127 Tryz.ntmps127 Z ?_
 focus
  refine Zu<|Vd Z<|Zs<|Zu<|Vc Z<|Qy Z<|Ym Z (fun h1=>?_) (fun h1=>?_);refine Vc Z<|Wsleq Z<|Xb Z<|Vd Z<|Zs<|Vb ?_;refine Vk (v:=.bool _) Z ?_;refine ⟨congrArg Value.bool ?_,(Ext.refl _)⟩;rotate_left;refine Zt Z<|Zt Z<|Ye Z<|Vd Z<|Zs<|Vb ?_;refine Vk (v:=.bool _) Z ?_;refine ⟨congrArg Value.bool ?_,(Ext.refl _)⟩;rotate_left
 ·exact decide_eq_decide.2 Ka
 ·exact (decide_eq_false Ka).symm
def hasC (n m:Int):Bool:=decide (0≤n∧n≤65535∧0≤m∧m≤15) && n.toNat.testBit m.toNat
theorem and_one (x:Nat) (k:Nat):(((x >>> k) &&& 1:Nat):Int)=1↔x.testBit k=true:=by
 rw [Nat.testBit_eq_decide_div_mod_eq,Nat.and_one_is_mod,Nat.shiftRight_eq_div_pow,decide_eq_true_iff]
 generalize x / 2 ^ k=q
 omega
theorem Has_ok (n m:Int) (w:World):Does Tryz.prog 74 [.int .i64 n,.int .i64 m] w (Ret w (.bool (hasC n m))):=by
 refine Vu Tryz.func74 Z Tryz.results74 Tryz.ntmps74 Z ?_
 focus
  refine Zu<|Vd Z<|Zs<|Zu<|Vc Z<|Zv Z (Yl (a:=.int _ _) Tryz.call127 Z) (isCode_ok _ _) ?_;rintro _ w1 ⟨rfl,E1⟩;refine Ym Z (fun h1=>?_) (fun h1=>?_);refine Vc Z<|Zv Z (Yl (a:=.int _ _) Tryz.call127 Z) (isCode_ok _ _) ?_;rintro _ w2 ⟨rfl,E2⟩;refine Xb Z<|Ym Z (fun h2=>?_) (fun h2=>?_);refine Vc Z<|Wsleq Z<|Xb Z<|Ym Z (fun h3=>?_) (fun h3=>?_);refine Vc Z<|Vc Z<|Wo Z (opv_shr Z Z Ka) ?_;refine Wo Z (opv_and Z Z ⟨Int.natCast_nonneg _,Ka⟩) ?_;refine Vr Z<|Xb Z<|Vd Z<|Zs<|Vb ?_;refine Vk (v:=.bool _) Z ?_;refine ⟨congrArg Value.bool ?_,exq⟩;rotate_left;refine Zt Z<|Zt Z<|Zt Z<|Zt Z<|Zt Z<|Ye Z<|Vd Z<|Zs<|Vb ?_
  refine Vk (v:=.bool _) Z ?_;refine ⟨congrArg Value.bool ?_,exq⟩;rotate_left;refine Zt Z<|Zt Z<|Ye Z<|Yt Z<|Zt Z<|Zt Z<|Zt Z<|Zt Z<|Zt Z<|Ye Z<|Vd Z<|Zs<|Vb ?_;refine Vk (v:=.bool _) Z ?_;refine ⟨congrArg Value.bool ?_,exq⟩;rotate_left;refine Zt Z<|Zt Z<|Ye Z<|Yt Z<|Zt Z<|Zt Z<|Ye Z<|Yt Z<|Zt Z<|Zt Z<|Zt Z<|Zt Z<|Zt Z<|Ye Z<|Vd Z<|Zs<|Vb ?_;refine Vk (v:=.bool _) Z ?_;refine ⟨congrArg Value.bool ?_,E1⟩;rotate_left
 ·have hn:0≤n∧n≤65535∧0≤m∧m≤15:=by omega
  unfold hasC
  rw [decide_eq_true hn,Bool.true_and,Bool.eq_iff_iff,decide_eq_true_iff]
  exact and_one _ _
 all_goals
  have hn : ¬(0≤n∧n≤65535∧0≤m∧m≤15):=Ka
  unfold hasC
  rw [decide_eq_false hn];rfl
theorem alive_ok (w:World):Does Tryz.prog 18 [] w (Ret w (.bool true)):=by
 have h1 : ∀ w,Does Tryz.prog 74 [.int .i64 5,.int .i64 2] w (Ret w (.bool true)):=fun w=>by
  have:=Has_ok 5 2 w
  have e:hasC 5 2=true:=Kc
  rw [e] at this;exact this
 have h2 : ∀ w,Does Tryz.prog 74 [.int .i64 5,.int .i64 1] w (Ret w (.bool false)):=fun w=>by
  have:=Has_ok 5 1 w
  have e:hasC 5 1=false:=Kc
  rw [e] at this;exact this
 refine Vu Tryz.func18 Z Tryz.results18 Tryz.ntmps18 Z ?_
 focus
  refine Zu<|Vd Z<|Zs<|Zu<|Zv Z (Yd (a:=.int _ _) (b:=.int _ _) Tryz.call74 Z Z) (h1 _) ?_;rintro _ w1 ⟨rfl,E1⟩;refine Yt Z<|Zv Z (Yd (a:=.int _ _) (b:=.int _ _) Tryz.call74 Z Z) (h2 _) ?_;rintro _ w2 ⟨rfl,E2⟩;refine Xd Z<|Xb Z<|Vd Z<|Zs<|Vb ?_;exact ⟨rfl,exq⟩
end Go.Proofs.YtbgpppaljpngmaaGreatDoor
set_option linter.unusedVariables false
namespace Go.Hs
section
variable {p:List (List Int)} {i j k n m:Nat}
theorem fnd_succ:fnd p (n+1) k=true↔∀ j ∈ arr p k,fnd p n j=true:=by
 show fstep p (fnd p n) k=true↔_
 unfold fstep
 rw [Bool.not_eq_true',List.any_eq_false]
 simp
theorem fnd_cback (hp:Pic p) : ∀ (n k:Nat),k < p.length→fnd p n k=true→cback p k=false:=by
 intro n
 induction n with
 | zero=>intro k _ h;cases h
 | succ n ih =>
   intro k hk h
   cases hc : cback p k with
   | false => rfl
   | true =>
     obtain ⟨j, hj, h2⟩ := (cback_step hp hk).1 hc
     rw [ih j ((Qi hp hk).1 hj).1 (fnd_succ.1 h j hj)] at h2; cases h2
theorem Tk (hp:Pic p) (hk:k < p.length) (h:cback p k=false) (hj:j ∈ arr p k):cback p j=false:=by
 cases hc:cback p j with
 | false=>rfl
 | true=>rw [(cback_step hp hk).2 ⟨j,hj,hc⟩] at h;cases h
theorem rf_lt (hp:Pic p) (hk:k < p.length) (h:cback p k=false) (hj:j ∈ arr p k):(rf p j).length < (rf p k).length:=by
 have hjl:=((Qi hp hk).1 hj).1
 have hn:=pw_nodup (Sg (rch p j) p.length)
 have hnk:k ∉ rf p j:=fun hm=>by
  rw [(Mm hp hk).2 ⟨k,j,.refl _,hj,(Rl hp hjl).1 hm⟩] at h;cases h
 have:=List.Nodup.length_le_of_subset (l₁:=k::rf p j) (l₂:=rf p k) (List.nodup_cons.2 ⟨hnk,hn⟩) (fun x hx=>by
  rcases List.mem_cons.1 hx with rfl | hx
  ·exact (Rl hp hk).2 (.refl _)
  ·exact (Rl hp hk).2 (Rch.head hj ((Rl hp hjl).1 hx)))
 rw [List.length_cons] at this;omega
theorem cback_fnd (hp:Pic p) : ∀ (n k:Nat),k < p.length→(rf p k).length≤n→cback p k=false→fnd p n k=true:=by
 intro n
 induction n with
 | zero =>
   intro k hk h _
   have hm := (Rl hp hk).2 (.refl k)
   rw [List.length_eq_zero_iff.1 (Nat.le_zero.1 h)] at hm; cases hm
 | succ n ih =>
   intro k hk h hc
   refine fnd_succ.2 fun j hj => ih j ((Qi hp hk).1 hj).1 ?_ (Tk hp hk hc hj)
   have := rf_lt hp hk hc hj; omega
theorem fnd_len (hp:Pic p) (hk:k < p.length):fnd p p.length k = !cback p k:=by
 cases hc:cback p k with
 | false=>exact cback_fnd hp _ _ hk Mr hc
 | true =>
   cases hf : fnd p p.length k with
   | false => rfl
   | true => rw [fnd_cback hp _ _ hk hf] at hc; cases hc
def dpt (p:List (List Int)):Nat→Nat→Nat
 | 0,_=>0
 | r+1,k=>(arr p k).foldl (fun n j=>max n (dpt p r j+1)) 0
theorem fold_lt (g:Nat→Nat) (n:Nat) : ∀ (l:List Nat) (a:Nat),l.foldl (fun n j=>max n (g j+1)) a < n+1↔a < n+1∧∀ j ∈ l,g j < n:=by
 intro l
 induction l with
 | nil=>intro a;simp
 | cons x xs ih =>
   intro a
   rw [List.foldl_cons, ih]
   simp only [List.mem_cons, forall_eq_or_imp]
   constructor
   · rintro ⟨h1, h2⟩; exact ⟨Ka, Ka, h2⟩
   · rintro ⟨h1, h2, h3⟩; exact ⟨Ka, h3⟩
theorem dpt_fnd (hp:Pic p) : ∀ (r k:Nat),k < p.length→(rf p k).length≤r→cback p k=false→∀ n,fnd p n k=true↔dpt p r k < n:=by
 intro r
 induction r with
 | zero =>
   intro k hk h _
   have hm := (Rl hp hk).2 (.refl k)
   rw [List.length_eq_zero_iff.1 (Nat.le_zero.1 h)] at hm; cases hm
 | succ r ih =>
   intro k hk h hc n
   cases n with
   | zero => exact ⟨fun h => (by cases h), fun h => Ka⟩
   | succ n =>
     rw [fnd_succ]
     show _ ↔ (arr p k).foldl (fun n j => max n (dpt p r j + 1)) 0 < n + 1
     rw [fold_lt]
     have key : ∀ j ∈ arr p k, (fnd p n j = true ↔ dpt p r j < n) := fun j hj => by
       have := rf_lt hp hk hc hj
       exact ih j ((Qi hp hk).1 hj).1 Ka (Tk hp hk hc hj) n
     exact ⟨fun h => ⟨Ka, fun j hj => (key j hj).1 (h j hj)⟩, fun h j hj => (key j hj).2 (h.2 j hj)⟩
theorem dpt_lt (hp:Pic p) {r:Nat} (hk:k < p.length) (h:(rf p k).length≤r) (hc:cback p k=false):dpt p r k < p.length:=by
 rw [← dpt_fnd hp r k hk h hc,fnd_len hp hk,hc];rfl
end
end Go.Hs
namespace Go.Proofs.YtbgpppaljpngmaaGreatDoor
open Go.Hs
set_option maxRecDepth 10000
set_option maxHeartbeats 4000000
set_option linter.unusedVariables false
set_option linter.unusedSimpArgs false
theorem l6ArrP_ok (w:World) (v:Value) (p:List (List Int)) (h:ESl Ints w v p) (hp:Pic p) (i:Nat) (hi:i < p.length):Does Tryz.prog 119 [v,.int .i64 (i:Int)] w (RetO w XI (ints (arr p i))):=by
 have hle:=h.le
 have hrow:=hp.row hi
 have hp5:=hp.2.1
 unfold arr
 rw [Yo hi]
 refine Vu Tryz.func119 Z Tryz.results119 Tryz.ntmps119 Z ?_
 focus
  refine Zu<|Xm Z<|Zs<|Zu<|Xq XInt Z Qq Kl ?_;rintro b1 w1 hb1 b1lt E1 hO1;refine Xm Z<|Zs<|Zw<|Zu<|Yb Z<|Zs<|Ve ?_
 refine Yw [5,6,8,9,10,11,12,13,14,15,16,17,18,19,20,21,22,23,24,25] (fun (k,u)=>[(6,.int .i64 (k:Nat)),(5,u)]) (fun (k,u) w'=>Ext w w'∧k≤p.length∧Owned w.heap.size XI w' u (ints ((List.range k).filter fun j=>decide (p[i].getD j 0=1)))) (fun x=>p.length - x.1) (0,.slice (some ⟨b1,0,none⟩) 0 0) Kg ?_ ?_
 ·exact ⟨Kd,Nat.zero_le _,by simpa [ints] using hO1⟩
 rintro ⟨k,u⟩ ρj w2 ⟨E2,hk,hO2⟩
 have hll:(ints ((List.range k).filter fun j=>decide (p[i].getD j 0=1))).length≤k:=by
  simp only [ints,List.length_map];exact Nat.le_trans (List.length_filter_le _ _) Ki
 have hfs:=Ug (fun j=>decide (p[i].getD j 0=1)) k
 focus
  have szE2:=E2.size;refine Zw<|Zu<|Vc Z<|Vm v Z<|Vv Kp Z h<|Yc Z<|Zs<|Zx Z (fun h1=>?_) (fun h1=>?_);refine Zz<|Zw<|Ve<|Zw<|Vq<|Vm v Z<|Vc Z<|Yy Kp Kz Jc Z (fun _=>Z) Z h E2 Z Kf ?_;rintro _ u1 hu1;refine Vc Z<|Yy Ko Kl Kn Z (fun _=>Z) Z hu1 E2 Z Kf ?_;rintro _ _ rfl;refine Vr Z<|Zs<|Zx Z (fun h2=>?_) (fun h2=>?_);refine Vq<|Vm u Z<|Vc Z<|Yj (ps:=[(0,.int _ _)]) (cs:=[_]) Z Ko Kl Ji Z Z Z Z ?_;rintro b2 w3 hb2 E3 hB1 hHb2;have hs2:=E3.size
  refine Xu Z Qq Z Z hB1 (hO2.toB.ext E3) Owned.int (Nat.le_refl _) Kf Ka Ka (E2.trans E3) Ka ?_;rintro v1 w4 hO2 E4 M1;refine Xg v1 Z<|Zs<|Vq<|Vc Z<|Yk Z<|Yb Z<|Zs ?_;rotate_left;refine Zz<|Vq<|Vc Z<|Yk Z<|Yb Z<|Zs ?_;rotate_left;refine Yp ?_;refine Vp ?_;refine Zu<|Vm u Z<|Xg u Z<|Zs<|Vb ?_;refine ⟨E2,(congrArg (Owned _ _ _ _) ?_).mp (hO2.toB.o.mono Ka)⟩;rotate_left
 ·refine ⟨((k+1,v1)),Kg,Kh,?_,?_⟩
  ·refine ⟨Kd,Ka,?_⟩
   rw [hfs,Yo Ka,if_pos (by simpa using by assumption)]
   simpa [ints] using hO2
  ·simp only;omega
 ·refine ⟨((k+1,u)),Kg,Kh,?_,?_⟩
  ·refine ⟨E2,Ka,?_⟩
   rw [hfs,Yo Ka,if_neg (by simpa using by assumption)]
   simpa [ints] using hO2
  ·simp only;omega
 ·obtain rfl:k=p[i].length:=by omega
  rfl
theorem dpt_fold {p:List (List Int)} (hp:Pic p) {r k:Nat} (hk:k < p.length) (hc:cback p k=false) (hr:(rf p k).length≤r+1) (j:Nat) :
  ((arr p k).take j).foldl (fun n j=>max n (dpt p r j+1)) 0 < p.length+1:=by
 rw [fold_lt]
 refine ⟨Ka,fun i hi=>?_⟩
 have hi':=List.mem_of_mem_take hi
 have:=rf_lt hp hk hc hi'
 exact dpt_lt hp ((Qi hp hk).1 hi').1 Ka (Tk hp hk hc hi')
theorem deepAt_ok (p:List (List Int)) (hp:Pic p) : ∀ (r:Nat) (w:World) (v:Value) (k:Nat),ESl Ints w v p→k < p.length→cback p k=false→(rf p k).length≤r →
  Does Tryz.prog 189 [v,.int .i64 (k:Int)] w (Ret w (.int .i64 (dpt p r k:Int))):=by
 have hp5:=hp.2.1
 have harr : ∀ (w:World) (pv:Value) (z:Nat),ESl Ints w pv p→z < p.length→Does Tryz.prog 130 [pv,.int .i64 (z:Int)] w (RetO w XI (ints (arr p z))):=fun w pv z h hz =>
  Ql w pv p h (z:Int) Ka (by rw [Yo Ka,hp.row Ka];omega)
 intro r
 induction r with
 | zero =>
   intro w v k h hk hc hr
   have hm := (Rl hp hk).2 (.refl k)
   rw [List.length_eq_zero_iff.1 (Nat.le_zero.1 hr)] at hm; cases hm
 | succ r ih =>
   intro w v k h hk hc hr
   have hla := Xo (arr p k)
   have ha5 := arr_lt5 hp hk
   refine Vu Tryz.func189 Z Tryz.results189 Tryz.ntmps189 Z ?_
   focus
     refine Zu<|Yb Z<|Zs<|Zu<|Yb Z<|Zs<|Zw<|Zu<|Vm v Z<|Vc Z<|Zv Z (Yd (a := v) (b := .int _ _) Jz Z Z) (harr _ _ _ (h) Kd) ?_; rintro u1 w1 ⟨E1, hO1⟩; refine Vv Ko Z (Owned.read hO1)<|Vc Z<|Zs<|Ve ?_
   refine Yw [5, 7, 12, 13, 14, 15, 16, 17, 18, 19, 20, 21, 22] (fun (j, m) => [(12, .int .i64 (j : Nat)), (5, .int .i64 m)]) (fun (j, (m : Int)) w' => Ext w1 w' ∧ j ≤ (arr p k).length ∧ m = ((((arr p k).take j).foldl (fun n j => max n (dpt p r j + 1)) 0 : Nat) : Int)) (fun x => (arr p k).length - x.1) (0, 0) Kg ?_ ?_
   · exact ⟨Ext.refl _, Nat.zero_le _, Ki⟩
   rintro ⟨j, m⟩ ρj w2 ⟨E2, hj, hm⟩
   have hmb := dpt_fold hp hk hc hr j
   obtain ⟨q, hq⟩ : ∃ q, q = ((arr p k).take j).foldl (fun n j => max n (dpt p r j + 1)) 0 := ⟨_, rfl⟩
   rw [← hq] at hm hmb
   by_cases hjl : j < (arr p k).length
   · have hmm := List.getElem_mem hjl
     have hga := Uo hjl
     have hts := Xc _ _ hjl
     have hxl := ((Qi hp hk).1 hmm).1
     have hrl := rf_lt hp hk hc hmm
     have hcb := Tk hp hk hc hmm
     have hdl := dpt_lt hp (r := r) hxl Ka hcb
     have k2 : ∀ (w : World) (pv : Value), ESl Ints w pv p → Does Tryz.prog 189 [pv, .int .i64 ((ints (arr p k))[j]'Ka)] w (Ret w (.int .i64 (dpt p r (arr p k)[j] : Int))) := by
       rw [hga]; exact fun w pv h => ih w pv _ h hxl hcb Ka
     have hnew : max q (dpt p r (arr p k)[j] + 1) = ((arr p k).take (j + 1)).foldl (fun n j => max n (dpt p r j + 1)) 0 := by
       rw [hts, List.foldl_append, ← hq]; rfl
     subst hm
     generalize dpt p r (arr p k)[j] = d at *
     focus
       refine Zu<|Yc Z<|Zs<|Zw<|Zx Z (fun h1 => ?_) (fun h1 => ?_); refine Zz<|Zw<|Ve<|Zu<|Yy Ko Kl Kn Z (fun _ => Z) Z (Owned.read hO1) E2 Z Kf ?_; rintro _ _ rfl; refine Yb Z<|Zs<|Vq<|Vc Z<|Vm v Z<|Vc Z<|Zv Z (Yd (a := v) (b := .int _ _) Tryz.call189 Z Z) (k2 _ _ ((Mono.mono exq h))) ?_; rintro _ w3 ⟨rfl, E3⟩; refine Yk Z<|Wo Z (opv_max Z Z)<|Yb Z<|Zs<|Vq<|Yk Z<|Vc Z<|Zs ?_; rotate_left; (exfalso; omega)
     refine ⟨((j + 1, max (q : Int) ((d : Int) + 1))), Kg, Kh, ?_, ?_⟩
     · exact ⟨E2.trans E3, Ka, by rw [← hnew]; omega⟩
     · simp only; omega
   · obtain rfl : j = (arr p k).length := by omega
     rw [List.take_length] at hq
     have hfin : dpt p (r + 1) k = q := hq.symm
     rw [hfin, ← hm]
     focus
       refine Zu<|Yc Z<|Zs<|Zw<|Zy Z fun h1 => ?_; refine Yp ?_; refine Vp ?_; refine Zu<|Vc Z<|Yb Z<|Zs<|Vb ?_; exact ⟨rfl, exq⟩
theorem spec_DeepAt_ok1 (p:List (List Int)) (hp:Pic p) : ∀ (r:Nat) (w:World) (v:Value) (k:Nat),ESl Ints w v p→k < p.length→cback p k=false→(rf p k).length≤r →
  Does Tryz.prog 68 [v,.int .i64 (k:Int)] w (Ret w (.int .i64 (dpt p r k:Int))):=by
 have hp5:=hp.2.1
 have hN : ∀ (k:Nat),k < p.length→∀ (w:World) (pv:Value),ESl Ints w pv p→Does Tryz.prog 118 [pv,.int .i64 (k:Int)] w (Ret w (.bool true)):=fun k hk w pv h=>by
  have:=Qx w pv p h (k:Int)
  rw [decide_eq_true (show Nod p (k:Int) from ⟨hp,Ka,Ka⟩)] at this;exact this
 intro r
 induction r with
 | zero =>
   intro w v k h hk hc hr
   have hm := (Rl hp hk).2 (.refl k)
   rw [List.length_eq_zero_iff.1 (Nat.le_zero.1 hr)] at hm; cases hm
 | succ r ih =>
   intro w v k h hk hc hr
   have hla := Xo (arr p k)
   have ha5 := arr_lt5 hp hk
   have k1 := hN k hk
   have k3 : ∀ (w : World) (pv : Value), ESl Ints w pv p → Does Tryz.prog 117 [pv, .int .i64 (k : Int)] w (Ret w (.bool false)) := fun w pv h => by
     have := Tc w pv p h hp k hk
     rw [hc] at this; exact this
   have k4 : ∀ (w : World) (pv : Value), ESl Ints w pv p → Does Tryz.prog 119 [pv, .int .i64 (k : Int)] w (RetO w XI (ints (arr p k))) := fun w pv h => l6ArrP_ok w pv p h hp k hk
   refine Vu Tryz.func68 Z Tryz.results68 Tryz.ntmps68 Z ?_
   focus
     refine Zu<|Yb Z<|Zs<|Zw<|Zu<|Vm v Z<|Vc Z<|Zv Z (Yd (a := v) (b := .int _ _) Ge Z Z) (k1 _ _ (h)) ?_; rintro _ w1 ⟨rfl, E1⟩; refine Xd Z<|Xi Z (Yh (v := .bool _) Z) (fun h1 => ?_) (fun h1 => ?_); contradiction; refine Vm v Z<|Vc Z<|Zv Z (Yd (a := v) (b := .int _ _) Tryz.call117 Z Z) (k3 _ _ ((Mono.mono E1 h))) ?_; rintro _ w2 ⟨rfl, E2⟩; refine Ye Z<|Zs<|Va Z ?_; refine Zz<|Zu<|Yb Z<|Zs<|Zu<|Vm v Z<|Vc Z<|Zv Z (Yd (a := v) (b := .int _ _) Gw Z Z) (k4 _ _ ((Mono.mono exq h))) ?_; rintro u1 w3 ⟨E3, hO1⟩; refine Xg u1 Z<|Zs<|Zw<|Zu<|Yb Z<|Zs<|Ve ?_
   refine Yw [5, 7, 20, 21, 22, 23, 24, 25, 26, 27, 28, 29, 30, 31, 32, 33, 34] (fun (j, m) => [(7, .int .i64 (j : Nat)), (5, .int .i64 m)]) (fun (j, (m : Int)) w' => Ext w3 w' ∧ j ≤ (arr p k).length ∧ m = ((((arr p k).take j).foldl (fun n j => max n (dpt p r j + 1)) 0 : Nat) : Int)) (fun x => (arr p k).length - x.1) (0, 0) Kg ?_ ?_
   · exact ⟨Ext.refl _, Nat.zero_le _, Ki⟩
   rintro ⟨j, m⟩ ρj w4 ⟨E4, hj, hm⟩
   have hmb := dpt_fold hp hk hc hr j
   obtain ⟨q, hq⟩ : ∃ q, q = ((arr p k).take j).foldl (fun n j => max n (dpt p r j + 1)) 0 := ⟨_, rfl⟩
   rw [← hq] at hm hmb
   by_cases hjl : j < (arr p k).length
   · have hmm := List.getElem_mem hjl
     have hga := Uo hjl
     have hts := Xc _ _ hjl
     have hxl := ((Qi hp hk).1 hmm).1
     have hrl := rf_lt hp hk hc hmm
     have hcb := Tk hp hk hc hmm
     have hdl := dpt_lt hp (r := r) hxl Ka hcb
     have k2 : ∀ (w : World) (pv : Value), ESl Ints w pv p → Does Tryz.prog 68 [pv, .int .i64 ((ints (arr p k))[j]'Ka)] w (Ret w (.int .i64 (dpt p r (arr p k)[j] : Int))) := by
       rw [hga]; exact fun w pv h => ih w pv _ h hxl hcb Ka
     have hnew : max q (dpt p r (arr p k)[j] + 1) = ((arr p k).take (j + 1)).foldl (fun n j => max n (dpt p r j + 1)) 0 := by
       rw [hts, List.foldl_append, ← hq]; rfl
     subst hm
     generalize dpt p r (arr p k)[j] = d at *
     focus
       refine Zw<|Zu<|Vc Z<|Vm u1 Z<|Vv Ko Z (Owned.read hO1)<|Yc Z<|Zs<|Zx Z (fun h2 => ?_) (fun h2 => ?_); refine Zz<|Zw<|Ve<|Vq<|Vc Z<|Vm v Z<|Vm u1 Z<|Vc Z<|Yy Ko Kl Kn Z (fun _ => Z) Z (Owned.read hO1) E4 Z Kf ?_; rintro _ _ rfl; refine Zv Z (Yd (a := v) (b := .int _ _) Zp Z Z) (k2 _ _ ((Mono.mono exq h))) ?_; rintro _ w5 ⟨rfl, E5⟩; refine Yk Z<|Wo Z (opv_max Z Z)<|Yb Z<|Zs<|Vq<|Vc Z<|Yk Z<|Yb Z<|Zs ?_; rotate_left; (exfalso; omega)
     refine ⟨((j + 1, max (q : Int) ((d : Int) + 1))), Kg, Kh, ?_, ?_⟩
     · exact ⟨E4.trans E5, Ka, by rw [← hnew]; omega⟩
     · simp only; omega
   · obtain rfl : j = (arr p k).length := by omega
     rw [List.take_length] at hq
     have hfin : dpt p (r + 1) k = q := hq.symm
     rw [hfin, ← hm]
     focus
       refine Zw<|Zu<|Vc Z<|Vm u1 Z<|Vv Ko Z (Owned.read hO1)<|Yc Z<|Zs<|Zy Z fun h2 => ?_; refine Yp ?_; refine Vp ?_; refine Zu<|Vc Z<|Yb Z<|Zs<|Vb ?_; exact ⟨rfl, exq⟩
noncomputable def deepAtV (p:List (List Int)) (z:Int):Int:=if Nod p z∧cback p z.toNat=false then (dpt p p.length z.toNat:Int) else -1
theorem spec_DeepAt_ok (w:World) (v:Value) (p:List (List Int)) (h:ESl Ints w v p) (z:Int):Does Tryz.prog 68 [v,.int .i64 z] w (Ret w (.int .i64 (deepAtV p z))):=by
 have hnn : ∀ (x:Bool),decide (Nod p z)=x→∀ (w:World) (pv:Value),ESl Ints w pv p→Does Tryz.prog 118 [pv,.int .i64 z] w (Ret w (.bool x)):=fun x e w pv h=>by
  subst e;exact Qx w pv p h z
 by_cases hz:Nod p z
 ·have hp:=hz.1
  have hz':=hz.2
  cases hc:cback p z.toNat with
  | false =>
    rw [show deepAtV p z = (dpt p p.length z.toNat : Int) from if_pos ⟨hz, hc⟩]
    have := spec_DeepAt_ok1 p hp p.length w v z.toNat h Ka hc Mr
    rw [Int.toNat_of_nonneg hz'.1] at this; exact this
  | true =>
    rw [show deepAtV p z = -1 from if_neg (fun h => by rw [hc] at h; cases h.2)]
    have k1 := hnn true (decide_eq_true hz)
    have k2 : ∀ (w : World) (pv : Value), ESl Ints w pv p → Does Tryz.prog 117 [pv, .int .i64 z] w (Ret w (.bool true)) := fun w pv h => by
      have := Tc w pv p h hp z.toNat Ka
      rw [hc, Int.toNat_of_nonneg hz'.1] at this; exact this
    clear hnn
    refine Vu Tryz.func68 Z Tryz.results68 Tryz.ntmps68 Z ?_
    focus
      refine Zu<|Yb Z<|Zs<|Zw<|Zu<|Vm v Z<|Vc Z<|Zv Z (Yd (a := v) (b := .int _ _) Ge Z Z) (k1 _ _ (h)) ?_; rintro _ w1 ⟨rfl, E1⟩; refine Xd Z<|Xi Z (Yh (v := .bool _) Z) (fun h1 => ?_) (fun h1 => ?_); contradiction; refine Vm v Z<|Vc Z<|Zv Z (Yd (a := v) (b := .int _ _) Tryz.call117 Z Z) (k2 _ _ ((Mono.mono E1 h))) ?_; rintro _ w2 ⟨rfl, E2⟩; refine Ye Z<|Zs<|Yi Z ?_; refine Zu<|Yb Z<|Zs<|Vb ?_; exact ⟨rfl, exq⟩
 ·rw [show deepAtV p z = -1 from if_neg (fun h=>hz h.1)]
  have k1:=hnn false (decide_eq_false hz)
  clear hnn
  refine Vu Tryz.func68 Z Tryz.results68 Tryz.ntmps68 Z ?_
  focus
   refine Zu<|Yb Z<|Zs<|Zw<|Zu<|Vm v Z<|Vc Z<|Zv Z (Yd (a:=v) (b:=.int _ _) Ge Z Z) (k1 _ _ (h)) ?_;rintro _ w1 ⟨rfl,E1⟩;refine Xd Z<|Xi Z (Yh (v:=.bool _) Z) (fun h1=>?_) (fun h1=>?_);refine Zt Z<|Zt Z<|Zt Z<|Xb Z<|Zs<|Yi Z ?_;refine Zu<|Yb Z<|Zs<|Vb ?_;exact ⟨rfl,E1⟩;contradiction
theorem impl_DeepAt_ok (w:World) (v:Value) (p:List (List Int)) (h:ESl Ints w v p) (z:Int):Does Tryz.prog 157 [v,.int .i64 z] w (Ret w (.int .i64 (deepAtV p z))):=by
 have hnn : ∀ (x:Bool),decide (Nod p z)=x→∀ (w:World) (pv:Value),ESl Ints w pv p→Does Tryz.prog 94 [pv,.int .i64 z] w (Ret w (.bool x)):=fun x e w pv h=>by
  subst e;exact Ro w pv p h z
 by_cases hz:Nod p z
 ·have hp:=hz.1
  have hz':=hz.2
  have k1:=hnn true (decide_eq_true hz)
  have hcb : ∀ x,cback p z.toNat=x→∀ (w:World) (pv:Value),ESl Ints w pv p→Does Tryz.prog 187 [pv,.int .i64 z] w (Ret w (.bool x)):=fun x e w pv h=>by
   subst e
   have:=Nf w pv p h hp z.toNat Ka
   rw [Int.toNat_of_nonneg hz'.1] at this;exact this
  clear hnn
  cases hc:cback p z.toNat with
  | false =>
    rw [show deepAtV p z = (dpt p p.length z.toNat : Int) from if_pos ⟨hz, hc⟩]
    have k2 := hcb _ hc
    have k3 : ∀ (w : World) (pv : Value), ESl Ints w pv p → Does Tryz.prog 189 [pv, .int .i64 z] w (Ret w (.int .i64 (dpt p p.length z.toNat : Int))) := fun w pv h => by
      have := deepAt_ok p hp p.length w pv z.toNat h Ka hc Mr
      rw [Int.toNat_of_nonneg hz'.1] at this; exact this
    clear hcb
    refine Vu Tryz.func157 Z Tryz.results157 Tryz.ntmps157 Z ?_
    focus
      refine Zu<|Yb Z<|Zs<|Zw<|Zu<|Vm v Z<|Vc Z<|Zv Z (Yd (a := v) (b := .int _ _) Gg Z Z) (k1 _ _ (h)) ?_; rintro _ w1 ⟨rfl, E1⟩; refine Xd Z<|Xi Z (Yh (v := .bool _) Z) (fun h1 => ?_) (fun h1 => ?_); contradiction; refine Vm v Z<|Vc Z<|Zv Z (Yd (a := v) (b := .int _ _) Zn Z Z) (k2 _ _ ((Mono.mono E1 h))) ?_; rintro _ w2 ⟨rfl, E2⟩; refine Ye Z<|Zs<|Va Z ?_; refine Zz<|Zu<|Vm v Z<|Vc Z<|Zv Z (Yd (a := v) (b := .int _ _) Tryz.call189 Z Z) (k3 _ _ ((Mono.mono exq h))) ?_; rintro _ w3 ⟨rfl, E3⟩; refine Yb Z<|Zs<|Vb ?_; exact ⟨rfl, exq⟩
  | true =>
    rw [show deepAtV p z = -1 from if_neg (fun h => by rw [hc] at h; cases h.2)]
    have k2 := hcb _ hc
    clear hcb
    refine Vu Tryz.func157 Z Tryz.results157 Tryz.ntmps157 Z ?_
    focus
      refine Zu<|Yb Z<|Zs<|Zw<|Zu<|Vm v Z<|Vc Z<|Zv Z (Yd (a := v) (b := .int _ _) Gg Z Z) (k1 _ _ (h)) ?_; rintro _ w1 ⟨rfl, E1⟩; refine Xd Z<|Xi Z (Yh (v := .bool _) Z) (fun h1 => ?_) (fun h1 => ?_); contradiction; refine Vm v Z<|Vc Z<|Zv Z (Yd (a := v) (b := .int _ _) Zn Z Z) (k2 _ _ ((Mono.mono E1 h))) ?_; rintro _ w2 ⟨rfl, E2⟩; refine Ye Z<|Zs<|Yi Z ?_; refine Zu<|Yb Z<|Zs<|Vb ?_; exact ⟨rfl, exq⟩
 ·rw [show deepAtV p z = -1 from if_neg (fun h=>hz h.1)]
  have k1:=hnn false (decide_eq_false hz)
  clear hnn
  refine Vu Tryz.func157 Z Tryz.results157 Tryz.ntmps157 Z ?_
  focus
   refine Zu<|Yb Z<|Zs<|Zw<|Zu<|Vm v Z<|Vc Z<|Zv Z (Yd (a:=v) (b:=.int _ _) Gg Z Z) (k1 _ _ (h)) ?_;rintro _ w1 ⟨rfl,E1⟩;refine Xd Z<|Xi Z (Yh (v:=.bool _) Z) (fun h1=>?_) (fun h1=>?_);refine Zt Z<|Zt Z<|Zt Z<|Xb Z<|Zs<|Yi Z ?_;refine Zu<|Yb Z<|Zs<|Vb ?_;exact ⟨rfl,E1⟩;contradiction
theorem Picture_ok {w0:World} (w:World) {br m:Nat} (n:Int) (hr:Rdr w0 w br m) (hm:m≤100000000) (hn:0≤n∧n≤1000) :
  Does Tryz.prog 151 [.pointer (some ⟨br,0,none⟩),.int .i64 n] w (RetDO w0 w br (m+60) XR (fun p=>p.length≤5∧∀ r ∈ p,r.length≤6)):=by
 refine Vu Tryz.func151 Z Tryz.results151 Tryz.ntmps151 Z ?_
 have hG:w.grownBy w (some br):=Ra _ _
 have hlr:=hr.lt
 have hgr:=hr.ge
 have E0:=hr.old
 focus
  refine Zu<|Xm Z<|Zs<|Zu<|Ua Z<|Zv Z (Yd (a:=.pointer _) (b:=.int _ _) Jb Z Z) (Yv _ _ Kd Ka) ?_;rintro _ w1 ⟨y1,rfl,E1,hr1,hy1⟩;(try dsimp only at hy1);have hlhr1:=hr1.lt;have hG:=Vh hG E1;have hs1:=E1.size;refine Yk Z<|Yb Z<|Zs<|Zu<|Xq (XSl 3 XInt) Z Rp Kz ?_;rintro b1 w2 hb1 b1lt E2 hO1;have hr1:=hr1.ext E2;have hG:=Vj hG E2;refine Xm Z<|Zs<|Zu<|Ua Z<|Zv Z (Yd (a:=.pointer _) (b:=.int _ _) Jb Z Z) (Yv _ _ Kd Ka) ?_;rintro _ w3 ⟨y2,rfl,E3,hr2,hy2⟩;(try dsimp only at hy2);have hO1:=hO1.toB.grown E3 Ka;have hG:=Vh hG E3;refine Yb Z<|Zs<|Zw<|Zu<|Yb Z<|Zs<|Ve ?_
 have hy1':=hy1 Ka
 have hn5:(1+(y1:Int)).toNat=1+y1:=Ka
 refine Yw [6,8,9,10,17,18,19,20,21,22,23,24,25,26,27,28,29,30,31,32,33,34,35,36,37,38,39,40,41,42,43,44,45,46,47,48,49,50,51,52,53,54,55,56,57,58,59,60,61,62] (fun (k,u,rows)=>[(8,.int .i64 (k:Nat)),(6,u)]) (fun (k,u,rows) w'=>w.grownBy w' (some br)∧Rdr w0 w' br (m+2+6*k)∧k≤1+y1∧Owned w.heap.size XR w' u rows∧rows.length=k∧∀ r ∈ rows,r.length=1+y1) (fun x=>1+y1 - x.1) (0,.slice (some ⟨b1,0,none⟩) 0 0,[]) Kg ?_ ?_
 ·exact ⟨hG,hr2,Nat.zero_le _,hO1.o.mono Ka,rfl,Ki⟩
 rintro ⟨k,u,rows⟩ ρj w4 ⟨hG4,hr4,hk,hO4,hrl,hrr⟩
 have hg4:=hG4.size
 by_cases hlt:k < 1+y1
 ·focus
   refine Zw<|Zu<|Vc Z<|Vc Z<|Yc Z<|Zs<|Zx Z (fun h1=>?_) (fun h1=>?_);refine Zz<|Zw<|Ve<|Zw<|Vq<|Vc Z<|Nu Z Qq (int_z Ka Z) Ka ?_;rintro b2 w5 hb2 b2lt E5 hO2;have hG4:=Vj hG4 E5;have hr4:=hr4.ext E5;refine Xm Z<|Zs<|Zw<|Zu<|Yb Z<|Zs<|Ve ?_;rotate_left;(exfalso;omega)
  refine Yw [10,24,25,26,27,28,29,30,31,32,33,34,35,36,37,38,39,40,41,42,43,44,45] (fun (j,row)=>[(10,.int .i64 (j:Nat))]) (fun (j,row) w'=>w.grownBy w' (some br)∧Rdr w0 w' br (m+2+6*k+j)∧j≤1+y1∧OwnedB w.heap.size w4.heap.size XR w' u rows∧Owned w4.heap.size XI w' (.slice (some ⟨b2,0,none⟩) (1+(y1:Int)).toNat (1+(y1:Int)).toNat) row∧row.length=1+y1) (fun x=>1+y1 - x.1) (0,List.replicate (1+(y1:Int)).toNat 0) Kg ?_ ?_
  ·exact ⟨hG4,hr4,Nat.zero_le _,hO4.toB.ext E5,hO2,by simp;omega⟩
  rintro ⟨j,row⟩ ρi w6 ⟨hG6,hr6,hj,hO6,hR6,hrow⟩
  have E6:=hr6.old
  have hb6:=hR6.lt_own (k:=b2) rfl
  have hs6:w4.heap.size≤w6.heap.size:=Ka
  by_cases hjl:j < 1+y1
  ·focus
    refine Zw<|Zu<|Vc Z<|Vc Z<|Yc Z<|Zs<|Zx Z (fun h2=>?_) (fun h2=>?_);refine Zz<|Zw<|Ve<|Zu<|Vc Z<|Vr Z<|Ym Z (fun h3=>?_) (fun h3=>?_);refine Vc Z<|Vc Z<|Ut Z<|Xb Z<|Ym Z (fun h4=>?_) (fun h4=>?_);refine Zt Z<|Zt Z<|Xb Z<|Zs<|Yi Z ?_;refine Vq<|Qo Z<|Vc Z<|Ua Z<|Zv Z (Yd (a:=.pointer _) (b:=.int _ _) Jb Z Z) (Yv _ _ Kd Ka) ?_;rintro _ w7 ⟨y3,rfl,E7,hr3,hy3⟩;(try dsimp only at hy3);have Ehr3:=hr3.old;have hG6:=Vh hG6 E7;have hO6:=hO6.grown E7 Ka;have hR6:=hR6.toB.grown E7 Ka;refine Wo Z (Qj Z Z Ka) ?_;refine Wo Z (Vn Ko Kl Z Z Ka) ?_
    refine Wo_set Z Kl Z Z hR6 Kf Owned.int (Nat.le_refl _) Ka ?_;rintro w8 hR6 On1 K1 hz1;have E8:=On1.ext1 Ehr3 Ka;have hr3:=hr3.wrote E8 (K1 _ Ka) hz1;have hG6:=Vz hG6 Ehr3 E8 K1 hz1 (by first | exact .inr rfl | omega);have hO6:=hO6.wrote K1 Ka;refine Zs<|Vq<|Vc Z<|Yk Z<|Yb Z<|Zs ?_;rotate_left;refine Vc Z<|Ut Z<|Ye Z<|Zs<|Zy Z fun h5=>?_;refine Zz<|Vq<|Vc Z<|Yk Z<|Yb Z<|Zs ?_;rotate_left;refine Zt Z<|Zt Z<|Zt Z<|Ye Z<|Yt Z<|Vc Z<|Ut Z<|Ye Z<|Zs<|Zx Z (fun h4=>?_) (fun h4=>?_)
    refine Vq<|Qo Z<|Vc Z<|Ua Z<|Zv Z (Yd (a:=.pointer _) (b:=.int _ _) Jb Z Z) (Yv _ _ Kd Ka) ?_;rintro _ w7 ⟨y3,rfl,E7,hr3,hy3⟩;(try dsimp only at hy3);have Ehr3:=hr3.old;have hG6:=Vh hG6 E7;have hO6:=hO6.grown E7 Ka;have hR6:=hR6.toB.grown E7 Ka;refine Wo Z (Qj Z Z Ka) ?_;refine Wo Z (Vn Ko Kl Z Z Ka) ?_;refine Wo_set Z Kl Z Z hR6 Kf Owned.int (Nat.le_refl _) Ka ?_;rintro w8 hR6 On1 K1 hz1;have E8:=On1.ext1 Ehr3 Ka;have hr3:=hr3.wrote E8 (K1 _ Ka) hz1;have hG6:=Vz hG6 Ehr3 E8 K1 hz1 (by first | exact .inr rfl | omega);have hO6:=hO6.wrote K1 Ka
    refine Zs<|Vq<|Vc Z<|Yk Z<|Yb Z<|Zs ?_;rotate_left;(exfalso;omega);(exfalso;omega)
   ·refine ⟨((j+1,row.set j ((y3:Int) / 2))),Kg,Kh,?_,?_⟩
    ·exact ⟨Kd,Rdr.le Kd Ka,Ka,Kd,Kd,by simp [hrow]⟩
    ·simp only;omega
   ·refine ⟨((j+1,row)),Kg,Kh,?_,?_⟩
    ·exact ⟨Kd,Rdr.le Kd Ka,Ka,Kd,Kd,hrow⟩
    ·simp only;omega
   ·refine ⟨((j+1,row.set j ((y3:Int) / 2))),Kg,Kh,?_,?_⟩
    ·exact ⟨Kd,Rdr.le Kd Ka,Ka,Kd,Kd,by simp [hrow]⟩
    ·simp only;omega
  ·obtain rfl:j=1+y1:=by omega
   have hrs : ∀ (rw':List Int),rw'.length=1+y1→∀ r ∈ rows++[rw'],r.length=1+y1:=by
    intro rw' h9 r hr9
    rcases List.mem_append.1 hr9 with h | h
    ·exact hrr r h
    ·rw [List.mem_singleton.1 h];exact h9
   focus
    have szE0:=E0.size;refine Zw<|Zu<|Vc Z<|Vc Z<|Yc Z<|Zs<|Zy Z fun h2=>?_;refine Yp ?_;refine Vp ?_;refine Zw<|Zu<|Vc Z<|Yk Z<|Vc Z<|Yc Z<|Ym Z (fun h3=>?_) (fun h3=>?_);refine Ua Z<|Zv Z (Yd (a:=.pointer _) (b:=.int _ _) Jb Z Z) (Yv _ _ Kd Ka) ?_;rintro _ w7 ⟨y3,rfl,E7,hr3,hy3⟩;(try dsimp only at hy3);have Ehr3:=hr3.old;have hG6:=Vh hG6 E7;have hO6:=hO6.grown E7 Ka;have hR6:=hR6.toB.grown E7 Ka;have hs5:=E7.size;refine Ut Z<|Xb Z<|Zs<|Zx Z (fun h4=>?_) (fun h4=>?_);refine Vq<|Qo Z<|Vc Z<|Yk Z<|Wo Z (Ux Ko Kl Z Z Ka) ?_
    refine Wo_set Z Kl Z Z hR6 Kf Owned.int (Nat.le_refl _) Ka ?_;rintro w8 hR6 On1 K1 hz1;have E8:=On1.ext1 Ehr3 Ka;have hr3:=hr3.wrote E8 (K1 _ Ka) hz1;have hG6:=Vz hG6 Ehr3 E8 K1 hz1 (by first | exact .inr rfl | omega);have hO6:=hO6.wrote K1 Ka;refine Zs<|Vq<|Vm u Z<|Qo Z<|Yf (ps:=[(0,.slice _ _ _)]) (cs:=[_]) Z Kp Kz Js Z Z Z Z ?_;rintro b3 w9 hb3 E9 hB1;have hlb3:=hB1.lt;have hr3:=hr3.ext E9;have hG6:=Vj hG6 E9;refine Xu Z Rp Z Z hB1 (hO6.ext E9) (hR6.toB.ext E9).o Ka Kf Ka Ka (E8.trans E9) Ka ?_;have hT1:=(hO6.ext E9);rintro v1 w10 hO6 E10 M1;have hr3:=hr3.moves E10 M1 hT1 Ka
    have hG6:=To hG6 M1 hT1 Ka;refine Xg v1 Z<|Zs<|Vq<|Vc Z<|Yk Z<|Yb Z<|Zs ?_;rotate_left;refine Zz<|Vq<|Vm u Z<|Qo Z<|Yf (ps:=[(0,.slice _ _ _)]) (cs:=[_]) Z Kp Kz Js Z Z Z Z ?_;rintro b3 w8 hb3 E8 hB1;have hlb3:=hB1.lt;have hr3:=hr3.ext E8;have hG6:=Vj hG6 E8;refine Xu Z Rp Z Z hB1 (hO6.ext E8) (hR6.ext E8).o Ka Kf Ka Ka (Ehr3.trans E8) Ka ?_;have hT1:=(hO6.ext E8);rintro v1 w9 hO6 E9 M1;have hr3:=hr3.moves E9 M1 hT1 Ka;have hG6:=To hG6 M1 hT1 Ka;refine Xg v1 Z<|Zs<|Vq<|Vc Z<|Yk Z<|Yb Z<|Zs ?_;rotate_left
    refine Zt Z<|Zt Z<|Zt Z<|Ye Z<|Zs<|Va Z ?_;refine Zz<|Vq<|Vm u Z<|Qo Z<|Yf (ps:=[(0,.slice _ _ _)]) (cs:=[_]) Z Kp Kz Js Z Z Z Z ?_;rintro b3 w7 hb3 E7 hB1;have hlb3:=hB1.lt;have hG6:=Vj hG6 E7;have hr6:=hr6.ext E7;refine Xu Z Rp Z Z hB1 (hO6.ext E7) (hR6.toB.ext E7).o Ka Kf Ka Ka (E6.trans E7) Ka ?_;have hT1:=(hO6.ext E7);rintro v1 w8 hO6 E8 M1;have hG6:=To hG6 M1 hT1 Ka;have hr6:=hr6.moves E8 M1 hT1 Ka;refine Wo Z (Xw (v:=v1) Z)<|Zs<|Qa Z<|Wo Z (Yh (v:=.int _ _) Z)<|Yk Z<|Yb Z<|Zs ?_;rotate_left
   ·refine ⟨((k+1,v1,rows++[row.set ((k:Int)+1).toNat 1])),Kg,Kh,?_,?_⟩
    ·exact ⟨Kd,Rdr.le Kd Ka,Ka,Kd,by simp [hrl],hrs _ (by simp [hrow])⟩
    ·simp only;omega
   ·refine ⟨((k+1,v1,rows++[row])),Kg,Kh,?_,?_⟩
    ·exact ⟨Kd,Rdr.le Kd Ka,Ka,Kd,by simp [hrl],hrs _ hrow⟩
    ·simp only;omega
   ·refine ⟨((k+1,v1,rows++[row])),Kg,Kh,?_,?_⟩
    ·exact ⟨Kd,Rdr.le Kd Ka,Ka,Kd,by simp [hrl],hrs _ hrow⟩
    ·simp only;omega
 ·obtain rfl:k=1+y1:=by omega
  obtain ⟨ub,uc,rfl,_⟩:=hO4.lit Ka
  have hub:=hO4.lt_own (k:=ub) rfl
  have hrow:=hrr rows[0] (List.getElem_mem Ka)
  obtain ⟨brw,crw,hRow,hbw1,hbw2⟩:=hO4.rowAt (i:=0) Ka Ka
  focus
   refine Zw<|Zu<|Vc Z<|Vc Z<|Yc Z<|Zs<|Zy Z fun h1=>?_;refine Yp ?_;refine Vp ?_;refine Zw<|Zu<|Ua Z<|Vc Z<|Zv Z (Yd (a:=.pointer _) (b:=.int _ _) Tryz.call76 Z Z) (odd_ok _ _ Kd Ka Ka) ?_;rintro _ w5 ⟨y3,rfl,E5,hr3,hy3⟩;(try dsimp only at hy3);have hG4:=Vh hG4 E5;have hO4:=hO4.toB.grown E5 Ka;have hRow:=hRow.grown E5 (by simp [Value.ownBlock];omega);have hs4:=E5.size;refine Zs<|Xr Z (fun h2=>?_) (fun h2=>?_);refine Zu<|Ua Z<|Zv Z (Yd (a:=.pointer _) (b:=.int _ _) Jb Z Z) (Yv _ _ Kd Ka) ?_;rintro _ w6 ⟨y4,rfl,E6,hr5,hy4⟩;(try dsimp only at hy4);have Ehr5:=hr5.old;have hG4:=Vh hG4 E6;have hO4:=hO4.grown E6 Ka
   have hRow:=hRow.grown E6 (by simp [Value.ownBlock];omega);have hs5:=E6.size;refine Zs<|Ve<|Zu<|Vr Z<|Vd Z<|Zs<|Zx Z (fun h3=>?_) (fun h3=>?_);refine Zu<|Xq (XSl 3 XInt) Z Rp Kz ?_;rintro b2 w7 hb2 b2lt E7 hO2;have hr5:=hr5.ext E7;have hG4:=Vj hG4 E7;refine Xm Z<|Zs<|Vb ?_;refine Vk (v:=.slice _ _ _) Z ?_;rotate_left;refine Zu<|Vr Z<|Vd Z<|Zs<|Zx Z (fun h4=>?_) (fun h4=>?_);refine Vq<|Qo Z<|Tu Kp Kz Jc Z (fun _=>Z) Z ⟨_,_,Z⟩ Z hRow Kf ?_;rintro _;refine Wo Z (Vn (k:=0) Ko Kl Z Z Ka) ?_
   refine Sn Z Kl Z Z hO4 hRow Kf Kf ?_;rintro w7 hO4 hRow On1 K1 hz1;have E7:=On1.ext1 Ehr5 Ka;have hr5:=hr5.wrote E7 (K1 _ Ka) hz1;have hG4:=Vz hG4 Ehr5 E7 K1 hz1 (by first | exact .inr rfl | omega);refine Zs<|Zu<|Qo Z<|Xm Z<|Zs<|Vb ?_;refine Vk (v:=.slice _ _ _) Z ?_;rotate_left;refine Vq<|Qo Z<|Qo Z<|Tu Kp Kz Jc Z (fun _=>Z) Z ⟨_,_,Z⟩ Z hRow Kf ?_;rintro _;refine Yj (ps:=[(0,.int _ _)]) (cs:=[_]) Z Ko Kl Ji Z Z Z Z ?_;rintro b2 w7 hb2 E7 hB1 hHb2;have hlb2:=hB1.lt;have hr5:=hr5.ext E7;have hG4:=Vj hG4 E7;rotate_left
   refine Zz<|Zu<|Qo Z<|Xm Z<|Zs<|Vb ?_;refine Vk (v:=.slice _ _ _) Z ?_;rotate_left
  ·exact ⟨Kd,Rdr.le Kd Ka,[],Owned.mono Kd Ka,Ki⟩
  ·refine ⟨Kd,Rdr.le Kd Ka,_,Kd,by simp;omega,fun r hr9=>?_⟩
   rcases List.mem_or_eq_of_mem_set hr9 with h | h
   ·have:=hrr r h;omega
   ·rw [h];simp;omega
  ·have hO7:=hO4.ext (show Ext w6 w7 by assumption)
   have hR7:=hRow.ext (show Ext w6 w7 by assumption)
   obtain ⟨hme,hRO⟩:=hO7.rowOwn hR7 Ka
   focus
    refine Xu Z Qq Z Z hB1 hRO Owned.int (Nat.le_refl _) Kf Ka Ka (Ehr5.trans E7) Ka ?_;have hT1:=hRO;rintro v1 w8 hRO E8 M1;have hr5:=hr5.moves E8 M1 hT1 Ka;have hG4:=To hG4 M1 hT1 Ka;refine Wo Z (Vn (k:=0) Kp Kz Z Z Ka) ?_
   obtain ⟨q1,q2,⟨q3,q4⟩,q5⟩:=hO7.rowBack hR7 Ka (show Moves w7 (.slice (some ⟨brw,0,none⟩) rows[0].length crw) w8 v1 from M1) hRO Ka
   refine Mg (w':=w8.setCell ⟨ub,0,none⟩ v1) Z (ops_store Kz Z Z q2 q4 q5) ?_
   have E9:Ext w0 (w8.setCell ⟨ub,0,none⟩ v1):=E8.setCell Kj v1
   have hr9:=hr5.wrote E9 (Hs.heap_setCell_other v1 (show br≠ub by omega)) (size_setCell _ _)
   have hG9:=Vz (b:=ub) hG4 E8 E9 (fun k hk=>Hs.heap_setCell_other v1 hk) (size_setCell _ _) (.inl hub.1)
   generalize w8.setCell ⟨ub,0,none⟩ v1=w9 at q1 hr9 hG9 E9
   focus
    refine Zs<|Zu<|Qo Z<|Xm Z<|Zs<|Vb ?_;refine Vk (v:=.slice _ _ _) Z ?_
   refine ⟨hG9,hr9.le Ka,_,q1,by simp;omega,fun r hr'=>?_⟩
   rcases List.mem_or_eq_of_mem_set hr' with h | h
   ·have:=hrr r h;omega
   ·rw [h];simp;omega
  ·refine ⟨Kd,Rdr.le Kd Ka,_,OwnedB.o Kd,Ka,fun r hr9=>?_⟩
   have:=hrr r hr9;omega
end Go.Proofs.YtbgpppaljpngmaaGreatDoor
set_option linter.unusedVariables false
namespace Go.Hs
section
variable {p:List (List Int)} {j k n m c:Nat}
def codS (o x:Option Nat):Option Nat:=match o,x with
 | some s,some m=>if m≤15 then some (s ||| 1 <<< m) else none
 | _,_=>none
def cod (p:List (List Int)):Nat→Nat→Option Nat
 | 0,_=>none
 | r+1,k=>(arr p k).foldl (fun o j=>codS o (cod p r j)) (some 0)
theorem codS_none (x:Option Nat):codS none x=none:=rfl
theorem cod_none (g:Nat→Option Nat) : ∀ (l:List Nat),l.foldl (fun o j=>codS o (g j)) none=none:=by
 intro l
 induction l with
 | nil=>rfl
 | cons a l ih=>rw [List.foldl_cons,codS_none];exact ih
theorem cod_fold (g:Nat→Option Nat) : ∀ (l:List Nat) (s c:Nat),l.foldl (fun o j=>codS o (g j)) (some s)=some c →
  (∀ j ∈ l,∃ m,g j=some m∧m≤15)∧(∀ i,c.testBit i=true↔s.testBit i=true∨∃ j ∈ l,g j=some i)∧(s < 65536→c < 65536):=by
 intro l
 induction l with
 | nil=>intro s c h;cases h;exact ⟨fun j hj=>by simp at hj,fun i=>Ki,id⟩
 | cons a l ih =>
   intro s c h
   rw [List.foldl_cons] at h
   cases hg : g a with
   | none => rw [hg, show codS (some s) none = none from rfl, cod_none] at h; cases h
   | some m =>
     by_cases hm : m ≤ 15
     · rw [hg, show codS (some s) (some m) = some (s ||| 1 <<< m) from if_pos hm] at h
       obtain ⟨h1, h2, h3⟩ := ih _ _ h
       refine ⟨fun j hj => ?_, fun i => ?_, fun hs => h3 ?_⟩
       · rcases List.mem_cons.1 hj with rfl | hj
         · exact ⟨m, hg, hm⟩
         · exact h1 j hj
       · rw [h2 i, Nat.testBit_or, Nat.one_shiftLeft, Nat.testBit_two_pow]
         simp only [Bool.or_eq_true, decide_eq_true_eq, List.mem_cons]
         constructor
         · rintro ((h | h) | ⟨j, hj, h⟩)
           · exact .inl h
           · exact .inr ⟨a, .inl rfl, by rw [hg, h]⟩
           · exact .inr ⟨j, .inr hj, h⟩
         · rintro (h | ⟨j, rfl | hj, h⟩)
           · exact .inl (.inl h)
           · rw [hg] at h; cases h; exact .inl (.inr rfl)
           · exact .inr ⟨j, hj, h⟩
       · have h4 : 2 ^ m < 2 ^ 16 := Nat.pow_lt_pow_right Ka Ka
         rw [Nat.one_shiftLeft]
         exact Nat.or_lt_two_pow (n := 16) hs h4
     · rw [hg, show codS (some s) (some m) = none from if_neg hm, cod_none] at h; cases h
theorem cod_lt {r:Nat} (h:cod p r k=some c):c < 65536:=by
 cases r with
 | zero=>cases h
 | succ r=>exact (cod_fold _ _ _ _ h).2.2 Ka
end
end Go.Hs
namespace Go.Proofs.YtbgpppaljpngmaaGreatDoor
open Go.Hs
set_option maxRecDepth 10000
set_option maxHeartbeats 4000000
set_option linter.unusedVariables false
set_option linter.unusedSimpArgs false
def codP (o:Option Nat):Nat × Bool:=match o with
 | some c=>(c,true)
 | none=>(0,false)
theorem codeAt_ok (p:List (List Int)) (hp:Pic p) : ∀ (r:Nat) (w:World) (v:Value) (k:Nat),ESl Ints w v p→k < p.length→cback p k=false→(rf p k).length≤r →
  Does Tryz.prog 188 [v,.int .i64 (k:Int)] w (Ret w (.tuple #[.int .i64 ((codP (cod p r k)).1:Int),.bool (codP (cod p r k)).2])):=by
 have hp5:=hp.2.1
 have harr : ∀ (w:World) (pv:Value) (z:Nat),ESl Ints w pv p→z < p.length→Does Tryz.prog 130 [pv,.int .i64 (z:Int)] w (RetO w XI (ints (arr p z))):=fun w pv z h hz =>
  Ql w pv p h (z:Int) Ka (by rw [Yo Ka,hp.row Ka];omega)
 intro r
 induction r with
 | zero =>
   intro w v k h hk hc hr
   have hm := (Rl hp hk).2 (.refl k)
   rw [List.length_eq_zero_iff.1 (Nat.le_zero.1 hr)] at hm; cases hm
 | succ r ih =>
   intro w v k h hk hc hr
   have hla := Xo (arr p k)
   have ha5 := arr_lt5 hp hk
   refine Ue Tryz.func188 Z Tryz.results188 Tryz.ntmps188 Z ?_
   focus
     refine Zu<|Yb Z<|Vd Z<|Zs<|Zu<|Yb Z<|Zs<|Zw<|Zu<|Vm v Z<|Vc Z<|Zv Z (Yd (a := v) (b := .int _ _) Jz Z Z) (harr _ _ _ (h) Kd) ?_; rintro u1 w1 ⟨E1, hO1⟩; refine Vv Ko Z (Owned.read hO1)<|Vc Z<|Zs<|Ve ?_
   refine Yw [4, 5, 6, 8, 9, 10, 15, 16, 17, 18, 19, 20, 21, 22, 23, 24, 25, 26, 27, 28, 29, 30, 31, 32, 33, 34, 35] (fun (j, s) => [(15, .int .i64 (j : Nat)), (6, .int .i64 (s : Nat))]) (fun (j, (s : Nat)) w' => Ext w1 w' ∧ j ≤ (arr p k).length ∧ s < 65536 ∧ ((arr p k).take j).foldl (fun o j => codS o (cod p r j)) (some 0) = some s) (fun x => (arr p k).length - x.1) (0, 0) Kg ?_ ?_
   · exact ⟨Ext.refl _, Nat.zero_le _, Ka, Ki⟩
   rintro ⟨j, s⟩ ρj w2 ⟨E2, hj, hs, hf⟩
   by_cases hjl : j < (arr p k).length
   · have hmm := List.getElem_mem hjl
     have hga := Uo hjl
     have hts := Xc _ _ hjl
     obtain ⟨x, hx⟩ : ∃ x, x = (arr p k)[j] := ⟨_, rfl⟩
     rw [← hx] at hmm hga hts
     have hxl := ((Qi hp hk).1 hmm).1
     have hrl := rf_lt hp hk hc hmm
     have hcb := Tk hp hk hc hmm
     have k2 : ∀ y, cod p r x = y → ∀ (w : World) (pv : Value), ESl Ints w pv p → Does Tryz.prog 188 [pv, .int .i64 ((ints (arr p k))[j]'Ka)] w (Ret w (.tuple #[.int .i64 ((codP y).1 : Int), .bool (codP y).2])) := fun y e => by
       subst e
       rw [hga]; exact fun w pv h => ih w pv x h hxl hcb Ka
     have hstep : ((arr p k).take (j + 1)).foldl (fun o j => codS o (cod p r j)) (some 0) = codS (some s) (cod p r x) := by rw [hts, List.foldl_append, hf]; rfl
     have hdead : codS (some s) (cod p r x) = none → cod p (r + 1) k = none := fun e => by
       show (arr p k).foldl (fun o j => codS o (cod p r j)) (some 0) = none
       rw [← List.take_append_drop (j + 1) (arr p k), List.foldl_append, hstep, e, cod_none]
     cases hy : cod p r x with
     | none =>
       have k3 : ∀ (w : World) (pv : Value), ESl Ints w pv p → Does Tryz.prog 188 [pv, .int .i64 ((ints (arr p k))[j]'Ka)] w (Ret w (.tuple #[.int .i64 0, .bool false])) := k2 none hy
       have hn := hdead (by rw [hy]; rfl)
       simp only [hn, codP]
       clear k2
       focus
         refine Zu<|Yc Z<|Zs<|Zw<|Zx Z (fun h1 => ?_) (fun h1 => ?_); refine Zz<|Zw<|Ve<|Zu<|Yy Ko Kl Kn Z (fun _ => Z) Z (Owned.read hO1) E2 Z Kf ?_; rintro _ _ rfl; refine Yb Z<|Zs<|Zu<|Vm v Z<|Vc Z<|Zv Z (Yd (a := v) (b := .int _ _) Tryz.call188 Z Z) (k3 _ _ ((Mono.mono exq h))) ?_; rintro _ w3 ⟨rfl, E3⟩; refine Xx Z<|WsxI Z<|Uf Z<|Yb Z<|Vd Z<|Zs<|Zw<|Zu<|Yt Z<|Xd Z<|Xi Z (Yh (v := .bool _) Z) (fun h2 => ?_) (fun h2 => ?_); refine Zt Z<|Zt Z<|Xb Z<|Zs<|Yi Z ?_; refine Zu<|Yb Z<|Vd Z<|Zs<|Vb ?_; exact ⟨rfl, exq⟩; contradiction; (exfalso; omega)
     | some m =>
       have k3 : ∀ (w : World) (pv : Value), ESl Ints w pv p → Does Tryz.prog 188 [pv, .int .i64 ((ints (arr p k))[j]'Ka)] w (Ret w (.tuple #[.int .i64 (m : Int), .bool true])) := k2 (some m) hy
       have hm6 := cod_lt hy
       clear k2
       by_cases hm15 : m ≤ 15
       · rw [hy, show codS (some s) (some m) = some (s ||| 1 <<< m) from if_pos hm15] at hstep
         have hsh : (1 : Int).toNat <<< ((m : Nat) : Int).toNat ≤ 32768 := by
           show 1 <<< m ≤ 32768
           rw [Nat.one_shiftLeft]; exact Nat.pow_le_pow_right (show 2 > 0 by omega) hm15
         have hns : s ||| 1 <<< m < 65536 := Nat.or_lt_two_pow (n := 16) hs (by have : 1 <<< m ≤ 32768 := hsh; omega)
         focus
           refine Zu<|Yc Z<|Zs<|Zw<|Zx Z (fun h1 => ?_) (fun h1 => ?_); refine Zz<|Zw<|Ve<|Zu<|Yy Ko Kl Kn Z (fun _ => Z) Z (Owned.read hO1) E2 Z Kf ?_; rintro _ _ rfl; refine Yb Z<|Zs<|Zu<|Vm v Z<|Vc Z<|Zv Z (Yd (a := v) (b := .int _ _) Tryz.call188 Z Z) (k3 _ _ ((Mono.mono exq h))) ?_; rintro _ w3 ⟨rfl, E3⟩; refine Xx Z<|WsxI Z<|Uf Z<|Yb Z<|Vd Z<|Zs<|Zw<|Zu<|Yt Z<|Xd Z<|Xi Z (Yh (v := .bool _) Z) (fun h2 => ?_) (fun h2 => ?_); contradiction; refine Vc Z<|Ut Z<|Ye Z<|Zs<|Zy Z fun h3 => ?_; refine Zz<|Vq<|Vc Z<|Vc Z<|Wo Z (opv_shl Z Z Ka) ?_; rotate_left; (exfalso; omega)
         refine Wo Z (opv_or Z Z ⟨Int.natCast_nonneg _, Ka, Int.natCast_nonneg _, Int.le_trans (Int.ofNat_le.2 (show _ ≤ 32768 by assumption)) Kc⟩) ?_
         focus
           refine Yb Z<|Zs<|Vq<|Yk Z<|Vc Z<|Zs ?_
         refine ⟨((j + 1, s ||| 1 <<< m)), Kg, Kh, ?_, ?_⟩
         · exact ⟨E2.trans E3, Ka, hns, hstep⟩
         · simp only; omega
       · have hn := hdead (by rw [hy]; exact if_neg hm15)
         simp only [hn, codP]
         focus
           refine Zu<|Yc Z<|Zs<|Zw<|Zx Z (fun h1 => ?_) (fun h1 => ?_); refine Zz<|Zw<|Ve<|Zu<|Yy Ko Kl Kn Z (fun _ => Z) Z (Owned.read hO1) E2 Z Kf ?_; rintro _ _ rfl; refine Yb Z<|Zs<|Zu<|Vm v Z<|Vc Z<|Zv Z (Yd (a := v) (b := .int _ _) Tryz.call188 Z Z) (k3 _ _ ((Mono.mono exq h))) ?_; rintro _ w3 ⟨rfl, E3⟩; refine Xx Z<|WsxI Z<|Uf Z<|Yb Z<|Vd Z<|Zs<|Zw<|Zu<|Yt Z<|Xd Z<|Xi Z (Yh (v := .bool _) Z) (fun h2 => ?_) (fun h2 => ?_); contradiction; refine Vc Z<|Ut Z<|Ye Z<|Zs<|Zx Z (fun h3 => ?_) (fun h3 => ?_); refine Zw<|Vq<|Yb Z<|Vd Z<|Zs<|Vb ?_; exact ⟨rfl, exq⟩; (exfalso; omega)
           (exfalso; omega)
   · obtain rfl : j = (arr p k).length := by omega
     rw [List.take_length] at hf
     have hfin : cod p (r + 1) k = some s := hf
     simp only [hfin, codP]
     focus
       refine Zu<|Yc Z<|Zs<|Zw<|Zy Z fun h1 => ?_; refine Yp ?_; refine Vp ?_; refine Zu<|Vc Z<|Yb Z<|Vd Z<|Zs<|Vb ?_; exact ⟨rfl, exq⟩
noncomputable def codeV (p:List (List Int)) (z:Int):Int × Bool:=if Nod p z∧cback p z.toNat=false then (match cod p p.length z.toNat with | some c=>((c:Int),true) | none=>(-1,false)) else (-1,false)
theorem CodeAt_ok (w:World) (v:Value) (p:List (List Int)) (h:ESl Ints w v p) (z:Int) (hz:Nod p z) (hc:cback p z.toNat=false):Does Tryz.prog 155 [v,.int .i64 z] w (Ret w (.tuple #[.int .i64 (codeV p z).1,.bool (codeV p z).2])):=by
 have hp:=hz.1
 have hz':=hz.2
 have k1 : ∀ (w:World) (pv:Value),ESl Ints w pv p→Does Tryz.prog 94 [pv,.int .i64 z] w (Ret w (.bool true)):=fun w pv h=>by
  have:=Ro w pv p h z
  rw [decide_eq_true hz] at this;exact this
 have k2 : ∀ (w:World) (pv:Value),ESl Ints w pv p→Does Tryz.prog 187 [pv,.int .i64 z] w (Ret w (.bool false)):=fun w pv h=>by
  have:=Nf w pv p h hp z.toNat Ka
  rw [hc,Int.toNat_of_nonneg hz'.1] at this;exact this
 have k3 : ∀ y,cod p p.length z.toNat=y→∀ (w:World) (pv:Value),ESl Ints w pv p→Does Tryz.prog 188 [pv,.int .i64 z] w (Ret w (.tuple #[.int .i64 ((codP y).1:Int),.bool (codP y).2])):=fun y e w pv h=>by
  subst e
  have:=codeAt_ok p hp p.length w pv z.toNat h Ka hc Mr
  rw [Int.toNat_of_nonneg hz'.1] at this;exact this
 have hV:codeV p z=match cod p p.length z.toNat with | some c=>((c:Int),true) | none=>(-1,false):=if_pos ⟨hz,hc⟩
 rw [hV]
 cases hy:cod p p.length z.toNat with
 | none =>
   have k4 : ∀ (w : World) (pv : Value), ESl Ints w pv p → Does Tryz.prog 188 [pv, .int .i64 z] w (Ret w (.tuple #[.int .i64 0, .bool false])) := k3 none hy
   clear k3
   refine Ue Tryz.func155 Z Tryz.results155 Tryz.ntmps155 Z ?_
   focus
     refine Zu<|Yb Z<|Vd Z<|Zs<|Zw<|Zu<|Vm v Z<|Vc Z<|Zv Z (Yd (a := v) (b := .int _ _) Gg Z Z) (k1 _ _ (h)) ?_; rintro _ w1 ⟨rfl, E1⟩; refine Xd Z<|Xi Z (Yh (v := .bool _) Z) (fun h1 => ?_) (fun h1 => ?_); contradiction; refine Vm v Z<|Vc Z<|Zv Z (Yd (a := v) (b := .int _ _) Zn Z Z) (k2 _ _ ((Mono.mono E1 h))) ?_; rintro _ w2 ⟨rfl, E2⟩; refine Ye Z<|Zs<|Va Z ?_; refine Zz<|Zu<|Vm v Z<|Vc Z<|Zv Z (Yd (a := v) (b := .int _ _) Tryz.call188 Z Z) (k4 _ _ ((Mono.mono exq h))) ?_; rintro _ w3 ⟨rfl, E3⟩; refine Xx Z<|WsxI Z<|Uf Z<|Yb Z<|Vd Z<|Zs<|Zw<|Zu<|Yt Z<|Xd Z<|Zs<|Xr Z (fun h2 => ?_) (fun h2 => ?_)
     refine Zw<|Vq<|Yb Z<|Vd Z<|Zs<|Vb ?_; exact ⟨rfl, exq⟩; contradiction
 | some c =>
   have k4 : ∀ (w : World) (pv : Value), ESl Ints w pv p → Does Tryz.prog 188 [pv, .int .i64 z] w (Ret w (.tuple #[.int .i64 (c : Int), .bool true])) := k3 (some c) hy
   clear k3
   refine Ue Tryz.func155 Z Tryz.results155 Tryz.ntmps155 Z ?_
   focus
     refine Zu<|Yb Z<|Vd Z<|Zs<|Zw<|Zu<|Vm v Z<|Vc Z<|Zv Z (Yd (a := v) (b := .int _ _) Gg Z Z) (k1 _ _ (h)) ?_; rintro _ w1 ⟨rfl, E1⟩; refine Xd Z<|Xi Z (Yh (v := .bool _) Z) (fun h1 => ?_) (fun h1 => ?_); contradiction; refine Vm v Z<|Vc Z<|Zv Z (Yd (a := v) (b := .int _ _) Zn Z Z) (k2 _ _ ((Mono.mono E1 h))) ?_; rintro _ w2 ⟨rfl, E2⟩; refine Ye Z<|Zs<|Va Z ?_; refine Zz<|Zu<|Vm v Z<|Vc Z<|Zv Z (Yd (a := v) (b := .int _ _) Tryz.call188 Z Z) (k4 _ _ ((Mono.mono exq h))) ?_; rintro _ w3 ⟨rfl, E3⟩; refine Xx Z<|WsxI Z<|Uf Z<|Yb Z<|Vd Z<|Zs<|Zw<|Zu<|Yt Z<|Xd Z<|Zs<|Xn Z fun h2 => ?_
     refine Zz<|Zu<|Vc Z<|Yb Z<|Vd Z<|Zs<|Vb ?_; exact ⟨rfl, exq⟩
def EFm (w:World) (v:Value):Fm→Prop
 | .t=>∃ b,v=.pointer (some ⟨b,0,none⟩)∧Blk w b [.int .u8 116,str (Fm.enc .t),.slice none 0 0]
 | .neg f=>∃ b bp u,v=.pointer (some ⟨b,0,none⟩)∧Blk w b [.int .u8 33,str (Fm.enc (.neg f)),.slice (some ⟨bp,0,none⟩) 1 1]∧Blk w bp [u]∧EFm w u f
 | .S f=>∃ b bp u,v=.pointer (some ⟨b,0,none⟩)∧Blk w b [.int .u8 83,str (Fm.enc (.S f)),.slice (some ⟨bp,0,none⟩) 1 1]∧Blk w bp [u]∧EFm w u f
 | .A f=>∃ b bp u,v=.pointer (some ⟨b,0,none⟩)∧Blk w b [.int .u8 65,str (Fm.enc (.A f)),.slice (some ⟨bp,0,none⟩) 1 1]∧Blk w bp [u]∧EFm w u f
 | .and f g=>∃ b bp u u',v=.pointer (some ⟨b,0,none⟩)∧Blk w b [.int .u8 38,str (Fm.enc (.and f g)),.slice (some ⟨bp,0,none⟩) 2 2]∧Blk w bp [u,u']∧EFm w u f∧EFm w u' g
 | .or f g=>∃ b bp u u',v=.pointer (some ⟨b,0,none⟩)∧Blk w b [.int .u8 124,str (Fm.enc (.or f g)),.slice (some ⟨bp,0,none⟩) 2 2]∧Blk w bp [u,u']∧EFm w u f∧EFm w u' g
theorem EFm.ptr {w:World} {v:Value} {f:Fm} (h:EFm w v f) : ∃ a,v=.pointer (some a):=by
 cases f
 ·obtain ⟨b,rfl,_⟩:=h;exact ⟨_,rfl⟩
 all_goals (first | (obtain ⟨b,_,_,rfl,_⟩:=h;exact ⟨_,rfl⟩) | (obtain ⟨b,_,_,_,rfl,_⟩:=h;exact ⟨_,rfl⟩))
instance mono_EFm:Mono EFm:=⟨by
 intro w w' v f he
 induction f generalizing v with
 | t=>rintro ⟨b,rfl,h⟩;exact ⟨b,rfl,h.ext he⟩
 | neg f ih=>rintro ⟨b,bp,u,rfl,h1,h2,h3⟩;exact ⟨b,bp,u,rfl,h1.ext he,h2.ext he,ih h3⟩
 | S f ih=>rintro ⟨b,bp,u,rfl,h1,h2,h3⟩;exact ⟨b,bp,u,rfl,h1.ext he,h2.ext he,ih h3⟩
 | A f ih=>rintro ⟨b,bp,u,rfl,h1,h2,h3⟩;exact ⟨b,bp,u,rfl,h1.ext he,h2.ext he,ih h3⟩
 | and f g ih1 ih2=>rintro ⟨b,bp,u,u',rfl,h1,h2,h3,h4⟩;exact ⟨b,bp,u,u',rfl,h1.ext he,h2.ext he,ih1 h3,ih2 h4⟩
 | or f g ih1 ih2=>rintro ⟨b,bp,u,u',rfl,h1,h2,h3,h4⟩;exact ⟨b,bp,u,u',rfl,h1.ext he,h2.ext he,ih1 h3,ih2 h4⟩⟩
def PartP (w:World) (s:List UInt8):Value→World→Prop:=fun v w'=>Ext w w'∧match pre s with
 | some (f,r)=>∃ u,v=.tuple #[u,str r]∧Above w.heap.size EFm w' u f
 | none=>v=.tuple #[.pointer none,str s]
theorem Tj:Flat Tryz.prog 160 [.int .u8 0,str [],.slice none 0 0]:=⟨_,Tryz.underlying160,fun _=>Kb,fun _=>Kb⟩
theorem readPart_ok : ∀ (m:Nat) (s:List UInt8) (w:World),s.length≤lim→s.length≤m→Does Tryz.prog 190 [str s] w (PartP w s):=by
 intro m
 induction m with
 | zero =>
   intro s w hl hm
   obtain rfl : s = [] := List.eq_nil_of_length_eq_zero Ka
   refine Ue Tryz.func190 Z Tryz.results190 Tryz.ntmps190 Z ?_
   focus
     refine Zu<|Us Z<|Yu Z<|Zs<|Zw<|Zu<|Vy Z<|Wo Z (Vl Z Z)<|Zs<|Zx Z (fun h1 => ?_) (fun h1 => ?_); refine Zu<|Vy Z<|Us Z<|Yu Z<|Zs<|Vb ?_; refine Vk (v := .tuple #[.pointer _, .string _]) Z ?_; rotate_left; contradiction
   exact ⟨Ext.refl _, by rw [pre_nil]⟩
 | succ m ih =>
   intro s w hl hm
   have hl' := hl
   unfold lim at hl'
   by_cases hs0 : s = []
   · subst hs0
     refine Ue Tryz.func190 Z Tryz.results190 Tryz.ntmps190 Z ?_
     focus
       refine Zu<|Us Z<|Yu Z<|Zs<|Zw<|Zu<|Vy Z<|Wo Z (Vl Z Z)<|Zs<|Zx Z (fun h1 => ?_) (fun h1 => ?_); refine Zu<|Vy Z<|Us Z<|Yu Z<|Zs<|Vb ?_; refine Vk (v := .tuple #[.pointer _, .string _]) Z ?_; rotate_left; contradiction
     exact ⟨Ext.refl _, by rw [pre_nil]⟩
   have hlen : 0 < s.length := List.length_pos_iff.2 hs0
   have es : s = s.getD 0 0 :: s.drop 1 := by have := Nj hlen; simpa using this
   have hrl : (s.drop 1).length = s.length - 1 := Ki
   generalize hc : s.getD 0 0 = c at es
   have ih1 : ∀ w, Does Tryz.prog 190 [str (s.drop 1)] w (PartP w (s.drop 1)) := fun w => ih _ w (by unfold lim; omega) Ka
   have fin : ∀ (f : Fm) (r : List UInt8), s = f.enc ++ r → s.take ((s.length : Int) - (r.length : Int)).toNat = f.enc := by
     intro f r h
     have : ((s.length : Int) - (r.length : Int)).toNat = f.enc.length := by rw [h]; simp
     rw [this, h]; simp
   by_cases c1 : c = 116
   · subst c1
     have hn : (s.getD 0 0).toNat = 116 := by rw [hc]; rfl
     have hp : pre s = some (.t, s.drop 1) := by rw [es]; simp [pre_t]
     clear es
     refine Ue Tryz.func190 Z Tryz.results190 Tryz.ntmps190 Z ?_
     focus
       refine Zu<|Us Z<|Yu Z<|Zs<|Zw<|Zu<|Vy Z<|Wo Z (Vl Z Z)<|Zs<|Vw Z fun h1 => ?_; refine Zz<|Zw<|Vq<|Vy Z<|Wo Z (Xh (l := 1) Ku Z Z Ka) ?_; refine Yu Z<|Zs<|Zu<|Vy Z<|Wo Z (Vt (k := 0) Ku Z Z Ka) ?_; refine Wo Z (Vx (ps := [(0, .int _ _)]) (cs := [_, _, _]) Tj Z Z)<|Yx Z Z Z ?_; rintro b1 w1 hb1 E1 hB1; refine Us Z<|Zs<|Zw<|Zu<|Vy Z<|Wo Z (Vt (k := 0) Ku Z Z Ka) ?_; refine Zs<|Ve<|Zu<|Vr Z<|Vd Z<|Zs<|Zx Z (fun h2 => ?_) (fun h2 => ?_)
       refine Zz<|Zu<|Ua Z<|Vy Z<|Vy Z<|Wo Z (Yr Ku Z)<|Vy Z<|Wo Z (Yr Ku Z)<|Rh Z<|Wo Z (Qw Ku Z Z Ka) ?_; refine Wo Z (Xf Z)<|Vo Jk Kr Z<|Xp (v := .string _) Z Kr Z Z Z hB1 Ki Ka E1 ?_; rintro w2 E2 hB1 K1 hz1; simp only [List.set] at hB1; refine Zs<|Zu<|Ua Z<|Vy Z<|Us Z<|Yu Z<|Zs<|Vb ?_; refine Vk (v := .tuple #[.pointer _, .string _]) Z ?_; rotate_left; (exfalso; omega)
     refine ⟨E2, ?_⟩
     rw [hp]
     refine ⟨_, Z, fun w3 k hs => ⟨b1, Z, (hB1.keep k hb1).cast ?_⟩⟩
     rw [fin _ _ (Qv hp), hn]; rfl
   by_cases c2 : c = 33 ∨ c = 83 ∨ c = 65
   · have hn : (s.getD 0 0).toNat = 33 ∨ (s.getD 0 0).toNat = 83 ∨ (s.getD 0 0).toNat = 65 := by rw [hc]; rcases c2 with rfl | rfl | rfl <;> simp
     cases hp : pre (s.drop 1) with
     | none =>
       have ih2 : ∀ w, Does Tryz.prog 190 [str (s.drop 1)] w (Ret w (.tuple #[.pointer none, str (s.drop 1)])) := fun w =>
         (ih1 w).mono fun v w' ⟨e, h⟩ => ⟨by rw [hp] at h; exact h, e⟩
       have hp' : pre s = none := by rw [es]; exact pre_un_none hp c2
       clear es ih1
       refine Ue Tryz.func190 Z Tryz.results190 Tryz.ntmps190 Z ?_
       focus
         refine Zu<|Us Z<|Yu Z<|Zs<|Zw<|Zu<|Vy Z<|Wo Z (Vl Z Z)<|Zs<|Vw Z fun h1 => ?_; refine Zz<|Zw<|Vq<|Vy Z<|Wo Z (Xh (l := 1) Ku Z Z Ka) ?_; refine Yu Z<|Zs<|Zu<|Vy Z<|Wo Z (Vt (k := 0) Ku Z Z Ka) ?_; refine Wo Z (Vx (ps := [(0, .int _ _)]) (cs := [_, _, _]) Tj Z Z)<|Yx Z Z Z ?_; rintro b1 w1 hb1 E1 hB1; refine Us Z<|Zs<|Zw<|Zu<|Vy Z<|Wo Z (Vt (k := 0) Ku Z Z Ka) ?_; refine Zs<|Ve<|Zu<|Vr Z<|Vd Z<|Zs<|Zy Z fun h2 => ?_; refine Zw<|Zu<|Vr Z<|Vd Z<|Zs<|Zx Z (fun h3 => ?_) (fun h3 => ?_)
         refine Zz<|Zx Z (fun h4 => ?_) (fun h4 => ?_); refine Zu<|Vy Z<|Zv Z (Yl (a := .string _) Jn Z) (ih2 _) ?_; rintro _ w2 ⟨rfl, E2⟩; refine Xx Z<|Nd Z<|Ru Z<|Us Z<|Yu Z<|Zs<|Zw<|Zu<|Ua Z<|Wo Z (Sz Jm Z Z)<|Zs<|Yi Z ?_; refine Zu<|Vy Z<|Us Z<|Yu Z<|Zs<|Vb ?_; refine Vk (v := .tuple #[.pointer _, .string _]) Z ?_; rotate_left; contradiction; refine Zu<|Vr Z<|Vd Z<|Zs<|Zx Z (fun h4 => ?_) (fun h4 => ?_); refine Zz<|Zx Z (fun h5 => ?_) (fun h5 => ?_); refine Zu<|Vy Z<|Zv Z (Yl (a := .string _) Jn Z) (ih2 _) ?_; rintro _ w2 ⟨rfl, E2⟩
         refine Xx Z<|Nd Z<|Ru Z<|Us Z<|Yu Z<|Zs<|Zw<|Zw<|Vq<|Ua Z<|Wo Z (Sz Jm Z Z)<|Zs<|Yi Z ?_; refine Zu<|Vy Z<|Us Z<|Yu Z<|Zs<|Vb ?_; refine Vk (v := .tuple #[.pointer _, .string _]) Z ?_; rotate_left; contradiction; refine Vq<|Vr Z<|Vd Z<|Zs<|Zx Z (fun h5 => ?_) (fun h5 => ?_); refine Zu<|Vy Z<|Zv Z (Yl (a := .string _) Jn Z) (ih2 _) ?_; rintro _ w2 ⟨rfl, E2⟩; refine Xx Z<|Nd Z<|Ru Z<|Us Z<|Yu Z<|Zs<|Zw<|Zu<|Ua Z<|Wo Z (Sz Jm Z Z)<|Zs<|Yi Z ?_; refine Zu<|Vy Z<|Us Z<|Yu Z<|Zs<|Vb ?_; refine Vk (v := .tuple #[.pointer _, .string _]) Z ?_; rotate_left
         (exfalso; omega)
       all_goals exact ⟨E1.trans E2, by rw [hp']⟩
     | some q =>
       obtain ⟨f, r1⟩ := q
       have ih2 : ∀ w, Does Tryz.prog 190 [str (s.drop 1)] w (RetX w (fun ad => .tuple #[.pointer (some ad), str r1]) fun ad w' => Above w.heap.size EFm w' (.pointer (some ad)) f) := fun w =>
         (ih1 w).mono fun v w' ⟨e, h⟩ => by
           rw [hp] at h
           obtain ⟨u, hv, hu⟩ := h
           obtain ⟨ad, rfl⟩ := hu.here.ptr
           exact ⟨e, ad, hv, hu⟩
       have hl1 : r1.length ≤ s.length - 1 := by have := congrArg List.length (Qv hp); simp at this; omega
       clear ih1
       have hd : ∃ g : Fm, pre s = some (g, r1) ∧ ∀ (w : World) (b bp : Nat) (u : Value), Blk w b [.int .u8 ((s.getD 0 0).toNat : Int), str g.enc, .slice (some ⟨bp, 0, none⟩) 1 1] → Blk w bp [u] → EFm w u f → EFm w (.pointer (some ⟨b, 0, none⟩)) g := by
         rw [hc]
         rcases c2 with rfl | rfl | rfl
         · exact ⟨.neg f, by rw [es]; exact pre_neg hp, fun w b bp u h1 h2 h3 => ⟨b, bp, u, rfl, h1, h2, h3⟩⟩
         · exact ⟨.S f, by rw [es]; exact pre_S hp, fun w b bp u h1 h2 h3 => ⟨b, bp, u, rfl, h1, h2, h3⟩⟩
         · exact ⟨.A f, by rw [es]; exact pre_A hp, fun w b bp u h1 h2 h3 => ⟨b, bp, u, rfl, h1, h2, h3⟩⟩
       obtain ⟨g, hp', hg⟩ := hd
       clear es
       refine Ue Tryz.func190 Z Tryz.results190 Tryz.ntmps190 Z ?_
       focus
         refine Zu<|Us Z<|Yu Z<|Zs<|Zw<|Zu<|Vy Z<|Wo Z (Vl Z Z)<|Zs<|Vw Z fun h1 => ?_; refine Zz<|Zw<|Vq<|Vy Z<|Wo Z (Xh (l := 1) Ku Z Z Ka) ?_; refine Yu Z<|Zs<|Zu<|Vy Z<|Wo Z (Vt (k := 0) Ku Z Z Ka) ?_; refine Wo Z (Vx (ps := [(0, .int _ _)]) (cs := [_, _, _]) Tj Z Z)<|Yx Z Z Z ?_; rintro b1 w1 hb1 E1 hB1; have hlb1 := hB1.lt; have hs1 := E1.size; refine Us Z<|Zs<|Zw<|Zu<|Vy Z<|Wo Z (Vt (k := 0) Ku Z Z Ka) ?_; refine Zs<|Ve<|Zu<|Vr Z<|Vd Z<|Zs<|Zy Z fun h2 => ?_
         refine Zw<|Zu<|Vr Z<|Vd Z<|Zs<|Zx Z (fun h3 => ?_) (fun h3 => ?_); refine Zz<|Zx Z (fun h4 => ?_) (fun h4 => ?_); refine Zu<|Vy Z<|Zv Z (Yl (a := .string _) Jn Z) (ih2 _) ?_; rintro _ w2 ⟨E2, y1, rfl, hy1⟩; have hs2 := E2.size; refine Xx Z<|Nd Z<|Ru Z<|Us Z<|Yu Z<|Zs<|Zw<|Zu<|Ua Z<|Wo Z (Uu Jm Z Z)<|Zs<|Va Z ?_; refine Zz<|Zu<|Ua Z<|Ua Z<|Yf (ps := [(0, .pointer _)]) (cs := [_]) Z Gn Gp Zr Z Z Z Z ?_; rintro b2 w3 hb2 E3 hB2; refine Wo Z (Xf Z)<|Vo Jk Gc Z<|Xp (v := .slice _ _ _) Z Gc Z Z Z (hB1.ext exq) Ki Ka exq ?_
         rintro w4 E4 hB1 K1 hz1; simp only [List.set] at hB1; have hy1 := (hy1.ext E3).keep (fun k h1 h2 => K1 k Ka) Ka; have hB2 := hB2.of_heap (K1 _ Ka); refine Zs<|Vq<|Vy Z<|Yu Z<|Zs<|Zu<|Ua Z<|Vy Z<|Vy Z<|Wo Z (Yr Ku Z)<|Vy Z<|Wo Z (Yr Ku Z)<|Rh Z<|Wo Z (Qw Ku Z Z Ka) ?_; refine Wo Z (Xf Z)<|Vo Jk Kr Z<|Xp (v := .string _) Z Kr Z Z Z hB1 Ki Ka E4 ?_; rintro w5 E5 hB1 K2 hz2; simp only [List.set] at hB1; have hy1 := hy1.keep (fun k h1 h2 => K2 k Ka) Ka; have hB2 := hB2.of_heap (K2 _ Ka); refine Zs<|Zu<|Ua Z<|Vy Z<|Us Z<|Yu Z<|Zs<|Vb ?_
         refine Vk (v := .tuple #[.pointer _, .string _]) Z ?_; rotate_left; contradiction; refine Zu<|Vr Z<|Vd Z<|Zs<|Zx Z (fun h4 => ?_) (fun h4 => ?_); refine Zz<|Zx Z (fun h5 => ?_) (fun h5 => ?_); refine Zu<|Vy Z<|Zv Z (Yl (a := .string _) Jn Z) (ih2 _) ?_; rintro _ w2 ⟨E2, y1, rfl, hy1⟩; have hs2 := E2.size; refine Xx Z<|Nd Z<|Ru Z<|Us Z<|Yu Z<|Zs<|Zw<|Zw<|Vq<|Ua Z<|Wo Z (Uu Jm Z Z)<|Zs<|Va Z ?_; refine Zz<|Zw<|Vq<|Ua Z<|Ua Z<|Yf (ps := [(0, .pointer _)]) (cs := [_]) Z Gn Gp Zr Z Z Z Z ?_; rintro b2 w3 hb2 E3 hB2
         refine Wo Z (Xf Z)<|Vo Jk Gc Z<|Xp (v := .slice _ _ _) Z Gc Z Z Z (hB1.ext exq) Ki Ka exq ?_; rintro w4 E4 hB1 K1 hz1; simp only [List.set] at hB1; have hy1 := (hy1.ext E3).keep (fun k h1 h2 => K1 k Ka) Ka; have hB2 := hB2.of_heap (K1 _ Ka); refine Zs<|Vq<|Vy Z<|Yu Z<|Zs<|Zu<|Ua Z<|Vy Z<|Vy Z<|Wo Z (Yr Ku Z)<|Vy Z<|Wo Z (Yr Ku Z)<|Rh Z<|Wo Z (Qw Ku Z Z Ka) ?_; refine Wo Z (Xf Z)<|Vo Jk Kr Z<|Xp (v := .string _) Z Kr Z Z Z hB1 Ki Ka E4 ?_; rintro w5 E5 hB1 K2 hz2; simp only [List.set] at hB1
         have hy1 := hy1.keep (fun k h1 h2 => K2 k Ka) Ka; have hB2 := hB2.of_heap (K2 _ Ka); refine Zs<|Zu<|Ua Z<|Vy Z<|Us Z<|Yu Z<|Zs<|Vb ?_; refine Vk (v := .tuple #[.pointer _, .string _]) Z ?_; rotate_left; contradiction; refine Vq<|Vr Z<|Vd Z<|Zs<|Zx Z (fun h5 => ?_) (fun h5 => ?_); refine Zu<|Vy Z<|Zv Z (Yl (a := .string _) Jn Z) (ih2 _) ?_; rintro _ w2 ⟨E2, y1, rfl, hy1⟩; have hs2 := E2.size; refine Xx Z<|Nd Z<|Ru Z<|Us Z<|Yu Z<|Zs<|Zw<|Zu<|Ua Z<|Wo Z (Uu Jm Z Z)<|Zs<|Va Z ?_; refine Zz<|Zu<|Ua Z<|Ua Z<|Yf (ps := [(0, .pointer _)]) (cs := [_]) Z Gn Gp Zr Z Z Z Z ?_
         rintro b2 w3 hb2 E3 hB2; refine Wo Z (Xf Z)<|Vo Jk Gc Z<|Xp (v := .slice _ _ _) Z Gc Z Z Z (hB1.ext exq) Ki Ka exq ?_; rintro w4 E4 hB1 K1 hz1; simp only [List.set] at hB1; have hy1 := (hy1.ext E3).keep (fun k h1 h2 => K1 k Ka) Ka; have hB2 := hB2.of_heap (K1 _ Ka); refine Zs<|Vq<|Vy Z<|Yu Z<|Zs<|Zu<|Ua Z<|Vy Z<|Vy Z<|Wo Z (Yr Ku Z)<|Vy Z<|Wo Z (Yr Ku Z)<|Rh Z<|Wo Z (Qw Ku Z Z Ka) ?_; refine Wo Z (Xf Z)<|Vo Jk Kr Z<|Xp (v := .string _) Z Kr Z Z Z hB1 Ki Ka E4 ?_; rintro w5 E5 hB1 K2 hz2; simp only [List.set] at hB1
         have hy1 := hy1.keep (fun k h1 h2 => K2 k Ka) Ka; have hB2 := hB2.of_heap (K2 _ Ka); refine Zs<|Zu<|Ua Z<|Vy Z<|Us Z<|Yu Z<|Zs<|Vb ?_; refine Vk (v := .tuple #[.pointer _, .string _]) Z ?_; rotate_left; (exfalso; omega)
       all_goals
         refine ⟨Kd, ?_⟩
         rw [hp']
         refine ⟨_, Z, fun w6 k hs => hg w6 b1 b2 _ ((hB1.keep k hb1).cast ?_) (hB2.keep k Ka) (hy1 w6 (k.mono Ka) Ka)⟩
         rw [fin _ _ (Qv hp')]
   by_cases c3 : c = 40
   · subst c3
     have hn : (s.getD 0 0).toNat = 40 := by rw [hc]; rfl
     cases hp : pre (s.drop 1) with
     | none =>
       have ih2 : ∀ w, Does Tryz.prog 190 [str (s.drop 1)] w (Ret w (.tuple #[.pointer none, str (s.drop 1)])) := fun w =>
         (ih1 w).mono fun v w' ⟨e, h⟩ => ⟨by rw [hp] at h; exact h, e⟩
       have hp' : pre s = none := by rw [es]; exact pre_br1 hp
       clear es ih1
       refine Ue Tryz.func190 Z Tryz.results190 Tryz.ntmps190 Z ?_
       focus
         refine Zu<|Us Z<|Yu Z<|Zs<|Zw<|Zu<|Vy Z<|Wo Z (Vl Z Z)<|Zs<|Vw Z fun h1 => ?_; refine Zz<|Zw<|Vq<|Vy Z<|Wo Z (Xh (l := 1) Ku Z Z Ka) ?_; refine Yu Z<|Zs<|Zu<|Vy Z<|Wo Z (Vt (k := 0) Ku Z Z Ka) ?_; refine Wo Z (Vx (ps := [(0, .int _ _)]) (cs := [_, _, _]) Tj Z Z)<|Yx Z Z Z ?_; rintro b1 w1 hb1 E1 hB1; refine Us Z<|Zs<|Zw<|Zu<|Vy Z<|Wo Z (Vt (k := 0) Ku Z Z Ka) ?_; refine Zs<|Ve<|Zu<|Vr Z<|Vd Z<|Zs<|Zy Z fun h2 => ?_; refine Zw<|Zu<|Vr Z<|Vd Z<|Zs<|Zy Z fun h3 => ?_
         refine Zu<|Vr Z<|Vd Z<|Zs<|Zy Z fun h4 => ?_; refine Vq<|Vr Z<|Vd Z<|Zs<|Zy Z fun h5 => ?_; refine Zu<|Vr Z<|Vd Z<|Zs<|Zx Z (fun h6 => ?_) (fun h6 => ?_); refine Zu<|Vy Z<|Zv Z (Yl (a := .string _) Jn Z) (ih2 _) ?_; rintro _ w2 ⟨rfl, E2⟩; refine Xx Z<|Nd Z<|Ru Z<|Us Z<|Yu Z<|Zs<|Zw<|Zw<|Vq<|Ua Z<|Wo Z (Sz Jm Z Z)<|Yt Z<|Zt Z<|Zt Z<|Xb Z<|Yt Z<|Zt Z<|Zt Z<|Zt Z<|Zt Z<|Zt Z<|Zt Z<|Zt Z<|Zt Z<|Xb Z<|Zs<|Yi Z ?_; refine Zu<|Vy Z<|Us Z<|Yu Z<|Zs<|Vb ?_; refine Vk (v := .tuple #[.pointer _, .string _]) Z ?_
         rotate_left; (exfalso; omega)
       all_goals exact ⟨E1.trans E2, by rw [hp']⟩
     | some q =>
       obtain ⟨f, r1⟩ := q
       have ih2 : ∀ w, Does Tryz.prog 190 [str (s.drop 1)] w (RetX w (fun ad => .tuple #[.pointer (some ad), str r1]) fun ad w' => Above w.heap.size EFm w' (.pointer (some ad)) f) := fun w =>
         (ih1 w).mono fun v w' ⟨e, h⟩ => by
           rw [hp] at h
           obtain ⟨u, hv, hu⟩ := h
           obtain ⟨ad, rfl⟩ := hu.here.ptr
           exact ⟨e, ad, hv, hu⟩
       have hl1 : r1.length + f.enc.length = s.length - 1 := by have := congrArg List.length (Qv hp); simp at this; omega
       clear ih1
       by_cases r0 : r1 = []
       · have hp' : pre s = none := by rw [es]; exact pre_br2 hp (by rintro c r2 rfl; cases r0)
         subst r0
         clear es
         refine Ue Tryz.func190 Z Tryz.results190 Tryz.ntmps190 Z ?_
         focus
           refine Zu<|Us Z<|Yu Z<|Zs<|Zw<|Zu<|Vy Z<|Wo Z (Vl Z Z)<|Zs<|Vw Z fun h1 => ?_; refine Zz<|Zw<|Vq<|Vy Z<|Wo Z (Xh (l := 1) Ku Z Z Ka) ?_; refine Yu Z<|Zs<|Zu<|Vy Z<|Wo Z (Vt (k := 0) Ku Z Z Ka) ?_; refine Wo Z (Vx (ps := [(0, .int _ _)]) (cs := [_, _, _]) Tj Z Z)<|Yx Z Z Z ?_; rintro b1 w1 hb1 E1 hB1; refine Us Z<|Zs<|Zw<|Zu<|Vy Z<|Wo Z (Vt (k := 0) Ku Z Z Ka) ?_; refine Zs<|Ve<|Zu<|Vr Z<|Vd Z<|Zs<|Zy Z fun h2 => ?_; refine Zw<|Zu<|Vr Z<|Vd Z<|Zs<|Zy Z fun h3 => ?_
           refine Zu<|Vr Z<|Vd Z<|Zs<|Zy Z fun h4 => ?_; refine Vq<|Vr Z<|Vd Z<|Zs<|Zy Z fun h5 => ?_; refine Zu<|Vr Z<|Vd Z<|Zs<|Zx Z (fun h6 => ?_) (fun h6 => ?_); refine Zu<|Vy Z<|Zv Z (Yl (a := .string _) Jn Z) (ih2 _) ?_; rintro _ w2 ⟨E2, y1, rfl, hy1⟩; refine Xx Z<|Nd Z<|Ru Z<|Us Z<|Yu Z<|Zs<|Zw<|Zw<|Vq<|Ua Z<|Wo Z (Uu Jm Z Z)<|Yt Z<|Vy Z<|Wo Z (Vl Z Z)<|Ye Z<|Ym Z (fun h7 => ?_) (fun h7 => ?_); refine Zt Z<|Zt Z<|Zt Z<|Zt Z<|Zt Z<|Zt Z<|Zt Z<|Zt Z<|Xb Z<|Zs<|Yi Z ?_; refine Zu<|Vy Z<|Us Z<|Yu Z<|Zs<|Vb ?_
           refine Vk (v := .tuple #[.pointer _, .string _]) Z ?_; rotate_left; contradiction; (exfalso; omega)
         all_goals exact ⟨E1.trans E2, by rw [hp']⟩
       have hr1 : 0 < r1.length := List.length_pos_iff.2 r0
       have er : r1 = r1.getD 0 0 :: r1.drop 1 := by have := Nj hr1; simpa using this
       have hr1l : (r1.drop 1).length = r1.length - 1 := Ki
       generalize hd : r1.getD 0 0 = d at er
       by_cases c4 : d = 38 ∨ d = 124
       · have hn2 : (r1.getD 0 0).toNat = 38 ∨ (r1.getD 0 0).toNat = 124 := by rw [hd]; rcases c4 with rfl | rfl <;> simp
         have ih3 : ∀ w, Does Tryz.prog 190 [str (r1.drop 1)] w (PartP w (r1.drop 1)) := fun w => ih _ w (by unfold lim; omega) Ka
         rw [er] at hp
         cases hp2 : pre (r1.drop 1) with
         | none =>
           have ih4 : ∀ w, Does Tryz.prog 190 [str (r1.drop 1)] w (Ret w (.tuple #[.pointer none, str (r1.drop 1)])) := fun w =>
             (ih3 w).mono fun v w' ⟨e, h⟩ => ⟨by rw [hp2] at h; exact h, e⟩
           have hp' : pre s = none := by rw [es]; exact pre_br3 hp hp2
           clear es er ih3
           refine Ue Tryz.func190 Z Tryz.results190 Tryz.ntmps190 Z ?_
           focus
             refine Zu<|Us Z<|Yu Z<|Zs<|Zw<|Zu<|Vy Z<|Wo Z (Vl Z Z)<|Zs<|Vw Z fun h1 => ?_; refine Zz<|Zw<|Vq<|Vy Z<|Wo Z (Xh (l := 1) Ku Z Z Ka) ?_; refine Yu Z<|Zs<|Zu<|Vy Z<|Wo Z (Vt (k := 0) Ku Z Z Ka) ?_; refine Wo Z (Vx (ps := [(0, .int _ _)]) (cs := [_, _, _]) Tj Z Z)<|Yx Z Z Z ?_; rintro b1 w1 hb1 E1 hB1; refine Us Z<|Zs<|Zw<|Zu<|Vy Z<|Wo Z (Vt (k := 0) Ku Z Z Ka) ?_; refine Zs<|Ve<|Zu<|Vr Z<|Vd Z<|Zs<|Zy Z fun h2 => ?_; refine Zw<|Zu<|Vr Z<|Vd Z<|Zs<|Zy Z fun h3 => ?_
             refine Zu<|Vr Z<|Vd Z<|Zs<|Zy Z fun h4 => ?_; refine Vq<|Vr Z<|Vd Z<|Zs<|Zy Z fun h5 => ?_; refine Zu<|Vr Z<|Vd Z<|Zs<|Zx Z (fun h6 => ?_) (fun h6 => ?_); refine Zu<|Vy Z<|Zv Z (Yl (a := .string _) Jn Z) (ih2 _) ?_; rintro _ w2 ⟨E2, y1, rfl, hy1⟩; refine Xx Z<|Nd Z<|Ru Z<|Us Z<|Yu Z<|Zs<|Zw<|Zw<|Vq<|Ua Z<|Wo Z (Uu Jm Z Z)<|Yt Z<|Vy Z<|Wo Z (Vl Z Z)<|Ye Z<|Xl Z fun h7 => ?_; refine Vy Z<|Wo Z (Vt (k := 0) Ku Z Z Ka) ?_; refine Um Z<|Qb Z (fun h8 => ?_) (fun h8 => ?_); refine Vy Z<|Wo Z (Vt (k := 0) Ku Z Z Ka) ?_
             refine Um Z<|Xb Z<|Ye Z<|Zs<|Up Z fun h9 => ?_; refine Zz<|Zu<|Vy Z<|Wo Z (Xh (l := 1) Ku Z Z Ka) ?_; refine Zv Z (Yl (a := .string _) Jn Z) (ih4 _) ?_; rintro _ w3 ⟨rfl, E3⟩; refine Xx Z<|Nd Z<|Ru Z<|Us Z<|Yu Z<|Zs<|Zw<|Zw<|Vq<|Ua Z<|Wo Z (Sz Jm Z Z)<|Yt Z<|Zt Z<|Zt Z<|Xb Z<|Yt Z<|Zt Z<|Zt Z<|Zt Z<|Xb Z<|Zs<|Yi Z ?_; refine Zu<|Vy Z<|Us Z<|Yu Z<|Zs<|Vb ?_; refine Vk (v := .tuple #[.pointer _, .string _]) Z ?_; rotate_left; refine Zt Z<|Zt Z<|Zt Z<|Ye Z<|Ye Z<|Zs<|Va Z ?_
             refine Zz<|Zu<|Vy Z<|Wo Z (Xh (l := 1) Ku Z Z Ka) ?_; refine Zv Z (Yl (a := .string _) Jn Z) (ih4 _) ?_; rintro _ w3 ⟨rfl, E3⟩; refine Xx Z<|Nd Z<|Ru Z<|Us Z<|Yu Z<|Zs<|Zw<|Zu<|Ua Z<|Wo Z (Sz Jm Z Z)<|Yt Z<|Zt Z<|Zt Z<|Xb Z<|Yt Z<|Zt Z<|Zt Z<|Zt Z<|Xb Z<|Zs<|Yi Z ?_; refine Zw<|Vq<|Vy Z<|Us Z<|Yu Z<|Zs<|Vb ?_; refine Vk (v := .tuple #[.pointer _, .string _]) Z ?_; rotate_left; (exfalso; omega)
           all_goals exact ⟨(E1.trans E2).trans E3, by rw [hp']⟩
         | some q2 =>
           obtain ⟨g, r3⟩ := q2
           have ih4 : ∀ w, Does Tryz.prog 190 [str (r1.drop 1)] w (RetX w (fun ad => .tuple #[.pointer (some ad), str r3]) fun ad w' => Above w.heap.size EFm w' (.pointer (some ad)) g) := fun w =>
             (ih3 w).mono fun v w' ⟨e, h⟩ => by
               rw [hp2] at h
               obtain ⟨u, hv, hu⟩ := h
               obtain ⟨ad, rfl⟩ := hu.here.ptr
               exact ⟨e, ad, hv, hu⟩
           have hl3 : r3.length + g.enc.length = r1.length - 1 := by have := congrArg List.length (Qv hp2); simp at this; omega
           clear ih3
           by_cases r0' : r3 = []
           · have hp' : pre s = none := by rw [es]; exact pre_br4 hp hp2 (by rintro r4 rfl; cases r0')
             subst r0'
             clear es er
             refine Ue Tryz.func190 Z Tryz.results190 Tryz.ntmps190 Z ?_
             focus
               refine Zu<|Us Z<|Yu Z<|Zs<|Zw<|Zu<|Vy Z<|Wo Z (Vl Z Z)<|Zs<|Vw Z fun h1 => ?_; refine Zz<|Zw<|Vq<|Vy Z<|Wo Z (Xh (l := 1) Ku Z Z Ka) ?_; refine Yu Z<|Zs<|Zu<|Vy Z<|Wo Z (Vt (k := 0) Ku Z Z Ka) ?_; refine Wo Z (Vx (ps := [(0, .int _ _)]) (cs := [_, _, _]) Tj Z Z)<|Yx Z Z Z ?_; rintro b1 w1 hb1 E1 hB1; refine Us Z<|Zs<|Zw<|Zu<|Vy Z<|Wo Z (Vt (k := 0) Ku Z Z Ka) ?_; refine Zs<|Ve<|Zu<|Vr Z<|Vd Z<|Zs<|Zy Z fun h2 => ?_; refine Zw<|Zu<|Vr Z<|Vd Z<|Zs<|Zy Z fun h3 => ?_
               refine Zu<|Vr Z<|Vd Z<|Zs<|Zy Z fun h4 => ?_; refine Vq<|Vr Z<|Vd Z<|Zs<|Zy Z fun h5 => ?_; refine Zu<|Vr Z<|Vd Z<|Zs<|Zx Z (fun h6 => ?_) (fun h6 => ?_); refine Zu<|Vy Z<|Zv Z (Yl (a := .string _) Jn Z) (ih2 _) ?_; rintro _ w2 ⟨E2, y1, rfl, hy1⟩; refine Xx Z<|Nd Z<|Ru Z<|Us Z<|Yu Z<|Zs<|Zw<|Zw<|Vq<|Ua Z<|Wo Z (Uu Jm Z Z)<|Yt Z<|Vy Z<|Wo Z (Vl Z Z)<|Ye Z<|Xl Z fun h7 => ?_; refine Vy Z<|Wo Z (Vt (k := 0) Ku Z Z Ka) ?_; refine Um Z<|Qb Z (fun h8 => ?_) (fun h8 => ?_); refine Vy Z<|Wo Z (Vt (k := 0) Ku Z Z Ka) ?_
               refine Um Z<|Xb Z<|Ye Z<|Zs<|Up Z fun h9 => ?_; refine Zz<|Zu<|Vy Z<|Wo Z (Xh (l := 1) Ku Z Z Ka) ?_; refine Zv Z (Yl (a := .string _) Jn Z) (ih4 _) ?_; rintro _ w3 ⟨E3, y2, rfl, hy2⟩; refine Xx Z<|Nd Z<|Ru Z<|Us Z<|Yu Z<|Zs<|Zw<|Zw<|Vq<|Ua Z<|Wo Z (Uu Jm Z Z)<|Yt Z<|Vy Z<|Wo Z (Vl Z Z)<|Ye Z<|Ym Z (fun h10 => ?_) (fun h10 => ?_); refine Zt Z<|Zt Z<|Zt Z<|Xb Z<|Zs<|Yi Z ?_; refine Zu<|Vy Z<|Us Z<|Yu Z<|Zs<|Vb ?_; refine Vk (v := .tuple #[.pointer _, .string _]) Z ?_; rotate_left; contradiction
               refine Zt Z<|Zt Z<|Zt Z<|Ye Z<|Ye Z<|Zs<|Va Z ?_; refine Zz<|Zu<|Vy Z<|Wo Z (Xh (l := 1) Ku Z Z Ka) ?_; refine Zv Z (Yl (a := .string _) Jn Z) (ih4 _) ?_; rintro _ w3 ⟨E3, y2, rfl, hy2⟩; refine Xx Z<|Nd Z<|Ru Z<|Us Z<|Yu Z<|Zs<|Zw<|Zw<|Vq<|Ua Z<|Wo Z (Uu Jm Z Z)<|Yt Z<|Vy Z<|Wo Z (Vl Z Z)<|Ye Z<|Ym Z (fun h9 => ?_) (fun h9 => ?_); refine Zt Z<|Zt Z<|Zt Z<|Xb Z<|Zs<|Yi Z ?_; refine Zu<|Vy Z<|Us Z<|Yu Z<|Zs<|Vb ?_; refine Vk (v := .tuple #[.pointer _, .string _]) Z ?_; rotate_left; contradiction; (exfalso; omega)
             all_goals exact ⟨(E1.trans E2).trans E3, by rw [hp']⟩
           have hr3 : 0 < r3.length := List.length_pos_iff.2 r0'
           have er3 : r3 = r3.getD 0 0 :: r3.drop 1 := by have := Nj hr3; simpa using this
           have hr3l : (r3.drop 1).length = r3.length - 1 := Ki
           generalize hd3 : r3.getD 0 0 = d3 at er3
           by_cases c5 : d3 = 41
           · have hn3 : (r3.getD 0 0).toNat = 41 := by rw [hd3, c5]; rfl
             have hh : ∃ k : Fm, pre s = some (k, r3.drop 1) ∧ ∀ (w : World) (b bp : Nat) (u u' : Value), Blk w b [.int .u8 ((r1.getD 0 0).toNat : Int), str k.enc, .slice (some ⟨bp, 0, none⟩) 2 2] → Blk w bp [u, u'] → EFm w u f → EFm w u' g → EFm w (.pointer (some ⟨b, 0, none⟩)) k := by
               rw [hd]
               rw [er3, c5] at hp2
               rcases c4 with rfl | rfl
               · exact ⟨.and f g, by rw [es]; exact pre_and hp hp2, fun w b bp u u' h1 h2 h3 h4 => ⟨b, bp, u, u', rfl, h1, h2, h3, h4⟩⟩
               · exact ⟨.or f g, by rw [es]; exact pre_or hp hp2, fun w b bp u u' h1 h2 h3 h4 => ⟨b, bp, u, u', rfl, h1, h2, h3, h4⟩⟩
             obtain ⟨k, hp', hg⟩ := hh
             clear es er er3 c5
             refine Ue Tryz.func190 Z Tryz.results190 Tryz.ntmps190 Z ?_
             focus
               refine Zu<|Us Z<|Yu Z<|Zs<|Zw<|Zu<|Vy Z<|Wo Z (Vl Z Z)<|Zs<|Vw Z fun h1 => ?_; refine Zz<|Zw<|Vq<|Vy Z<|Wo Z (Xh (l := 1) Ku Z Z Ka) ?_; refine Yu Z<|Zs<|Zu<|Vy Z<|Wo Z (Vt (k := 0) Ku Z Z Ka) ?_; refine Wo Z (Vx (ps := [(0, .int _ _)]) (cs := [_, _, _]) Tj Z Z)<|Yx Z Z Z ?_; rintro b1 w1 hb1 E1 hB1; have hlb1 := hB1.lt; have hs1 := E1.size; refine Us Z<|Zs<|Zw<|Zu<|Vy Z<|Wo Z (Vt (k := 0) Ku Z Z Ka) ?_; refine Zs<|Ve<|Zu<|Vr Z<|Vd Z<|Zs<|Zy Z fun h2 => ?_; refine Zw<|Zu<|Vr Z<|Vd Z<|Zs<|Zy Z fun h3 => ?_
               refine Zu<|Vr Z<|Vd Z<|Zs<|Zy Z fun h4 => ?_; refine Vq<|Vr Z<|Vd Z<|Zs<|Zy Z fun h5 => ?_; refine Zu<|Vr Z<|Vd Z<|Zs<|Zx Z (fun h6 => ?_) (fun h6 => ?_); refine Zu<|Vy Z<|Zv Z (Yl (a := .string _) Jn Z) (ih2 _) ?_; rintro _ w2 ⟨E2, y1, rfl, hy1⟩; have hs2 := E2.size; refine Xx Z<|Nd Z<|Ru Z<|Us Z<|Yu Z<|Zs<|Zw<|Zw<|Vq<|Ua Z<|Wo Z (Uu Jm Z Z)<|Yt Z<|Vy Z<|Wo Z (Vl Z Z)<|Ye Z<|Xl Z fun h7 => ?_; refine Vy Z<|Wo Z (Vt (k := 0) Ku Z Z Ka) ?_; refine Um Z<|Qb Z (fun h8 => ?_) (fun h8 => ?_)
               refine Vy Z<|Wo Z (Vt (k := 0) Ku Z Z Ka) ?_; refine Um Z<|Xb Z<|Ye Z<|Zs<|Up Z fun h9 => ?_; refine Zz<|Zu<|Vy Z<|Wo Z (Xh (l := 1) Ku Z Z Ka) ?_; refine Zv Z (Yl (a := .string _) Jn Z) (ih4 _) ?_; rintro _ w3 ⟨E3, y2, rfl, hy2⟩; have hs3 := E3.size; refine Xx Z<|Nd Z<|Ru Z<|Us Z<|Yu Z<|Zs<|Zw<|Zw<|Vq<|Ua Z<|Wo Z (Uu Jm Z Z)<|Yt Z<|Vy Z<|Wo Z (Vl Z Z)<|Ye Z<|Xl Z fun h10 => ?_; refine Vy Z<|Wo Z (Vt (k := 0) Ku Z Z Ka) ?_; refine Um Z<|Ye Z<|Zs<|Up Z fun h11 => ?_
               refine Zz<|Zu<|Ua Z<|Vy Z<|Wo Z (Vt (k := 0) Ku Z Z Ka) ?_; refine Wo Z (Xf Z)<|Vo Jk Ga Z<|Xp (v := .int _ _) Z Ga Z Z Z (hB1.ext exq) Ki Ka exq ?_; rintro w4 E4 hB1 K1 hz1; simp only [List.set] at hB1; have hy1 := (hy1.ext E3).keep (fun k h1 h2 => K1 k Ka) Ka; have hy2 := hy2.keep (fun k h1 h2 => K1 k Ka) Ka; refine Zs<|Zw<|Vq<|Ua Z<|Ua Z<|Ua Z<|Yf (ps := [(0, .pointer _), (1, .pointer _)]) (cs := [_, _]) Z Gn Gp Zr Z Z Z Z ?_; rintro b2 w5 hb2 E5 hB2
               refine Wo Z (Xf Z)<|Vo Jk Gc Z<|Xp (v := .slice _ _ _) Z Gc Z Z Z (hB1.ext E5) Ki Ka exq ?_; rintro w6 E6 hB1 K2 hz2; simp only [List.set] at hB1; have hy1 := (hy1.ext E5).keep (fun k h1 h2 => K2 k Ka) Ka; have hy2 := (hy2.ext E5).keep (fun k h1 h2 => K2 k Ka) Ka; have hB2 := hB2.of_heap (K2 _ Ka); refine Zs<|Vq<|Vy Z<|Wo Z (Xh (l := 1) Ku Z Z Ka) ?_; refine Yu Z<|Zs<|Zu<|Ua Z<|Vy Z<|Vy Z<|Wo Z (Yr Ku Z)<|Vy Z<|Wo Z (Yr Ku Z)<|Rh Z<|Wo Z (Qw Ku Z Z Ka) ?_
               refine Wo Z (Xf Z)<|Vo Jk Kr Z<|Xp (v := .string _) Z Kr Z Z Z hB1 Ki Ka E6 ?_; rintro w7 E7 hB1 K3 hz3; simp only [List.set] at hB1; have hy1 := hy1.keep (fun k h1 h2 => K3 k Ka) Ka; have hy2 := hy2.keep (fun k h1 h2 => K3 k Ka) Ka; have hB2 := hB2.of_heap (K3 _ Ka); refine Zs<|Zu<|Ua Z<|Vy Z<|Us Z<|Yu Z<|Zs<|Vb ?_; refine Vk (v := .tuple #[.pointer _, .string _]) Z ?_; rotate_left; refine Zt Z<|Zt Z<|Zt Z<|Ye Z<|Ye Z<|Zs<|Va Z ?_; refine Zz<|Zu<|Vy Z<|Wo Z (Xh (l := 1) Ku Z Z Ka) ?_; refine Zv Z (Yl (a := .string _) Jn Z) (ih4 _) ?_; rintro _ w3 ⟨E3, y2, rfl, hy2⟩
               have hs3 := E3.size; refine Xx Z<|Nd Z<|Ru Z<|Us Z<|Yu Z<|Zs<|Zw<|Zu<|Ua Z<|Wo Z (Uu Jm Z Z)<|Yt Z<|Vy Z<|Wo Z (Vl Z Z)<|Ye Z<|Xl Z fun h9 => ?_; refine Vy Z<|Wo Z (Vt (k := 0) Ku Z Z Ka) ?_; refine Um Z<|Ye Z<|Zs<|Up Z fun h10 => ?_; refine Zz<|Zu<|Ua Z<|Vy Z<|Wo Z (Vt (k := 0) Ku Z Z Ka) ?_; refine Wo Z (Xf Z)<|Vo Jk Ga Z<|Xp (v := .int _ _) Z Ga Z Z Z (hB1.ext exq) Ki Ka exq ?_; rintro w4 E4 hB1 K1 hz1; simp only [List.set] at hB1; have hy1 := (hy1.ext E3).keep (fun k h1 h2 => K1 k Ka) Ka
               have hy2 := hy2.keep (fun k h1 h2 => K1 k Ka) Ka; refine Zs<|Zu<|Ua Z<|Ua Z<|Ua Z<|Yf (ps := [(0, .pointer _), (1, .pointer _)]) (cs := [_, _]) Z Gn Gp Zr Z Z Z Z ?_; rintro b2 w5 hb2 E5 hB2; refine Wo Z (Xf Z)<|Vo Jk Gc Z<|Xp (v := .slice _ _ _) Z Gc Z Z Z (hB1.ext E5) Ki Ka exq ?_; rintro w6 E6 hB1 K2 hz2; simp only [List.set] at hB1; have hy1 := (hy1.ext E5).keep (fun k h1 h2 => K2 k Ka) Ka; have hy2 := (hy2.ext E5).keep (fun k h1 h2 => K2 k Ka) Ka; have hB2 := hB2.of_heap (K2 _ Ka); refine Zs<|Vq<|Vy Z<|Wo Z (Xh (l := 1) Ku Z Z Ka) ?_
               refine Yu Z<|Zs<|Zu<|Ua Z<|Vy Z<|Vy Z<|Wo Z (Yr Ku Z)<|Vy Z<|Wo Z (Yr Ku Z)<|Rh Z<|Wo Z (Qw Ku Z Z Ka) ?_; refine Wo Z (Xf Z)<|Vo Jk Kr Z<|Xp (v := .string _) Z Kr Z Z Z hB1 Ki Ka E6 ?_; rintro w7 E7 hB1 K3 hz3; simp only [List.set] at hB1; have hy1 := hy1.keep (fun k h1 h2 => K3 k Ka) Ka; have hy2 := hy2.keep (fun k h1 h2 => K3 k Ka) Ka; have hB2 := hB2.of_heap (K3 _ Ka); refine Zs<|Zu<|Ua Z<|Vy Z<|Us Z<|Yu Z<|Zs<|Vb ?_; refine Vk (v := .tuple #[.pointer _, .string _]) Z ?_; rotate_left; (exfalso; omega)
             all_goals
               refine ⟨Kd, ?_⟩
               rw [hp']
               refine ⟨_, Z, fun w9 q hs => hg w9 b1 b2 _ _ ((hB1.keep q hb1).cast ?_) (hB2.keep q Ka) (hy1 w9 (q.mono Ka) Ka) (hy2 w9 (q.mono Ka) Ka)⟩
               rw [fin _ _ (Qv hp')]
           · have hn3 : (r3.getD 0 0).toNat ≠ 41 := by rw [hd3]; exact fun h => c5 (UInt8.toNat_inj.1 h)
             have hp' : pre s = none := by rw [es]; exact pre_br4 hp hp2 (by intro r4 h; rw [h] at er3; exact c5 (List.cons.inj er3).1.symm)
             clear es er er3
             refine Ue Tryz.func190 Z Tryz.results190 Tryz.ntmps190 Z ?_
             focus
               refine Zu<|Us Z<|Yu Z<|Zs<|Zw<|Zu<|Vy Z<|Wo Z (Vl Z Z)<|Zs<|Vw Z fun h1 => ?_; refine Zz<|Zw<|Vq<|Vy Z<|Wo Z (Xh (l := 1) Ku Z Z Ka) ?_; refine Yu Z<|Zs<|Zu<|Vy Z<|Wo Z (Vt (k := 0) Ku Z Z Ka) ?_; refine Wo Z (Vx (ps := [(0, .int _ _)]) (cs := [_, _, _]) Tj Z Z)<|Yx Z Z Z ?_; rintro b1 w1 hb1 E1 hB1; refine Us Z<|Zs<|Zw<|Zu<|Vy Z<|Wo Z (Vt (k := 0) Ku Z Z Ka) ?_; refine Zs<|Ve<|Zu<|Vr Z<|Vd Z<|Zs<|Zy Z fun h2 => ?_; refine Zw<|Zu<|Vr Z<|Vd Z<|Zs<|Zy Z fun h3 => ?_
               refine Zu<|Vr Z<|Vd Z<|Zs<|Zy Z fun h4 => ?_; refine Vq<|Vr Z<|Vd Z<|Zs<|Zy Z fun h5 => ?_; refine Zu<|Vr Z<|Vd Z<|Zs<|Zx Z (fun h6 => ?_) (fun h6 => ?_); refine Zu<|Vy Z<|Zv Z (Yl (a := .string _) Jn Z) (ih2 _) ?_; rintro _ w2 ⟨E2, y1, rfl, hy1⟩; refine Xx Z<|Nd Z<|Ru Z<|Us Z<|Yu Z<|Zs<|Zw<|Zw<|Vq<|Ua Z<|Wo Z (Uu Jm Z Z)<|Yt Z<|Vy Z<|Wo Z (Vl Z Z)<|Ye Z<|Xl Z fun h7 => ?_; refine Vy Z<|Wo Z (Vt (k := 0) Ku Z Z Ka) ?_; refine Um Z<|Qb Z (fun h8 => ?_) (fun h8 => ?_); refine Vy Z<|Wo Z (Vt (k := 0) Ku Z Z Ka) ?_
               refine Um Z<|Xb Z<|Ye Z<|Zs<|Up Z fun h9 => ?_; refine Zz<|Zu<|Vy Z<|Wo Z (Xh (l := 1) Ku Z Z Ka) ?_; refine Zv Z (Yl (a := .string _) Jn Z) (ih4 _) ?_; rintro _ w3 ⟨E3, y2, rfl, hy2⟩; refine Xx Z<|Nd Z<|Ru Z<|Us Z<|Yu Z<|Zs<|Zw<|Zw<|Vq<|Ua Z<|Wo Z (Uu Jm Z Z)<|Yt Z<|Vy Z<|Wo Z (Vl Z Z)<|Ye Z<|Xl Z fun h10 => ?_; refine Vy Z<|Wo Z (Vt (k := 0) Ku Z Z Ka) ?_; refine Um Z<|Ye Z<|Zs<|Yq Z (fun h11 => ?_) (fun h11 => ?_); refine Zu<|Vy Z<|Us Z<|Yu Z<|Zs<|Vb ?_; refine Vk (v := .tuple #[.pointer _, .string _]) Z ?_; rotate_left
               (exfalso; omega); refine Zt Z<|Zt Z<|Zt Z<|Ye Z<|Ye Z<|Zs<|Va Z ?_; refine Zz<|Zw<|Vq<|Vy Z<|Wo Z (Xh (l := 1) Ku Z Z Ka) ?_; refine Zv Z (Yl (a := .string _) Jn Z) (ih4 _) ?_; rintro _ w3 ⟨E3, y2, rfl, hy2⟩; refine Xx Z<|Nd Z<|Ru Z<|Us Z<|Yu Z<|Zs<|Zw<|Zu<|Ua Z<|Wo Z (Uu Jm Z Z)<|Yt Z<|Vy Z<|Wo Z (Vl Z Z)<|Ye Z<|Xl Z fun h9 => ?_; refine Vy Z<|Wo Z (Vt (k := 0) Ku Z Z Ka) ?_; refine Um Z<|Ye Z<|Zs<|Yq Z (fun h10 => ?_) (fun h10 => ?_); refine Zu<|Vy Z<|Us Z<|Yu Z<|Zs<|Vb ?_
               refine Vk (v := .tuple #[.pointer _, .string _]) Z ?_; rotate_left; (exfalso; omega); (exfalso; omega)
             all_goals exact ⟨(E1.trans E2).trans E3, by rw [hp']⟩
       · have hn2 : (r1.getD 0 0).toNat ≠ 38 ∧ (r1.getD 0 0).toNat ≠ 124 := by
           rw [hd]; exact ⟨fun h => c4 (.inl (UInt8.toNat_inj.1 h)), fun h => c4 (.inr (UInt8.toNat_inj.1 h))⟩
         have hp' : pre s = none := by
           rw [es]
           refine pre_br2 hp ?_
           intro c r2 h
           rw [h] at er
           obtain ⟨rfl, _⟩ := List.cons.inj er
           exact ⟨fun h => c4 (.inl h), fun h => c4 (.inr h)⟩
         clear es er
         refine Ue Tryz.func190 Z Tryz.results190 Tryz.ntmps190 Z ?_
         focus
           refine Zu<|Us Z<|Yu Z<|Zs<|Zw<|Zu<|Vy Z<|Wo Z (Vl Z Z)<|Zs<|Vw Z fun h1 => ?_; refine Zz<|Zw<|Vq<|Vy Z<|Wo Z (Xh (l := 1) Ku Z Z Ka) ?_; refine Yu Z<|Zs<|Zu<|Vy Z<|Wo Z (Vt (k := 0) Ku Z Z Ka) ?_; refine Wo Z (Vx (ps := [(0, .int _ _)]) (cs := [_, _, _]) Tj Z Z)<|Yx Z Z Z ?_; rintro b1 w1 hb1 E1 hB1; refine Us Z<|Zs<|Zw<|Zu<|Vy Z<|Wo Z (Vt (k := 0) Ku Z Z Ka) ?_; refine Zs<|Ve<|Zu<|Vr Z<|Vd Z<|Zs<|Zy Z fun h2 => ?_; refine Zw<|Zu<|Vr Z<|Vd Z<|Zs<|Zy Z fun h3 => ?_
           refine Zu<|Vr Z<|Vd Z<|Zs<|Zy Z fun h4 => ?_; refine Vq<|Vr Z<|Vd Z<|Zs<|Zy Z fun h5 => ?_; refine Zu<|Vr Z<|Vd Z<|Zs<|Zx Z (fun h6 => ?_) (fun h6 => ?_); refine Zu<|Vy Z<|Zv Z (Yl (a := .string _) Jn Z) (ih2 _) ?_; rintro _ w2 ⟨E2, y1, rfl, hy1⟩; refine Xx Z<|Nd Z<|Ru Z<|Us Z<|Yu Z<|Zs<|Zw<|Zw<|Vq<|Ua Z<|Wo Z (Uu Jm Z Z)<|Yt Z<|Vy Z<|Wo Z (Vl Z Z)<|Ye Z<|Xl Z fun h7 => ?_; refine Vy Z<|Wo Z (Vt (k := 0) Ku Z Z Ka) ?_; refine Um Z<|Qb Z (fun h8 => ?_) (fun h8 => ?_); refine Vy Z<|Wo Z (Vt (k := 0) Ku Z Z Ka) ?_
           refine Um Z<|Xb Z<|Ye Z<|Zs<|Yq Z (fun h9 => ?_) (fun h9 => ?_); refine Zw<|Vq<|Vy Z<|Us Z<|Yu Z<|Zs<|Vb ?_; refine Vk (v := .tuple #[.pointer _, .string _]) Z ?_; rotate_left; (exfalso; omega); (exfalso; omega); (exfalso; omega)
         all_goals exact ⟨E1.trans E2, by rw [hp']⟩
   · have hn : (s.getD 0 0).toNat ≠ 116 ∧ (s.getD 0 0).toNat ≠ 33 ∧ (s.getD 0 0).toNat ≠ 83 ∧ (s.getD 0 0).toNat ≠ 65 ∧ (s.getD 0 0).toNat ≠ 40 := by
       rw [hc]
       refine ⟨fun h => c1 (UInt8.toNat_inj.1 h), fun h => c2 (.inl (UInt8.toNat_inj.1 h)), fun h => c2 (.inr (.inl (UInt8.toNat_inj.1 h))), fun h => c2 (.inr (.inr (UInt8.toNat_inj.1 h))), fun h => c3 (UInt8.toNat_inj.1 h)⟩
     have hp' : pre s = none := by
       rw [es]; exact pre_other ⟨c1, fun h => c2 (.inl h), fun h => c2 (.inr (.inl h)), fun h => c2 (.inr (.inr h)), c3⟩
     clear es
     refine Ue Tryz.func190 Z Tryz.results190 Tryz.ntmps190 Z ?_
     focus
       refine Zu<|Us Z<|Yu Z<|Zs<|Zw<|Zu<|Vy Z<|Wo Z (Vl Z Z)<|Zs<|Vw Z fun h1 => ?_; refine Zz<|Zw<|Vq<|Vy Z<|Wo Z (Xh (l := 1) Ku Z Z Ka) ?_; refine Yu Z<|Zs<|Zu<|Vy Z<|Wo Z (Vt (k := 0) Ku Z Z Ka) ?_; refine Wo Z (Vx (ps := [(0, .int _ _)]) (cs := [_, _, _]) Tj Z Z)<|Yx Z Z Z ?_; rintro b1 w1 hb1 E1 hB1; refine Us Z<|Zs<|Zw<|Zu<|Vy Z<|Wo Z (Vt (k := 0) Ku Z Z Ka) ?_; refine Zs<|Ve<|Zu<|Vr Z<|Vd Z<|Zs<|Zy Z fun h2 => ?_; refine Zw<|Zu<|Vr Z<|Vd Z<|Zs<|Zy Z fun h3 => ?_
       refine Zu<|Vr Z<|Vd Z<|Zs<|Zy Z fun h4 => ?_; refine Vq<|Vr Z<|Vd Z<|Zs<|Zy Z fun h5 => ?_; refine Zu<|Vr Z<|Vd Z<|Zs<|Zy Z fun h6 => ?_; refine Zu<|Vy Z<|Us Z<|Yu Z<|Zs<|Vb ?_; refine Vk (v := .tuple #[.pointer _, .string _]) Z ?_
     exact ⟨E1, by rw [hp']⟩
theorem Mi (s:List UInt8) (w:World) (f:Fm) (h:theF s=some f) :
  Does Tryz.prog 159 [str s] w (RetX w (fun ad=>.pointer (some ad)) fun ad w'=>Above w.heap.size EFm w' (.pointer (some ad)) f):=by
 obtain ⟨hs,hl⟩:=theF_some.1 h
 have hp:pre s=some (f,[]):=Sx (by simpa using hs)
 have ih2 : ∀ w,Does Tryz.prog 190 [str s] w (RetX w (fun ad=>.tuple #[.pointer (some ad),str []]) fun ad w'=>Above w.heap.size EFm w' (.pointer (some ad)) f):=fun w =>
  (readPart_ok _ s w (by unfold lim;omega) (Nat.le_refl _)).mono fun v w' ⟨e,h⟩=>by
   rw [hp] at h
   obtain ⟨u,hv,hu⟩:=h
   obtain ⟨ad,rfl⟩:=hu.here.ptr
   exact ⟨e,ad,hv,hu⟩
 clear hp hs
 refine Vu Tryz.func159 Z Tryz.results159 Tryz.ntmps159 Z ?_
 focus
  refine Zu<|Us Z<|Zs<|Zw<|Zu<|Vy Z<|Wo Z (Yr Ku Z)<|Ut Z<|Zs<|Zy Z fun h1=>?_;refine Zz<|Zw<|Vq<|Vy Z<|Zv Z (Yl (a:=.string _) Jn Z) (ih2 _) ?_;rintro _ w1 ⟨E1,y1,rfl,hy1⟩;refine Xx Z<|Nd Z<|Ru Z<|Us Z<|Yu Z<|Zs<|Zw<|Zu<|Vy Z<|Wo Z (Xs Z Z)<|Zs<|Rm Z fun h2=>?_;refine Zz<|Zu<|Ua Z<|Us Z<|Zs<|Vb ?_;refine Vk (v:=.pointer _) Z ?_;refine ⟨E1,_,Z,?_⟩;(try dsimp only)
 exact hy1
theorem Mc (s:List UInt8) (w:World) (hl:s.length≤lim) (h:theF s=none):Does Tryz.prog 159 [str s] w (Ret w (.pointer none)):=by
 unfold lim at hl
 by_cases h60:60 < s.length
 ·refine Vu Tryz.func159 Z Tryz.results159 Tryz.ntmps159 Z ?_
  focus
   refine Zu<|Us Z<|Zs<|Zw<|Zu<|Vy Z<|Wo Z (Yr Ku Z)<|Ut Z<|Zs<|Zx Z (fun h1=>?_) (fun h1=>?_);refine Zu<|Us Z<|Zs<|Vb ?_;exact ⟨rfl,(Ext.refl _)⟩;(exfalso;omega)
 cases hp:pre s with
 | none =>
   have ih2 : ∀ w, Does Tryz.prog 190 [str s] w (Ret w (.tuple #[.pointer none, str s])) := fun w =>
     (readPart_ok _ s w (by unfold lim; omega) (Nat.le_refl _)).mono fun v w' ⟨e, h⟩ => ⟨by rw [hp] at h; exact h, e⟩
   clear hp h
   refine Vu Tryz.func159 Z Tryz.results159 Tryz.ntmps159 Z ?_
   focus
     refine Zu<|Us Z<|Zs<|Zw<|Zu<|Vy Z<|Wo Z (Yr Ku Z)<|Ut Z<|Zs<|Zy Z fun h1 => ?_; refine Zz<|Zw<|Vq<|Vy Z<|Zv Z (Yl (a := .string _) Jn Z) (ih2 _) ?_; rintro _ w1 ⟨rfl, E1⟩; refine Xx Z<|Nd Z<|Ru Z<|Us Z<|Yu Z<|Zs<|Zw<|Zu<|Vy Z<|Wo Z (Xs Z Z)<|Zs<|Yq Z (fun h2 => ?_) (fun h2 => ?_); refine Zu<|Us Z<|Zs<|Vb ?_; exact ⟨rfl, E1⟩; refine Zz<|Zu<|Ua Z<|Us Z<|Zs<|Vb ?_; exact ⟨rfl, E1⟩
 | some q =>
   obtain ⟨f, r1⟩ := q
   have ih2 : ∀ w, Does Tryz.prog 190 [str s] w (RetX w (fun ad => .tuple #[.pointer (some ad), str r1]) fun ad w' => Above w.heap.size EFm w' (.pointer (some ad)) f) := fun w =>
     (readPart_ok _ s w (by unfold lim; omega) (Nat.le_refl _)).mono fun v w' ⟨e, h⟩ => by
       rw [hp] at h
       obtain ⟨u, hv, hu⟩ := h
       obtain ⟨ad, rfl⟩ := hu.here.ptr
       exact ⟨e, ad, hv, hu⟩
   have hr : r1 ≠ [] := by
     rintro rfl
     have := Qv hp
     rw [theF_some.2 ⟨by simpa using this, Ka⟩] at h
     cases h
   clear hp h
   refine Vu Tryz.func159 Z Tryz.results159 Tryz.ntmps159 Z ?_
   focus
     refine Zu<|Us Z<|Zs<|Zw<|Zu<|Vy Z<|Wo Z (Yr Ku Z)<|Ut Z<|Zs<|Zy Z fun h1 => ?_; refine Zz<|Zw<|Vq<|Vy Z<|Zv Z (Yl (a := .string _) Jn Z) (ih2 _) ?_; rintro _ w1 ⟨E1, y1, rfl, hy1⟩; refine Xx Z<|Nd Z<|Ru Z<|Us Z<|Yu Z<|Zs<|Zw<|Zu<|Vy Z<|Wo Z (Xs Z Z)<|Zs<|Yq Z (fun h2 => ?_) (fun h2 => ?_); refine Zu<|Us Z<|Zs<|Vb ?_; exact ⟨rfl, E1⟩; contradiction
noncomputable def okF (s:List UInt8):Bool:=(theF s).isSome
theorem l10End_ok' (s:List UInt8) (w:World) (hl:s.length≤lim):Does Tryz.prog 163 [str s,.int .i64 0] w (Ret w (.int .i64 (endV s s.length))) :=
 l10End_ok _ s 0 w hl (Nat.le_refl _)
theorem Tf (s:List UInt8) (w:World) (hl:s.length≤lim):Does Tryz.prog 123 [str s] w (Ret w (.bool (okF s))):=by
 have hl':=hl
 unfold lim at hl'
 have key:(s.length≤60→0 < s.length→(endV s s.length=(s.length:Int)↔okF s=true))∧(60 < s.length→okF s=false)∧(s.length=0→okF s=false):=by
  refine ⟨fun h60 h0=>?_,fun h=>by rw [okF,theF_long h];rfl,fun h=>?_⟩
  ·cases hp:pre s with
   | none =>
     have : theF s = none := by unfold theF; rw [if_pos h60, hp]
     rw [endV, hp, okF, this]
     simp
   | some q =>
     obtain ⟨f, r⟩ := q
     have hs := Qv hp
     have hlen := congrArg List.length hs
     simp only [List.length_append] at hlen
     have hf := f.enc_pos
     cases r with
     | nil =>
       have : theF s = some f := theF_some.2 ⟨by simpa using hs, h60⟩
       rw [endV, hp, okF, this]
       simp
     | cons c r =>
       have : theF s = none := by unfold theF; rw [if_pos h60, hp]
       rw [endV, hp, okF, this]
       simp only [List.length_cons] at hlen ⊢
       simp
       omega
  ·have:s=[]:=List.eq_nil_of_length_eq_zero h
   subst this
   have:theF []=none:=by unfold theF;rw [pre_nil];rfl
   rw [okF,this];rfl
 obtain ⟨k1,k2,k3⟩:=key
 refine Vu Tryz.func123 Z Tryz.results123 Tryz.ntmps123 Z ?_
 focus
  refine Zu<|Vd Z<|Zs<|Zu<|Vy Z<|Wo Z (Yr Ku Z)<|Wsleq Z<|Ym Z (fun h1=>?_) (fun h1=>?_);refine Vy Z<|Wo Z (Yr Ku Z)<|Ut Z<|Xb Z<|Ym Z (fun h2=>?_) (fun h2=>?_);refine Vy Z<|Zv Z (Yd (a:=.string _) (b:=.int _ _) Jr Z Z) (l10End_ok' _ _ Kd) ?_;rintro _ w1 ⟨rfl,E1⟩;refine Vy Z<|Wo Z (Yr Ku Z)<|Vr Z<|Xb Z<|Vd Z<|Zs<|Vb ?_;refine Vk (v:=.bool _) Z ?_;refine ⟨congrArg Value.bool ?_,E1⟩;rotate_left;refine Zt Z<|Zt Z<|Zt Z<|Zt Z<|Zt Z<|Ye Z<|Vd Z<|Zs<|Vb ?_;refine Vk (v:=.bool _) Z ?_;refine ⟨congrArg Value.bool ?_,(Ext.refl _)⟩;rotate_left
  refine Zt Z<|Zt Z<|Zt Z<|Ye Z<|Yt Z<|Zt Z<|Zt Z<|Zt Z<|Zt Z<|Zt Z<|Ye Z<|Vd Z<|Zs<|Vb ?_;refine Vk (v:=.bool _) Z ?_;refine ⟨congrArg Value.bool ?_,(Ext.refl _)⟩;rotate_left
 ·rw [Bool.eq_iff_iff,decide_eq_true_iff];exact k1 Ka Ka
 ·exact (k3 Ka).symm
 ·exact (k2 Ka).symm
def cF:Nat→Nat
 | 0=>1
 | d+1=>4+2*cF d
def lF:Nat→Nat
 | 0=>8
 | d+1=>12+2*lF d
theorem lF_le : ∀ d,d≤5→lF d≤1000:=by
 have : ∀ d,d < 6→lF d≤1000:=Kc
 intro d h;exact this d Ka
theorem formula_ok : ∀ (d:Nat),d≤5→∀ {w0:World} (w:World) {br m:Nat} (z:Int),z=d→Rdr w0 w br m→m+cF d≤500000000 →
  Does Tryz.prog 152 [.pointer (some ⟨br,0,none⟩),.int .i64 z] w (RetD w0 w br (m+cF d) str (fun s _=>1≤s.length∧s.length≤lF d)):=by
 intro d
 induction d with
 | zero =>
   intro _ w0 w br m z hz hr hm
   unfold cF at hm
   subst hz
   refine Vu Tryz.func152 Z Tryz.results152 Tryz.ntmps152 Z ?_
   have hG : w.grownBy w (some br) := Ra _ _
   have hlr := hr.lt
   focus
     refine Zu<|Yu Z<|Zs<|Zw<|Zu<|Vc Z<|Vr Z<|Ym Z (fun h1 => ?_) (fun h1 => ?_); refine Zt Z<|Zt Z<|Zt Z<|Xb Z<|Zs<|Yi Z ?_; refine Zu<|Yf (ps := [(0, .string _), (1, .string _), (2, .string _), (3, .string _)]) (cs := [_, _, _, _]) Z Ky Kr Jh Z Z Z Z ?_; rintro b1 w1 hb1 E1 hB1; have hr := hr.ext E1; have hG := Vj hG E1; refine Ua Z<|Zv Z (Yd (a := .pointer _) (b := .int _ _) Jb Z Z) (Yv _ _ Kd Ka) ?_; rintro _ w2 ⟨y1, rfl, E2, hr1, hy1⟩; (try dsimp only at hy1); have hB1 := hB1.grown E2 (by simp only [ne_eq, Option.some.injEq]; omega); have hG := Vh hG E2; refine Wo Z (Vn Ky Kr Z Z Ka) ?_
     refine Xe 1 Ks Z Z hB1 (by repeat (first | exact trivial | refine And.intro ⟨_, Z, Kc⟩ ?_)) (by simp only [List.length_cons, List.length_nil]; omega) ?_; intro s1 hs1; refine Yu Z<|Zs<|Vb ?_; refine Vk (v := .string _) Z ?_; rotate_left; contradiction
   exact ⟨s1, rfl, hG, hr1, by unfold lF; omega⟩
 | succ d ih =>
   intro hd w0 w br m z hz hr hm
   have ih := @ih Ka
   have hl := lF_le d Ka
   unfold cF at hm
   refine Vu Tryz.func152 Z Tryz.results152 Tryz.ntmps152 Z ?_
   have hG : w.grownBy w (some br) := Ra _ _
   focus
     refine Zu<|Yu Z<|Zs<|Zw<|Zu<|Vc Z<|Vr Z<|Uy Z fun h1 => ?_; refine Ua Z<|Zv Z (Yd (a := .pointer _) (b := .int _ _) Jb Z Z) (Yv _ _ Kd Ka) ?_; rintro _ w1 ⟨y1, rfl, E1, hr1, hy1⟩; (try dsimp only at hy1); have hlhr1 := hr1.lt; have hG := Vh hG E1; refine Vr Z<|Ye Z<|Zs<|Zx Z (fun h2 => ?_) (fun h2 => ?_); refine Zw<|Vq<|Yf (ps := [(0, .string _), (1, .string _), (2, .string _), (3, .string _)]) (cs := [_, _, _, _]) Z Ky Kr Jh Z Z Z Z ?_; rintro b1 w2 hb1 E2 hB1; have hr1 := hr1.ext E2; have hG := Vj hG E2; refine Ua Z<|Zv Z (Yd (a := .pointer _) (b := .int _ _) Jb Z Z) (Yv _ _ Kd Ka) ?_; rintro _ w3 ⟨y2, rfl, E3, hr2, hy2⟩
     (try dsimp only at hy2); have hB1 := hB1.grown E3 (by simp only [ne_eq, Option.some.injEq]; omega); have hG := Vh hG E3; refine Wo Z (Vn Ky Kr Z Z Ka) ?_; refine Xe 1 Ks Z Z hB1 (by repeat (first | exact trivial | refine And.intro ⟨_, Z, Kc⟩ ?_)) (by simp only [List.length_cons, List.length_nil]; omega) ?_; intro s1 hs1; refine Yu Z<|Zs<|Vb ?_; refine Vk (v := .string _) Z ?_; rotate_left; refine Zz<|Zw<|Zu<|Ua Z<|Zv Z (Yd (a := .pointer _) (b := .int _ _) Jb Z Z) (Yv _ _ Kd Ka) ?_; rintro _ w2 ⟨y2, rfl, E2, hr2, hy2⟩; (try dsimp only at hy2); have hlhr2 := hr2.lt; have hG := Vh hG E2; refine Ut Z<|Zs<|Zx Z (fun h3 => ?_) (fun h3 => ?_)
     refine Zw<|Qr (fun _ => True) Xy Z Kb ?_; intro w3 E3 K1 hz1; have hr2 := hr2.ext E3; have hG := Vj hG E3; refine WtmP 1 Z Z trivial<|WtmP 5 Z Z trivial<|Nh 6 Z Z trivial<|Vf 7 Z Kb Kb Z (fun _ _ => Mx Z Z Ka) trivial ?_; refine Wha [0, 2]<|Vi Z ?_ ?_; refine Yf (ps := [(0, .string _), (1, .string _), (2, .string _), (3, .string _)]) (cs := [_, _, _, _]) Z Ky Kr Jh Z Z Z Z ?_; rintro b1 w4 hb1 E4 hB1; have hr2 := hr2.ext E4; have hG := Vj hG E4; refine Wnx trivial<|Wha [2]<|Wh1 Z<|Zv Z (Yd (a := .pointer _) (b := .int _ _) Jb Z Z) (Yv _ _ Kd Ka) ?_; rintro _ w5 ⟨y3, rfl, E5, hr3, hy3⟩; (try dsimp only at hy3)
     have hB1 := hB1.grown E5 (by simp only [ne_eq, Option.some.injEq]; omega); have hG := Vh hG E5; refine Wnx trivial<|Vf 3 Z Kb Kb Z (fun _ _ => Vn Ky Kr Z Z Ka) trivial ?_; refine Wha [4, 8]<|Vi Z ?_ ?_; refine Xe 1 Ks Z Z hB1 (by repeat (first | exact trivial | refine And.intro ⟨_, Z, Kc⟩ ?_)) (by simp only [List.length_cons, List.length_nil]; omega) ?_; intro s1 hs1; refine Wnx trivial<|Wha [8]<|Wh1 Z<|Zv Z (Yd (a := .pointer _) (b := .int _ _) Gi Z Z) (ih _ _ Ka Kd Ka) ?_; rintro _ w6 ⟨y4, rfl, E6, hr4, hy4⟩; (try dsimp only at hy4); have hG := Vh hG E6; refine Wnx trivial<|Vf 9 Z Kb Kb Z (fun _ _ => Ya Z Z Ka) trivial ?_
     refine Xv 10 Z Z trivial<|Vs Kb ?_; refine Vb ?_; refine Vk (v := .string _) Z ?_; rotate_left; refine Wh1 Z<|Zv Z (Yd (a := .pointer _) (b := .int _ _) Gi Z Z) (ih _ _ Ka Kd Ka) ?_; rintro _ w6 ⟨y4, rfl, E6, hr4, hy4⟩; (try dsimp only at hy4); have hB1 := hB1.grown E6 (by simp only [ne_eq, Option.some.injEq]; omega); have hG := Vh hG E6; refine Wnx trivial<|Wha [4]<|Wh1 Z<|Xe 1 Ks Z Z hB1 (by repeat (first | exact trivial | refine And.intro ⟨_, Z, Kc⟩ ?_)) (by simp only [List.length_cons, List.length_nil]; omega) ?_; intro s1 hs1; refine Wnx trivial<|Vf 9 Z Kb Kb Z (fun _ _ => Ya Z Z Ka) trivial ?_; refine Xv 10 Z Z trivial<|Vs Kb ?_; refine Vb ?_
     refine Vk (v := .string _) Z ?_; rotate_left; refine Wh1 Z<|Zv Z (Yd (a := .pointer _) (b := .int _ _) Jb Z Z) (Yv _ _ Kd Ka) ?_; rintro _ w4 ⟨y3, rfl, E4, hr3, hy3⟩; (try dsimp only at hy3); have hlhr3 := hr3.lt; have hG := Vh hG E4; refine Wnx trivial<|Wha [0, 8]<|Vi Z ?_ ?_; refine Yf (ps := [(0, .string _), (1, .string _), (2, .string _), (3, .string _)]) (cs := [_, _, _, _]) Z Ky Kr Jh Z Z Z Z ?_; rintro b1 w5 hb1 E5 hB1; have hr3 := hr3.ext E5; have hG := Vj hG E5; refine Wnx trivial<|Vf 3 Z Kb Kb Z (fun _ _ => Vn Ky Kr Z Z Ka) trivial ?_; refine Wha [4, 8]<|Vi Z ?_ ?_
     refine Xe 1 Ks Z Z hB1 (by repeat (first | exact trivial | refine And.intro ⟨_, Z, Kc⟩ ?_)) (by simp only [List.length_cons, List.length_nil]; omega) ?_; intro s1 hs1; refine Wnx trivial<|Wha [8]<|Wh1 Z<|Zv Z (Yd (a := .pointer _) (b := .int _ _) Gi Z Z) (ih _ _ Ka Kd Ka) ?_; rintro _ w6 ⟨y4, rfl, E6, hr4, hy4⟩; (try dsimp only at hy4); have hG := Vh hG E6; refine Wnx trivial<|Vf 9 Z Kb Kb Z (fun _ _ => Ya Z Z Ka) trivial ?_; refine Xv 10 Z Z trivial<|Vs Kb ?_; refine Vb ?_; refine Vk (v := .string _) Z ?_; rotate_left; refine Wh1 Z<|Zv Z (Yd (a := .pointer _) (b := .int _ _) Gi Z Z) (ih _ _ Ka Kd Ka) ?_; rintro _ w6 ⟨y4, rfl, E6, hr4, hy4⟩
     (try dsimp only at hy4); have hB1 := hB1.grown E6 (by simp only [ne_eq, Option.some.injEq]; omega); have hG := Vh hG E6; refine Wnx trivial<|Wha [4]<|Wh1 Z<|Xe 1 Ks Z Z hB1 (by repeat (first | exact trivial | refine And.intro ⟨_, Z, Kc⟩ ?_)) (by simp only [List.length_cons, List.length_nil]; omega) ?_; intro s1 hs1; refine Wnx trivial<|Vf 9 Z Kb Kb Z (fun _ _ => Ya Z Z Ka) trivial ?_; refine Xv 10 Z Z trivial<|Vs Kb ?_; refine Vb ?_; refine Vk (v := .string _) Z ?_; rotate_left; refine Wh1 Z<|Zv Z (Yd (a := .pointer _) (b := .int _ _) Gi Z Z) (ih _ _ Ka Kd Ka) ?_; rintro _ w5 ⟨y4, rfl, E5, hr4, hy4⟩; (try dsimp only at hy4); have hG := Vh hG E5
     refine Wnx trivial<|Wha [0]<|Wh1 Z<|Yf (ps := [(0, .string _), (1, .string _), (2, .string _), (3, .string _)]) (cs := [_, _, _, _]) Z Ky Kr Jh Z Z Z Z ?_; rintro b1 w6 hb1 E6 hB1; have hr4 := hr4.ext E6; have hG := Vj hG E6; refine Wnx trivial<|Vf 3 Z Kb Kb Z (fun _ _ => Vn Ky Kr Z Z Ka) trivial ?_; refine Wha [4]<|Wh1 Z<|Xe 1 Ks Z Z hB1 (by repeat (first | exact trivial | refine And.intro ⟨_, Z, Kc⟩ ?_)) (by simp only [List.length_cons, List.length_nil]; omega) ?_; intro s1 hs1; refine Wnx trivial<|Vf 9 Z Kb Kb Z (fun _ _ => Ya Z Z Ka) trivial ?_; refine Xv 10 Z Z trivial<|Vs Kb ?_; refine Vb ?_
     refine Vk (v := .string _) Z ?_; rotate_left; refine Zz<|Zw<|Qr (fun _ => True) Xy Z Kb ?_; intro w3 E3 K1 hz1; have hr2 := hr2.ext E3; have hG := Vj hG E3; refine WtmP 0 Z Z trivial<|Nh 1 Z Z trivial<|Vf 2 Z Kb Kb Z (fun _ _ => Mx Z Z Ka) trivial ?_; refine WtmP 6 Z Z trivial<|WtmP 11 Z Z trivial<|Nh 12 Z Z trivial<|Vf 13 Z Kb Kb Z (fun _ _ => Mx Z Z Ka) trivial ?_; refine Wha [3, 5]<|Vi Z ?_ ?_; refine Zv Z (Yd (a := .pointer _) (b := .int _ _) Gi Z Z) (ih _ _ Ka Kd Ka) ?_; rintro _ w4 ⟨y3, rfl, E4, hr3, hy3⟩; (try dsimp only at hy3); have hlhr3 := hr3.lt; have hG := Vh hG E4
     refine Wnx trivial<|Vf 4 Z Kb Kb Z (fun _ _ => Ya Z Z (by simp <;> omega)) trivial ?_; refine Wha [5, 7]<|Vi Z ?_ ?_; refine Yf (ps := [(0, .string _), (1, .string _)]) (cs := [_, _]) Z Ky Kr Jh Z Z Z Z ?_; rintro b1 w5 hb1 E5 hB1; have hr3 := hr3.ext E5; have hG := Vj hG E5; refine Wnx trivial<|Wha [7]<|Wh1 Z<|Zv Z (Yd (a := .pointer _) (b := .int _ _) Jb Z Z) (Yv _ _ Kd Ka) ?_; rintro _ w6 ⟨y4, rfl, E6, hr4, hy4⟩; (try dsimp only at hy4); have hB1 := hB1.grown E6 (by simp only [ne_eq, Option.some.injEq]; omega); have hG := Vh hG E6; refine Wnx trivial<|Vf 8 Z Kb Kb Z (fun _ _ => Vn Ky Kr Z Z Ka) trivial ?_
     refine Wha [9, 14]<|Vi Z ?_ ?_; refine Xe 1 Ks Z Z hB1 (by repeat (first | exact trivial | refine And.intro ⟨_, Z, Kc⟩ ?_)) (by simp only [List.length_cons, List.length_nil]; omega) ?_; intro s1 hs1; refine Wnx trivial<|Vf 10 Z Kb Kb Z (fun _ _ => Ya Z Z (by simp <;> omega)) trivial ?_; refine Wha [14]<|Wh1 Z<|Zv Z (Yd (a := .pointer _) (b := .int _ _) Gi Z Z) (ih _ _ Ka Kd Ka) ?_; rintro _ w7 ⟨y5, rfl, E7, hr5, hy5⟩; (try dsimp only at hy5); have hG := Vh hG E7; refine Wnx trivial<|Vf 15 Z Kb Kb Z (fun _ _ => Ya Z Z (by simp <;> omega)) trivial ?_; refine Vf 16 Z Kb Kb Z (fun _ _ => Ya Z Z (by simp <;> omega)) trivial ?_
     refine Xv 17 Z Z trivial<|Vs Kb ?_; refine Vb ?_; refine Vk (v := .string _) Z ?_; rotate_left; refine Wh1 Z<|Zv Z (Yd (a := .pointer _) (b := .int _ _) Gi Z Z) (ih _ _ Ka Kd Ka) ?_; rintro _ w7 ⟨y5, rfl, E7, hr5, hy5⟩; (try dsimp only at hy5); have hB1 := hB1.grown E7 (by simp only [ne_eq, Option.some.injEq]; omega); have hG := Vh hG E7; refine Wnx trivial<|Wha [9]<|Wh1 Z<|Xe 1 Ks Z Z hB1 (by repeat (first | exact trivial | refine And.intro ⟨_, Z, Kc⟩ ?_)) (by simp only [List.length_cons, List.length_nil]; omega) ?_; intro s1 hs1; refine Wnx trivial<|Vf 10 Z Kb Kb Z (fun _ _ => Ya Z Z (by simp <;> omega)) trivial ?_
     refine Vf 15 Z Kb Kb Z (fun _ _ => Ya Z Z (by simp <;> omega)) trivial ?_; refine Vf 16 Z Kb Kb Z (fun _ _ => Ya Z Z (by simp <;> omega)) trivial ?_; refine Xv 17 Z Z trivial<|Vs Kb ?_; refine Vb ?_; refine Vk (v := .string _) Z ?_; rotate_left; refine Wh1 Z<|Zv Z (Yd (a := .pointer _) (b := .int _ _) Jb Z Z) (Yv _ _ Kd Ka) ?_; rintro _ w5 ⟨y4, rfl, E5, hr4, hy4⟩; (try dsimp only at hy4); have hlhr4 := hr4.lt; have hG := Vh hG E5; refine Wnx trivial<|Wha [5, 14]<|Vi Z ?_ ?_; refine Yf (ps := [(0, .string _), (1, .string _)]) (cs := [_, _]) Z Ky Kr Jh Z Z Z Z ?_; rintro b1 w6 hb1 E6 hB1; have hr4 := hr4.ext E6
     have hG := Vj hG E6; refine Wnx trivial<|Vf 8 Z Kb Kb Z (fun _ _ => Vn Ky Kr Z Z Ka) trivial ?_; refine Wha [9, 14]<|Vi Z ?_ ?_; refine Xe 1 Ks Z Z hB1 (by repeat (first | exact trivial | refine And.intro ⟨_, Z, Kc⟩ ?_)) (by simp only [List.length_cons, List.length_nil]; omega) ?_; intro s1 hs1; refine Wnx trivial<|Vf 10 Z Kb Kb Z (fun _ _ => Ya Z Z (by simp <;> omega)) trivial ?_; refine Wha [14]<|Wh1 Z<|Zv Z (Yd (a := .pointer _) (b := .int _ _) Gi Z Z) (ih _ _ Ka Kd Ka) ?_; rintro _ w7 ⟨y5, rfl, E7, hr5, hy5⟩; (try dsimp only at hy5); have hG := Vh hG E7
     refine Wnx trivial<|Vf 15 Z Kb Kb Z (fun _ _ => Ya Z Z (by simp <;> omega)) trivial ?_; refine Vf 16 Z Kb Kb Z (fun _ _ => Ya Z Z (by simp <;> omega)) trivial ?_; refine Xv 17 Z Z trivial<|Vs Kb ?_; refine Vb ?_; refine Vk (v := .string _) Z ?_; rotate_left; refine Wh1 Z<|Zv Z (Yd (a := .pointer _) (b := .int _ _) Gi Z Z) (ih _ _ Ka Kd Ka) ?_; rintro _ w7 ⟨y5, rfl, E7, hr5, hy5⟩; (try dsimp only at hy5); have hB1 := hB1.grown E7 (by simp only [ne_eq, Option.some.injEq]; omega); have hG := Vh hG E7
     refine Wnx trivial<|Wha [9]<|Wh1 Z<|Xe 1 Ks Z Z hB1 (by repeat (first | exact trivial | refine And.intro ⟨_, Z, Kc⟩ ?_)) (by simp only [List.length_cons, List.length_nil]; omega) ?_; intro s1 hs1; refine Wnx trivial<|Vf 10 Z Kb Kb Z (fun _ _ => Ya Z Z (by simp <;> omega)) trivial ?_; refine Vf 15 Z Kb Kb Z (fun _ _ => Ya Z Z (by simp <;> omega)) trivial ?_; refine Vf 16 Z Kb Kb Z (fun _ _ => Ya Z Z (by simp <;> omega)) trivial ?_; refine Xv 17 Z Z trivial<|Vs Kb ?_; refine Vb ?_; refine Vk (v := .string _) Z ?_; rotate_left; refine Wh1 Z<|Zv Z (Yd (a := .pointer _) (b := .int _ _) Gi Z Z) (ih _ _ Ka Kd Ka) ?_
     rintro _ w6 ⟨y5, rfl, E6, hr5, hy5⟩; (try dsimp only at hy5); have hG := Vh hG E6; refine Wnx trivial<|Wha [5]<|Wh1 Z<|Yf (ps := [(0, .string _), (1, .string _)]) (cs := [_, _]) Z Ky Kr Jh Z Z Z Z ?_; rintro b1 w7 hb1 E7 hB1; have hr5 := hr5.ext E7; have hG := Vj hG E7; refine Wnx trivial<|Vf 8 Z Kb Kb Z (fun _ _ => Vn Ky Kr Z Z Ka) trivial ?_; refine Wha [9]<|Wh1 Z<|Xe 1 Ks Z Z hB1 (by repeat (first | exact trivial | refine And.intro ⟨_, Z, Kc⟩ ?_)) (by simp only [List.length_cons, List.length_nil]; omega) ?_; intro s1 hs1; refine Wnx trivial<|Vf 10 Z Kb Kb Z (fun _ _ => Ya Z Z (by simp <;> omega)) trivial ?_
     refine Vf 15 Z Kb Kb Z (fun _ _ => Ya Z Z (by simp <;> omega)) trivial ?_; refine Vf 16 Z Kb Kb Z (fun _ _ => Ya Z Z (by simp <;> omega)) trivial ?_; refine Xv 17 Z Z trivial<|Vs Kb ?_; refine Vb ?_; refine Vk (v := .string _) Z ?_; rotate_left; refine Wh1 Z<|Yf (ps := [(0, .string _), (1, .string _)]) (cs := [_, _]) Z Ky Kr Jh Z Z Z Z ?_; rintro b1 w4 hb1 E4 hB1; have hr2 := hr2.ext E4; have hG := Vj hG E4; refine Wnx trivial<|Wha [3]<|Wh1 Z<|Zv Z (Yd (a := .pointer _) (b := .int _ _) Gi Z Z) (ih _ _ Ka Kd Ka) ?_; rintro _ w5 ⟨y3, rfl, E5, hr3, hy3⟩; (try dsimp only at hy3)
     have hB1 := hB1.grown E5 (by simp only [ne_eq, Option.some.injEq]; omega); have hG := Vh hG E5; refine Wnx trivial<|Vf 4 Z Kb Kb Z (fun _ _ => Ya Z Z (by simp <;> omega)) trivial ?_; refine Wha [7]<|Wh1 Z<|Zv Z (Yd (a := .pointer _) (b := .int _ _) Jb Z Z) (Yv _ _ Kd Ka) ?_; rintro _ w6 ⟨y4, rfl, E6, hr4, hy4⟩; (try dsimp only at hy4); have hB1 := hB1.grown E6 (by simp only [ne_eq, Option.some.injEq]; omega); have hG := Vh hG E6; refine Wnx trivial<|Vf 8 Z Kb Kb Z (fun _ _ => Vn Ky Kr Z Z Ka) trivial ?_; refine Wha [9, 14]<|Vi Z ?_ ?_
     refine Xe 1 Ks Z Z hB1 (by repeat (first | exact trivial | refine And.intro ⟨_, Z, Kc⟩ ?_)) (by simp only [List.length_cons, List.length_nil]; omega) ?_; intro s1 hs1; refine Wnx trivial<|Vf 10 Z Kb Kb Z (fun _ _ => Ya Z Z (by simp <;> omega)) trivial ?_; refine Wha [14]<|Wh1 Z<|Zv Z (Yd (a := .pointer _) (b := .int _ _) Gi Z Z) (ih _ _ Ka Kd Ka) ?_; rintro _ w7 ⟨y5, rfl, E7, hr5, hy5⟩; (try dsimp only at hy5); have hG := Vh hG E7; refine Wnx trivial<|Vf 15 Z Kb Kb Z (fun _ _ => Ya Z Z (by simp <;> omega)) trivial ?_; refine Vf 16 Z Kb Kb Z (fun _ _ => Ya Z Z (by simp <;> omega)) trivial ?_; refine Xv 17 Z Z trivial<|Vs Kb ?_
     refine Vb ?_; refine Vk (v := .string _) Z ?_; rotate_left; refine Wh1 Z<|Zv Z (Yd (a := .pointer _) (b := .int _ _) Gi Z Z) (ih _ _ Ka Kd Ka) ?_; rintro _ w7 ⟨y5, rfl, E7, hr5, hy5⟩; (try dsimp only at hy5); have hB1 := hB1.grown E7 (by simp only [ne_eq, Option.some.injEq]; omega); have hG := Vh hG E7; refine Wnx trivial<|Wha [9]<|Wh1 Z<|Xe 1 Ks Z Z hB1 (by repeat (first | exact trivial | refine And.intro ⟨_, Z, Kc⟩ ?_)) (by simp only [List.length_cons, List.length_nil]; omega) ?_; intro s1 hs1; refine Wnx trivial<|Vf 10 Z Kb Kb Z (fun _ _ => Ya Z Z (by simp <;> omega)) trivial ?_; refine Vf 15 Z Kb Kb Z (fun _ _ => Ya Z Z (by simp <;> omega)) trivial ?_
     refine Vf 16 Z Kb Kb Z (fun _ _ => Ya Z Z (by simp <;> omega)) trivial ?_; refine Xv 17 Z Z trivial<|Vs Kb ?_; refine Vb ?_; refine Vk (v := .string _) Z ?_; rotate_left
   all_goals
     have e1 : cF (d + 1) = 4 + 2 * cF d := rfl
     have e2 : lF (d + 1) = 12 + 2 * lF d := rfl
     first
       | exact ⟨_, rfl, hG, hr2.le Ka, Ka⟩
       | exact ⟨_, rfl, hG, hr3.le Ka, by simp only [List.length_append, List.length_cons, List.length_nil]; omega⟩
       | exact ⟨_, rfl, hG, hr4.le Ka, by simp only [List.length_append, List.length_cons, List.length_nil]; omega⟩
       | exact ⟨_, rfl, hG, hr5.le Ka, by simp only [List.length_append, List.length_cons, List.length_nil]; omega⟩
theorem formed_ok {w0:World} (w:World) {br m:Nat} (n:Int) (hr:Rdr w0 w br m) (hm:m≤100000000) (hn:1≤n∧n≤1000) :
  Does Tryz.prog 107 [.pointer (some ⟨br,0,none⟩),.int .i64 n] w (RetD w0 w br (m+60) str (fun s _=>s.length≤200)):=by
 have f3 : ∀ {w0:World} (w:World) {br m:Nat},Rdr w0 w br m→m≤100000000 →
  Does Tryz.prog 152 [.pointer (some ⟨br,0,none⟩),.int .i64 3] w (RetD w0 w br (m+36) str (fun s _=>1≤s.length∧s.length≤148)):=fun {w0} w {br m} hr hm=>formula_ok 3 Ka (br:=br) (m:=m) w 3 rfl hr (by have:cF 3=36:=rfl;omega)
 refine Vu Tryz.func107 Z Tryz.results107 Tryz.ntmps107 Z ?_
 have hG:w.grownBy w (some br):=Ra _ _
 focus
  refine Zu<|Yu Z<|Zs<|Zu<|Ua Z<|Zv Z (Yd (a:=.pointer _) (b:=.int _ _) Gi Z Z) (f3 _ Kd Kd) ?_;rintro _ w1 ⟨y1,rfl,E1,hr1,hy1⟩;(try dsimp only at hy1);have hG:=Vh hG E1;refine Yu Z<|Zs<|Zw<|Zu<|Ua Z<|Vc Z<|Zv Z (Yd (a:=.pointer _) (b:=.int _ _) Tryz.call76 Z Z) (odd_ok _ _ Kd Ka Ka) ?_;rintro _ w2 ⟨y2,rfl,E2,hr2,hy2⟩;(try dsimp only at hy2);have hG:=Vh hG E2;refine Zs<|Xr Z (fun h1=>?_) (fun h1=>?_);refine Zu<|Ua Z<|Vy Z<|Wo Z (Yr Ku Z)<|Zv Z (Yd (a:=.pointer _) (b:=.int _ _) Jb Z Z) (Yv _ _ Kd Ka) ?_;rintro _ w3 ⟨y3,rfl,E3,hr3,hy3⟩;(try dsimp only at hy3)
  have hlhr3:=hr3.lt;have hG:=Vh hG E3;refine Yb Z<|Zs<|Zw<|Qr (fun _=>True) Xy Z Kb ?_;intro w4 E4 K1 hz1;have hr3:=hr3.ext E4;have hG:=Vj hG E4;refine WtmT 0 Z Z trivial<|Nh 1 Z Z trivial<|Vf 2 Z Kb Kb Z (fun _ _=>Ml Ku Z Z Ka) trivial ?_;refine WtmP 4 Z Z trivial<|WtmT 9 Z Z trivial<|Nh 10 Z Z trivial<|Vf 11 Z Kb Kb Z (fun _ _=>Ub Z Z Ka) trivial ?_;refine Vf 12 Z Kb Kb Z (fun _ _=>Xh Ku Z Z (by simp <;> omega)) trivial ?_;refine Wha [3,5]<|Vi Z ?_ ?_
  refine Yf (ps:=[(0,.string _),(1,.string _),(2,.string _),(3,.string _),(4,.string _)]) (cs:=[_,_,_,_,_]) Z Ky Kr Jh Z Z Z Z ?_;rintro b1 w5 hb1 E5 hB1;have hr3:=hr3.ext E5;have hG:=Vj hG E5;refine Wnx trivial<|Wha [5]<|Wh1 Z<|Zv Z (Yd (a:=.pointer _) (b:=.int _ _) Jb Z Z) (Yv _ _ Kd Ka) ?_;rintro _ w6 ⟨y4,rfl,E6,hr4,hy4⟩;(try dsimp only at hy4);have hB1:=hB1.grown E6 (by simp only [ne_eq,Option.some.injEq];omega);have hG:=Vh hG E6;refine Wnx trivial<|Vf 6 Z Kb Kb Z (fun _ _=>Vn Ky Kr Z Z Ka) trivial ?_
  refine Wha [7]<|Wh1 Z<|Xe 0 Ks Z Z hB1 (by repeat (first | exact trivial | refine And.intro ⟨_,Z,Kc⟩ ?_)) (by simp only [List.length_cons,List.length_nil];omega) ?_;intro s1 hs1;refine Wnx trivial<|Vf 8 Z Kb Kb Z (fun _ _=>Ya Z Z (by simp <;> omega)) trivial ?_;refine Vf 13 Z Kb Kb Z (fun _ _=>Ya Z Z (by simp <;> omega)) trivial ?_;refine Xv 14 Z Z trivial<|Vs Kb ?_;refine Vb ?_;refine Vk (v:=.string _) Z ?_;rotate_left;refine Wh1 Z<|Zv Z (Yd (a:=.pointer _) (b:=.int _ _) Jb Z Z) (Yv _ _ Kd Ka) ?_;rintro _ w5 ⟨y4,rfl,E5,hr4,hy4⟩;(try dsimp only at hy4);have hG:=Vh hG E5
  refine Wnx trivial<|Wha [3]<|Wh1 Z<|Yf (ps:=[(0,.string _),(1,.string _),(2,.string _),(3,.string _),(4,.string _)]) (cs:=[_,_,_,_,_]) Z Ky Kr Jh Z Z Z Z ?_;rintro b1 w6 hb1 E6 hB1;have hr4:=hr4.ext E6;have hG:=Vj hG E6;refine Wnx trivial<|Vf 6 Z Kb Kb Z (fun _ _=>Vn Ky Kr Z Z Ka) trivial ?_;refine Wha [7]<|Wh1 Z<|Xe 0 Ks Z Z hB1 (by repeat (first | exact trivial | refine And.intro ⟨_,Z,Kc⟩ ?_)) (by simp only [List.length_cons,List.length_nil];omega) ?_;intro s1 hs1;refine Wnx trivial<|Vf 8 Z Kb Kb Z (fun _ _=>Ya Z Z (by simp <;> omega)) trivial ?_
  refine Vf 13 Z Kb Kb Z (fun _ _=>Ya Z Z (by simp <;> omega)) trivial ?_;refine Xv 14 Z Z trivial<|Vs Kb ?_;refine Vb ?_;refine Vk (v:=.string _) Z ?_;rotate_left;refine Zz<|Zu<|Vy Z<|Yu Z<|Zs<|Vb ?_;refine Vk (v:=.string _) Z ?_;rotate_left
 all_goals first
  | exact ⟨_,rfl,hG,hr2.le Ka,Ka⟩
  | exact ⟨_,rfl,hG,hr4.le Ka,by simp only [List.length_append,List.length_take,List.length_drop];omega⟩
  | exact ⟨_,rfl,hG,hr3.le Ka,by simp only [List.length_append,List.length_take,List.length_drop];omega⟩
end Go.Proofs.YtbgpppaljpngmaaGreatDoor
namespace Go.Hs
def Fm.holds (p:List (List Int)):Fm→Nat→Bool
 | .t,_=>true
 | .neg f,i=>!(f.holds p i)
 | .S f,i=>(arr p i).any (f.holds p)
 | .A f,i=>!((arr p i).any fun j=>!(f.holds p j))
 | .and f g,i=>f.holds p i && g.holds p i
 | .or f g,i=>f.holds p i || g.holds p i
end Go.Hs
namespace Go.Proofs.YtbgpppaljpngmaaGreatDoor
open Go.Hs
set_option maxRecDepth 10000
set_option maxHeartbeats 4000000
set_option linter.unusedVariables false
set_option linter.unusedSimpArgs false
theorem holds_ok (p:List (List Int)) (hp:Pic p) : ∀ (f:Fm) (w:World) (v pv:Value) (z:Int),EFm w v f→ESl Ints w pv p→0≤z∧z < p.length→f.enc.length≤1000 →
  Does Tryz.prog 160 [v,pv,.int .i64 z] w (Ret w (.bool (f.holds p z.toNat))):=by
 have hp5:=hp.2.1
 have harr : ∀ (w:World) (pv:Value) (z:Int),ESl Ints w pv p→0≤z∧z < p.length→Does Tryz.prog 130 [pv,.int .i64 z] w (RetO w XI (ints (arr p z.toNat))):=fun w pv z h hz =>
  Ql w pv p h z hz (by rw [Yo Ka,hp.row Ka];omega)
 have hmem : ∀ (z x:Int),0≤z∧z < p.length→x ∈ ints (arr p z.toNat)→0≤x∧x < p.length:=by
  intro z x hz hx
  simp only [ints,List.mem_map] at hx
  obtain ⟨j,hj,rfl⟩:=hx
  have:=((Qi hp (show z.toNat < p.length by omega)).1 hj).1
  omega
 intro f
 induction f with
 | t =>
   intro w v pv z hf hpv hz hl
   obtain ⟨pa, pc, rfl, _⟩ := id hpv
   obtain ⟨b, rfl, hB⟩ := hf
   refine Vu Tryz.func160 Z Tryz.results160 Tryz.ntmps160 Z ?_
   focus
     refine Zu<|Yx Z Z Z ?_; rintro b1 w1 hb1 E1 hB1; refine Yx Z Z Z ?_; rintro b2 w2 hb2 E2 hB2; refine Vd Z<|Zs<|Zw<|Zu<|Wo (v := .pointer _) Z (Yg Ju Z ((hB1.ext E2).cell Z))<|Wo Z (Xf Z)<|Vo Jk Ga Z<|Xa Gz (hB.ext exq) Z<|Zs<|Ve<|Zu<|Vr Z<|Vd Z<|Zs<|Vw Z fun h1 => ?_; refine Zu<|Vr Z<|Vd Z<|Zs<|Vw Z fun h2 => ?_; refine Zu<|Vr Z<|Vd Z<|Zs<|Vw Z fun h3 => ?_; refine Zu<|Vr Z<|Vd Z<|Zs<|Vw Z fun h4 => ?_; refine Zu<|Vr Z<|Vd Z<|Zs<|Vw Z fun h5 => ?_; refine Zz<|Zu<|Vd Z<|Zs<|Vb ?_; exact ⟨rfl, exq⟩
 | neg f ih =>
   intro w v pv z hf hpv hz hl
   have hl' : f.enc.length ≤ 1000 := by simp only [Fm.enc, List.length_cons] at hl; omega
   obtain ⟨pa, pc, rfl, _⟩ := id hpv
   obtain ⟨b, bp, u, rfl, hB, hBp, hu⟩ := hf
   have hP := hBp.vals (c := 1) Ki
   refine Vu Tryz.func160 Z Tryz.results160 Tryz.ntmps160 Z ?_
   focus
     refine Zu<|Yx Z Z Z ?_; rintro b1 w1 hb1 E1 hB1; refine Yx Z Z Z ?_; rintro b2 w2 hb2 E2 hB2; refine Vd Z<|Zs<|Zw<|Zu<|Wo (v := .pointer _) Z (Yg Ju Z ((hB1.ext E2).cell Z))<|Wo Z (Xf Z)<|Vo Jk Ga Z<|Xa Gz (hB.ext exq) Z<|Zs<|Ve<|Zu<|Vr Z<|Vd Z<|Zs<|Zx Z (fun h1 => ?_) (fun h1 => ?_); refine Zw<|Ul Xy Kb Z ?_; refine Xt (v := .pointer _) Z (fun w' hw' => Yg Ju Z (((hB1.ext E2).ext hw').cell Z)) ?_; refine Xt Z (fun _ _ => Xf Z) ?_; refine Qc Jk Gc Z<|Xt (v := .slice _ _ _) Z (fun w' hw' => Yg Zi Z (((hB.ext exq).ext hw').cell Z)) ?_
     refine Uk (k := 0) Gn Gp Ju Z (fun _ => Z) Z hP exq Z Kf ?_; rintro _ _ rfl; refine Xt (v := .slice _ _ _) Z (fun w' hw' => Yg Kx Z ((hB2.ext hw').cell Z)) ?_; refine Sa Z<|Qg Z (fun _ _ => Uv (b := .slice _ _ _) (c := .int _ _) Za Z Z Z) (fun w' hw' => (ih _ _ _ _ ((Mono.mono exq hu)) ((Mono.mono exq hpv)) Kd Kd)) ?_; refine Nr Z<|Na Z<|Ud (fun w3 E3 => ?_); refine Vb ?_; exact ⟨rfl, exq⟩; contradiction
 | S f ih =>
   intro w v pv z hf hpv hz hl
   have hl' : f.enc.length ≤ 1000 := by simp only [Fm.enc, List.length_cons] at hl; omega
   obtain ⟨pa, pc, rfl, _⟩ := id hpv
   obtain ⟨b, bp, u, rfl, hB, hBp, hu⟩ := hf
   have hP := hBp.vals (c := 1) Ki
   have hcl : ∀ (w1 : World) (b3 b4 : Nat) (x : Int), Ext w w1 → Blk w1 b3 [.pointer (some ⟨b, 0, none⟩)] → Blk w1 b4 [.slice pa p.length pc] → 0 ≤ x ∧ x < p.length → Does Tryz.prog 191 [.int .i64 x, .pointer (some ⟨b3, 0, none⟩), .pointer (some ⟨b4, 0, none⟩)] w1 (Ret w1 (.bool (f.holds p x.toNat))) := by
     intro w1 b3 b4 x E0 hB3 hB4 hx
     refine Vu Tryz.func191 Z Tryz.results191 Tryz.ntmps191 Z ?_
     focus
       refine Zu<|Vd Z<|Zs<|Zw<|Ul Xy Kb Z ?_; refine Xt (v := .pointer _) Z (fun w' hw' => Yg Ju Z ((hB3.ext hw').cell Z)) ?_; refine Xt Z (fun _ _ => Xf Z) ?_; refine Qc Jk Gc Z<|Xt (v := .slice _ _ _) Z (fun w' hw' => Yg Zi Z (((hB.ext E0).ext hw').cell Z)) ?_; refine Uk (k := 0) Gn Gp Ju Z (fun _ => Z) Z hP E0 Z Kf ?_; rintro _ _ rfl; refine Xt (v := .slice _ _ _) Z (fun w' hw' => Yg Kx Z ((hB4.ext hw').cell Z)) ?_; refine Sa Z<|Qg Z (fun _ _ => Uv (b := .slice _ _ _) (c := .int _ _) Za Z Z Z) (fun w' hw' => (ih _ _ _ _ ((Mono.mono exq hu)) ((Mono.mono exq hpv)) Kd Kd)) ?_
       refine Na Z<|Ud (fun w2 E1 => ?_); refine Vb ?_; exact ⟨rfl, E1⟩
   have hcon : ∀ (w1 : World) (u : Value) (b3 b4 : Nat), Ext w w1 → Blk w1 b3 [.pointer (some ⟨b, 0, none⟩)] → Blk w1 b4 [.slice pa p.length pc] → Ints w1 u (ints (arr p z.toNat)) → Does Tryz.prog 146 [u, .func (.func 191) [].toArray [.pointer (some ⟨b3, 0, none⟩), .pointer (some ⟨b4, 0, none⟩)].toArray] w1 (Ret w1 (.bool ((Fm.S f).holds p z.toNat))) := by
     intro w1 u b3 b4 E0 hB3 hB4 hu
     have := Rk w1 u _ hu 191 [.pointer (some ⟨b3, 0, none⟩), .pointer (some ⟨b4, 0, none⟩)] (fun x => f.holds p x.toNat) Tryz.call191 (fun x w' hx e => hcl w' b3 b4 x (E0.trans e) (hB3.ext e) (hB4.ext e) (hmem z x hz hx))
     rw [any_ints] at this
     exact this
   refine Vu Tryz.func160 Z Tryz.results160 Tryz.ntmps160 Z ?_
   focus
     refine Zu<|Yx Z Z Z ?_; rintro b1 w1 hb1 E1 hB1; refine Yx Z Z Z ?_; rintro b2 w2 hb2 E2 hB2; refine Vd Z<|Zs<|Zw<|Zu<|Wo (v := .pointer _) Z (Yg Ju Z ((hB1.ext E2).cell Z))<|Wo Z (Xf Z)<|Vo Jk Ga Z<|Xa Gz (hB.ext exq) Z<|Zs<|Ve<|Zu<|Vr Z<|Vd Z<|Zs<|Vw Z fun h1 => ?_; refine Zu<|Vr Z<|Vd Z<|Zs<|Zx Z (fun h2 => ?_) (fun h2 => ?_); refine Zu<|Qk Kx hB2 Z<|Vc Z<|Zv Z (Yd (a := .slice _ _ _) (b := .int _ _) Jz Z Z) (harr _ _ _ ((Mono.mono exq hpv)) Kd) ?_; rintro u1 w3 ⟨E3, hO1⟩
     refine Wo Z (Qz Z Z)<|Zv Z (Yd (a := u1) (b := .func _ _ _) Zf Z Z) (hcon _ _ _ _ exq ((hB1.ext exq)) ((hB2.ext E3)) ((Owned.read hO1))) ?_; rintro _ w4 ⟨rfl, E4⟩; refine Vd Z<|Zs<|Vb ?_; exact ⟨rfl, exq⟩; contradiction
 | A f ih =>
   intro w v pv z hf hpv hz hl
   have hl' : f.enc.length ≤ 1000 := by simp only [Fm.enc, List.length_cons] at hl; omega
   obtain ⟨pa, pc, rfl, _⟩ := id hpv
   obtain ⟨b, bp, u, rfl, hB, hBp, hu⟩ := hf
   have hP := hBp.vals (c := 1) Ki
   have hcl : ∀ (w1 : World) (b3 b4 : Nat) (x : Int), Ext w w1 → Blk w1 b3 [.pointer (some ⟨b, 0, none⟩)] → Blk w1 b4 [.slice pa p.length pc] → 0 ≤ x ∧ x < p.length → Does Tryz.prog 192 [.int .i64 x, .pointer (some ⟨b3, 0, none⟩), .pointer (some ⟨b4, 0, none⟩)] w1 (Ret w1 (.bool (!(f.holds p x.toNat)))) := by
     intro w1 b3 b4 x E0 hB3 hB4 hx
     refine Vu Tryz.func192 Z Tryz.results192 Tryz.ntmps192 Z ?_
     focus
       refine Zu<|Vd Z<|Zs<|Zw<|Ul Xy Kb Z ?_; refine Xt (v := .pointer _) Z (fun w' hw' => Yg Ju Z ((hB3.ext hw').cell Z)) ?_; refine Xt Z (fun _ _ => Xf Z) ?_; refine Qc Jk Gc Z<|Xt (v := .slice _ _ _) Z (fun w' hw' => Yg Zi Z (((hB.ext E0).ext hw').cell Z)) ?_; refine Uk (k := 0) Gn Gp Ju Z (fun _ => Z) Z hP E0 Z Kf ?_; rintro _ _ rfl; refine Xt (v := .slice _ _ _) Z (fun w' hw' => Yg Kx Z ((hB4.ext hw').cell Z)) ?_; refine Sa Z<|Qg Z (fun _ _ => Uv (b := .slice _ _ _) (c := .int _ _) Za Z Z Z) (fun w' hw' => (ih _ _ _ _ ((Mono.mono exq hu)) ((Mono.mono exq hpv)) Kd Kd)) ?_
       refine Nr Z<|Na Z<|Ud (fun w2 E1 => ?_); refine Vb ?_; exact ⟨rfl, E1⟩
   have hcon : ∀ (w1 : World) (u : Value) (b3 b4 : Nat), Ext w w1 → Blk w1 b3 [.pointer (some ⟨b, 0, none⟩)] → Blk w1 b4 [.slice pa p.length pc] → Ints w1 u (ints (arr p z.toNat)) → Does Tryz.prog 146 [u, .func (.func 192) [].toArray [.pointer (some ⟨b3, 0, none⟩), .pointer (some ⟨b4, 0, none⟩)].toArray] w1 (Ret w1 (.bool ((arr p z.toNat).any fun j => !(f.holds p j)))) := by
     intro w1 u b3 b4 E0 hB3 hB4 hu
     have := Rk w1 u _ hu 192 [.pointer (some ⟨b3, 0, none⟩), .pointer (some ⟨b4, 0, none⟩)] (fun x => !(f.holds p x.toNat)) Tryz.call192 (fun x w' hx e => hcl w' b3 b4 x (E0.trans e) (hB3.ext e) (hB4.ext e) (hmem z x hz hx))
     rw [any_ints _ (fun j => !(f.holds p j))] at this
     exact this
   refine Vu Tryz.func160 Z Tryz.results160 Tryz.ntmps160 Z ?_
   focus
     refine Zu<|Yx Z Z Z ?_; rintro b1 w1 hb1 E1 hB1; refine Yx Z Z Z ?_; rintro b2 w2 hb2 E2 hB2; refine Vd Z<|Zs<|Zw<|Zu<|Wo (v := .pointer _) Z (Yg Ju Z ((hB1.ext E2).cell Z))<|Wo Z (Xf Z)<|Vo Jk Ga Z<|Xa Gz (hB.ext exq) Z<|Zs<|Ve<|Zu<|Vr Z<|Vd Z<|Zs<|Vw Z fun h1 => ?_; refine Zu<|Vr Z<|Vd Z<|Zs<|Vw Z fun h2 => ?_; refine Zu<|Vr Z<|Vd Z<|Zs<|Zx Z (fun h3 => ?_) (fun h3 => ?_); refine Zu<|Qk Kx hB2 Z<|Vc Z<|Zv Z (Yd (a := .slice _ _ _) (b := .int _ _) Jz Z Z) (harr _ _ _ ((Mono.mono exq hpv)) Kd) ?_; rintro u1 w3 ⟨E3, hO1⟩
     refine Wo Z (Qz Z Z)<|Zv Z (Yd (a := u1) (b := .func _ _ _) Zf Z Z) (hcon _ _ _ _ exq ((hB1.ext exq)) ((hB2.ext E3)) ((Owned.read hO1))) ?_; rintro _ w4 ⟨rfl, E4⟩; refine Xd Z<|Vd Z<|Zs<|Vb ?_; exact ⟨rfl, exq⟩; contradiction
 | and f g ih1 ih2 =>
   intro w v pv z hf hpv hz hl
   have hl' : f.enc.length ≤ 1000 ∧ g.enc.length ≤ 1000 := by simp [Fm.enc] at hl; omega
   have hl1 := hl'.1
   have hl2 := hl'.2
   obtain ⟨pa, pc, rfl, _⟩ := id hpv
   obtain ⟨b, bp, u, u', rfl, hB, hBp, hu, hu'⟩ := hf
   have hP := hBp.vals (c := 2) Ki
   have h1 : ∀ w' (q : Value) (zz : Int), EFm w' u f → ESl Ints w' q p → 0 ≤ zz ∧ zz < p.length → Does Tryz.prog 160 [u, q, .int .i64 zz] w' (Ret w' (.bool (f.holds p zz.toNat))) := fun w' q zz e1 e2 e3 => ih1 w' u q zz e1 e2 e3 hl1
   have h2 : ∀ w' (q : Value) (zz : Int), EFm w' u' g → ESl Ints w' q p → 0 ≤ zz ∧ zz < p.length → Does Tryz.prog 160 [u', q, .int .i64 zz] w' (Ret w' (.bool (g.holds p zz.toNat))) := fun w' q zz e1 e2 e3 => ih2 w' u' q zz e1 e2 e3 hl2
   refine Vu Tryz.func160 Z Tryz.results160 Tryz.ntmps160 Z ?_
   focus
     refine Zu<|Yx Z Z Z ?_; rintro b1 w1 hb1 E1 hB1; refine Yx Z Z Z ?_; rintro b2 w2 hb2 E2 hB2; refine Vd Z<|Zs<|Zw<|Zu<|Wo (v := .pointer _) Z (Yg Ju Z ((hB1.ext E2).cell Z))<|Wo Z (Xf Z)<|Vo Jk Ga Z<|Xa Gz (hB.ext exq) Z<|Zs<|Ve<|Zu<|Vr Z<|Vd Z<|Zs<|Vw Z fun h3 => ?_; refine Zu<|Vr Z<|Vd Z<|Zs<|Vw Z fun h4 => ?_; refine Zu<|Vr Z<|Vd Z<|Zs<|Vw Z fun h5 => ?_; refine Zu<|Vr Z<|Vd Z<|Zs<|Zx Z (fun h6 => ?_) (fun h6 => ?_); refine Zw<|Ul Xy Kb Z ?_; refine Xt (v := .pointer _) Z (fun w' hw' => Yg Ju Z (((hB1.ext E2).ext hw').cell Z)) ?_
     refine Xt Z (fun _ _ => Xf Z) ?_; refine Qc Jk Gc Z<|Xt (v := .slice _ _ _) Z (fun w' hw' => Yg Zi Z (((hB.ext exq).ext hw').cell Z)) ?_; refine Uk (k := 0) Gn Gp Ju Z (fun _ => Z) Z hP exq Z Kf ?_; rintro _ _ rfl; refine Xt (v := .slice _ _ _) Z (fun w' hw' => Yg Kx Z ((hB2.ext hw').cell Z)) ?_; refine Sa Z<|Qg Z (fun _ _ => Uv (b := .slice _ _ _) (c := .int _ _) Za Z Z Z) (fun w' hw' => (h1 _ _ _ ((Mono.mono exq hu)) ((Mono.mono exq hpv)) Kd)) ?_; refine Rw Z (fun _ _ => Yh (v := .bool _) Z) (fun h7 => ?_) (fun h7 => ?_); refine Xt (v := .pointer _) Z (fun w' hw' => Yg Ju Z (((hB1.ext E2).ext hw').cell Z)) ?_
     refine Xt Z (fun _ _ => Xf Z) ?_; refine Qc Jk Gc Z<|Xt (v := .slice _ _ _) Z (fun w' hw' => Yg Zi Z (((hB.ext exq).ext hw').cell Z)) ?_; refine Uk (k := 1) Gn Gp Ju Z (fun _ => Z) Z hP exq Z Kf ?_; rintro _ _ rfl; refine Xt (v := .slice _ _ _) Z (fun w' hw' => Yg Kx Z ((hB2.ext hw').cell Z)) ?_; refine Sa Z<|Qg Z (fun _ _ => Uv (b := .slice _ _ _) (c := .int _ _) Za Z Z Z) (fun w' hw' => (h2 _ _ _ ((Mono.mono exq hu')) ((Mono.mono exq hpv)) Kd)) ?_; refine Ni Z<|Na Z<|Ud (fun w3 E3 => ?_); refine Vb ?_; refine Vk (v := .bool _) Z ?_; refine ⟨congrArg Value.bool ?_, exq⟩; rotate_left
     refine Vg Z<|Vg Z<|Vg Z<|Vg Z<|Vg Z<|Vg Z<|Vg Z<|Vg Z<|Vg Z<|Rq Z<|Na Z<|Ud (fun w3 E3 => ?_); refine Vb ?_; refine Vk (v := .bool _) Z ?_; refine ⟨congrArg Value.bool ?_, exq⟩; rotate_left; contradiction
   all_goals
     have hc : Fm.holds p (f.and g) z.toNat = (f.holds p z.toNat && g.holds p z.toNat) := rfl
     rw [hc]
     first
       | (rw [show f.holds p z.toNat = true from by assumption]; rfl)
       | (rw [show f.holds p z.toNat = false from by assumption]; rfl)
 | or f g ih1 ih2 =>
   intro w v pv z hf hpv hz hl
   have hl' : f.enc.length ≤ 1000 ∧ g.enc.length ≤ 1000 := by simp [Fm.enc] at hl; omega
   have hl1 := hl'.1
   have hl2 := hl'.2
   obtain ⟨pa, pc, rfl, _⟩ := id hpv
   obtain ⟨b, bp, u, u', rfl, hB, hBp, hu, hu'⟩ := hf
   have hP := hBp.vals (c := 2) Ki
   have h1 : ∀ w' (q : Value) (zz : Int), EFm w' u f → ESl Ints w' q p → 0 ≤ zz ∧ zz < p.length → Does Tryz.prog 160 [u, q, .int .i64 zz] w' (Ret w' (.bool (f.holds p zz.toNat))) := fun w' q zz e1 e2 e3 => ih1 w' u q zz e1 e2 e3 hl1
   have h2 : ∀ w' (q : Value) (zz : Int), EFm w' u' g → ESl Ints w' q p → 0 ≤ zz ∧ zz < p.length → Does Tryz.prog 160 [u', q, .int .i64 zz] w' (Ret w' (.bool (g.holds p zz.toNat))) := fun w' q zz e1 e2 e3 => ih2 w' u' q zz e1 e2 e3 hl2
   refine Vu Tryz.func160 Z Tryz.results160 Tryz.ntmps160 Z ?_
   focus
     refine Zu<|Yx Z Z Z ?_; rintro b1 w1 hb1 E1 hB1; refine Yx Z Z Z ?_; rintro b2 w2 hb2 E2 hB2; refine Vd Z<|Zs<|Zw<|Zu<|Wo (v := .pointer _) Z (Yg Ju Z ((hB1.ext E2).cell Z))<|Wo Z (Xf Z)<|Vo Jk Ga Z<|Xa Gz (hB.ext exq) Z<|Zs<|Ve<|Zu<|Vr Z<|Vd Z<|Zs<|Vw Z fun h3 => ?_; refine Zu<|Vr Z<|Vd Z<|Zs<|Vw Z fun h4 => ?_; refine Zu<|Vr Z<|Vd Z<|Zs<|Vw Z fun h5 => ?_; refine Zu<|Vr Z<|Vd Z<|Zs<|Vw Z fun h6 => ?_; refine Zu<|Vr Z<|Vd Z<|Zs<|Zx Z (fun h7 => ?_) (fun h7 => ?_); refine Zw<|Ul Xy Kb Z ?_
     refine Xt (v := .pointer _) Z (fun w' hw' => Yg Ju Z (((hB1.ext E2).ext hw').cell Z)) ?_; refine Xt Z (fun _ _ => Xf Z) ?_; refine Qc Jk Gc Z<|Xt (v := .slice _ _ _) Z (fun w' hw' => Yg Zi Z (((hB.ext exq).ext hw').cell Z)) ?_; refine Uk (k := 0) Gn Gp Ju Z (fun _ => Z) Z hP exq Z Kf ?_; rintro _ _ rfl; refine Xt (v := .slice _ _ _) Z (fun w' hw' => Yg Kx Z ((hB2.ext hw').cell Z)) ?_; refine Sa Z<|Qg Z (fun _ _ => Uv (b := .slice _ _ _) (c := .int _ _) Za Z Z Z) (fun w' hw' => (h1 _ _ _ ((Mono.mono exq hu)) ((Mono.mono exq hpv)) Kd)) ?_; refine Rw Z (fun _ _ => Yh (v := .bool _) Z) (fun h8 => ?_) (fun h8 => ?_)
     refine Vg Z<|Vg Z<|Vg Z<|Vg Z<|Vg Z<|Vg Z<|Vg Z<|Vg Z<|Vg Z<|Ni Z<|Na Z<|Ud (fun w3 E3 => ?_); refine Vb ?_; refine Vk (v := .bool _) Z ?_; refine ⟨congrArg Value.bool ?_, exq⟩; rotate_left; refine Xt (v := .pointer _) Z (fun w' hw' => Yg Ju Z (((hB1.ext E2).ext hw').cell Z)) ?_; refine Xt Z (fun _ _ => Xf Z) ?_; refine Qc Jk Gc Z<|Xt (v := .slice _ _ _) Z (fun w' hw' => Yg Zi Z (((hB.ext exq).ext hw').cell Z)) ?_; refine Uk (k := 1) Gn Gp Ju Z (fun _ => Z) Z hP exq Z Kf ?_; rintro _ _ rfl; refine Xt (v := .slice _ _ _) Z (fun w' hw' => Yg Kx Z ((hB2.ext hw').cell Z)) ?_
     refine Sa Z<|Qg Z (fun _ _ => Uv (b := .slice _ _ _) (c := .int _ _) Za Z Z Z) (fun w' hw' => (h2 _ _ _ ((Mono.mono exq hu')) ((Mono.mono exq hpv)) Kd)) ?_; refine Rq Z<|Na Z<|Ud (fun w3 E3 => ?_); refine Vb ?_; refine Vk (v := .bool _) Z ?_; refine ⟨congrArg Value.bool ?_, exq⟩; rotate_left; contradiction
   all_goals
     have hc : Fm.holds p (f.or g) z.toNat = (f.holds p z.toNat || g.holds p z.toNat) := rfl
     rw [hc]
     first
       | (rw [show f.holds p z.toNat = true from by assumption]; rfl)
       | (rw [show f.holds p z.toNat = false from by assumption]; rfl)
noncomputable def holdsV (s:List UInt8) (p:List (List Int)) (z:Int):Bool:=match theF s with
 | some f=>decide (Nod p z) && f.holds p z.toNat
 | none=>false
open Go.Lib (decDigits)
theorem dec_len : ∀ (m n:Nat),n≤m→(decDigits n).length≤n+1:=by
 intro m
 induction m with
 | zero=>intro n h;rw [decDigits,dif_pos Ka];simp
 | succ m ih =>
   intro n h
   rw [decDigits]
   split
   · simp
   · have := ih (n / 10) Ka
     simp only [List.length_append, List.length_cons, List.length_nil]; omega
theorem l1Num_ok : ∀ (m n:Nat),n≤m→n≤1000000→∀ (w:World),Does Tryz.prog 64 [.int .i64 (n:Int)] w (Ret w (str (decDigits n))):=by
 intro m
 induction m with
 | zero =>
   intro n hm hn w
   have := Tx w n Ka
   rwa [show decDigits n = [dig n] by rw [decDigits, dif_pos Ka]; rfl]
 | succ m ih =>
   intro n hm hn w
   by_cases h10 : n < 10
   · have := Tx w n h10
     rwa [show decDigits n = [dig n] by rw [decDigits, dif_pos h10]; rfl]
   · have hd := dec_len _ (n / 10) (Nat.le_refl _)
     have k1 : ∀ w, Does Tryz.prog 64 [.int .i64 ((n : Int) / 10)] w (Ret w (str (decDigits (n / 10)))) := fun w => by
       have := ih (n / 10) Ka Ka w
       rwa [show ((n / 10 : Nat) : Int) = (n : Int) / 10 by omega] at this
     refine Vu Tryz.func64 Z Tryz.results64 Tryz.ntmps64 Z ?_
     have e : decDigits n = decDigits (n / 10) ++ [UInt8.ofNat (48 + n % 10)] := by conv => lhs; rw [decDigits, dif_neg h10]
     have e2 : (48 + (n : Int) % 10).toNat = 48 + n % 10 := Ka
     focus
       refine Zu<|Yu Z<|Zs<|Zw<|Zu<|Vc Z<|Yc Z<|Zs<|Zy Z fun h1 => ?_; refine Zz<|Zw<|Qr (fun _ => True) Xy Z Kb ?_; intro w1 E1 K1 hz1; refine Nh 0 Z Z trivial<|Vf 1 Z Kb Kb Z (fun _ _ => Qj Z Z Ka) trivial ?_; refine Nh 3 Z Z trivial<|Vf 4 Z Kb Kb Z (fun _ _ => Mv Z Z Ka) trivial ?_; refine Vf 5 Z Kb Kb Z (fun _ _ => Ub Z Z Ka) trivial ?_; refine Vf 6 Z Kb Kb Z (fun _ _ => opv_conv_u8 Gm Jx Z Ka) trivial ?_; refine Wha [2, 7]<|Vi Z ?_ ?_; refine Zv Z (Yl (a := .int _ _) Jt Z) (k1 _) ?_; rintro _ w2 ⟨rfl, E2⟩
       refine Wnx trivial<|Wha [7]<|Wh1 Z<|Yj (ps := [(0, .int _ _)]) (cs := [_]) Z Jp Ga Tryz.zeroValue5 Z Z Z Z ?_; rintro b1 w3 hb1 E3 hB1 hHb1; refine Wnx trivial<|Wha [8]<|Wh1 Z<|Wo Z (Nx Jp Jx Ku Z Kd) ?_; refine Wnx trivial<|Vf 9 Z Kb Kb Z (fun _ _ => Ya Z Z (by simp <;> omega)) trivial ?_; refine Xv 10 Z Z trivial<|Vs Kb ?_; refine Vb ?_; refine Vk (v := .string _) Z ?_; refine ⟨congrArg str ?_, exq⟩; rotate_left; refine Wh1 Z<|Yj (ps := [(0, .int _ _)]) (cs := [_]) Z Jp Ga Tryz.zeroValue5 Z Z Z Z ?_; rintro b1 w2 hb1 E2 hB1 hHb1; refine Wnx trivial<|Wha [2, 8]<|Vi Z ?_ ?_
       refine Zv Z (Yl (a := .int _ _) Jt Z) (k1 _) ?_; rintro _ w3 ⟨rfl, E3⟩; refine Wnx trivial<|Wha [8]<|Wh1 Z ?_; rotate_left; refine Wh1 Z<|Wo Z (Nx Jp Jx Ku Z Kd) ?_; refine Wnx trivial<|Wha [2]<|Wh1 Z<|Zv Z (Yl (a := .int _ _) Jt Z) (k1 _) ?_; rintro _ w3 ⟨rfl, E3⟩; refine Wnx trivial<|Vf 9 Z Kb Kb Z (fun _ _ => Ya Z Z (by simp <;> omega)) trivial ?_; refine Xv 10 Z Z trivial<|Vs Kb ?_; refine Vb ?_; refine Vk (v := .string _) Z ?_; refine ⟨congrArg str ?_, exq⟩; rotate_left
     · rw [e, e2]
     · have hB1 := hB1.ext E3
       focus
         refine Wo Z (Nx Jp Jx Ku Z Kd) ?_; refine Wnx trivial<|Vf 9 Z Kb Kb Z (fun _ _ => Ya Z Z (by simp <;> omega)) trivial ?_; refine Xv 10 Z Z trivial<|Vs Kb ?_; refine Vb ?_; refine Vk (v := .string _) Z ?_; refine ⟨congrArg str ?_, exq⟩
       rw [e, e2]
     · rw [e, e2]
open Go.Shelf in
shelf_lay LaysM.n171 Nm 171 at Tryz as Tryz.laysItoaM
def ETb : World → Value → Unit → Prop := fun w _ _ => Go.Lib.TabIs Tryz.prog w "internal/strconv.uint64pow10" .u64 Go.Lib.pow10Tab
instance:Mono ETb:=⟨fun {w w' _ _} e h=>by
 unfold ETb Go.Lib.TabIs World.var? at h ⊢
 cases hg : Tryz.prog.globalNamed "internal/strconv.uint64pow10" with
 | none=>rw [hg] at h;cases h
 | some g =>
   rw [hg] at h
   simp only [Option.bind_some] at h ⊢
   cases hb : w.heap[g]? with
   | none => rw [hb] at h; cases h
   | some o =>
     rw [hb] at h
     rw [e.block g (Array.getElem?_eq_some_iff.1 hb).1, hb]
     exact h⟩
theorem ItoaN_ok (w:World) (hT:ETb w (.bool true) ()) (n:Nat) (h:n≤1000000):Does Tryz.prog 131 [.int .i64 (n:Int)] w (Ret w (str (decDigits n))):=by
 unfold Does
 refine Calls.mono (show Calls Tryz.prog 131 _ w _ from Go.Proofs.Any.strconv_Itoa Tryz.laysItoaM (n:Int) Ka Ka w hT) ?_
 rintro e w' ⟨he,k,os,rfl⟩
 refine ⟨_,he,?_,?_⟩
 ·unfold Go.Lib.itoa
  rw [if_neg Ka];simp [str]
 ·exact ⟨rfl,rfl,rfl,by show w.heap.size≤(w.heap++os).size;simp,fun i hi=>by show (w.heap++os)[i]? = _;exact Array.getElem?_append_left hi⟩
end Go.Proofs.YtbgpppaljpngmaaGreatDoor
