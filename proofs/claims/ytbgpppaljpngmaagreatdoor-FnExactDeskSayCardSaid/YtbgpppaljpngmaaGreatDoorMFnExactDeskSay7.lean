/- Lemmas for FnExactDeskSay. -/
import Derived.Test.YtbgpppaljpngmaaGreatDoorMFnExactDeskSay6
namespace Go.Proofs.YtbgpppaljpngmaaGreatDoor
open Go.Hs
set_option maxRecDepth 10000
set_option maxHeartbeats 4000000
set_option linter.unusedVariables false
set_option linter.unusedSimpArgs false
theorem arr_any {p:List (List Int)} (hp:Pic p) {i:Nat} (hi:i < p.length) (g:Nat→Bool):(arr p i).any g=(List.range p.length).any fun j=>decide (p[i].getD j 0=1) && g j:=by
 unfold arr arrR
 rw [Ya hi,hp.row hi,List.any_filter]
theorem mid_end {h f g:Fm} {c:UInt8} (he:h.enc=40::(f.enc++c::(g.enc++[41]))):endV (h.enc.drop 1) h.enc.length=((f.enc.length+1:Nat):Int):=by
 rw [endV,Sg (l:=h.enc.drop 1) (f:=f) (r:=c::(g.enc++[41])) (by rw [he];rfl)]
 have hlen:h.enc.length=f.enc.length+g.enc.length+3:=by rw [he];simp;omega
 simp only [List.length_cons,List.length_append,List.length_nil]
 omega
theorem mid_right {h f g:Fm} {c:UInt8} (he:h.enc=40::(f.enc++c::(g.enc++[41]))):(h.enc.drop (((f.enc.length+1:Nat):Int)+1).toNat).take (((h.enc.length:Int) - 1).toNat - (((f.enc.length+1:Nat):Int)+1).toNat)=g.enc:=by
 have hlen:h.enc.length=f.enc.length+g.enc.length+3:=by rw [he];simp;omega
 have a1:(((f.enc.length+1:Nat):Int)+1).toNat=f.enc.length+2:=Ka
 have a2:((h.enc.length:Int) - 1).toNat=f.enc.length+g.enc.length+2:=Ka
 have a3:f.enc.length+g.enc.length+2 - (f.enc.length+2)=g.enc.length:=Ka
 rw [a1,a2,a3,he]
 have:f.enc.length+2=(f.enc.length+1)+1:=rfl
 rw [this,List.drop_succ_cons,List.drop_append,List.drop_eq_nil_of_le Ka]
 simp
theorem mid_sign {h f g:Fm} {c:UInt8} (he:h.enc=40::(f.enc++c::(g.enc++[41]))):(h.enc.getD (f.enc.length+1) 0).toNat=c.toNat:=by
 rw [he,List.getD_cons_succ,List.getD_eq_getElem?_getD,List.getElem?_append_right (Nat.le_refl _)];simp
theorem l10Holds_ok (p:List (List Int)) (hp:Pic p) : ∀ (f:Fm) (w:World) (pv:Value) (z:Int),ESl Ints w pv p→0≤z∧z < p.length→f.enc.length≤60 →
  Does Tryz.prog 164 [str f.enc,pv,.int .i64 z] w (Ret w (.bool (f.holds p z.toNat))):=by
 have hp5:=hp.2.1
 have bin : ∀ (h f g:Fm) (c:UInt8),h.enc=40::(f.enc++c::(g.enc++[41]))→(c=38∧(∀ i,h.holds p i=(f.holds p i && g.holds p i))∨c=124∧(∀ i,h.holds p i=(f.holds p i || g.holds p i))) →
   (∀ (w:World) (pv:Value) (z:Int),ESl Ints w pv p→0≤z∧z < p.length→f.enc.length≤60→Does Tryz.prog 164 [str f.enc,pv,.int .i64 z] w (Ret w (.bool (f.holds p z.toNat)))) →
   (∀ (w:World) (pv:Value) (z:Int),ESl Ints w pv p→0≤z∧z < p.length→g.enc.length≤60→Does Tryz.prog 164 [str g.enc,pv,.int .i64 z] w (Ret w (.bool (g.holds p z.toNat)))) →
   ∀ (w:World) (pv:Value) (z:Int),ESl Ints w pv p→0≤z∧z < p.length→h.enc.length≤60→Does Tryz.prog 164 [str h.enc,pv,.int .i64 z] w (Ret w (.bool (h.holds p z.toNat))):=by
  intro h f g c he hcd ih1 ih2 w pv z hpv hz h60
  have hlen:h.enc.length=f.enc.length+g.enc.length+3:=by rw [he];simp;omega
  have hn:(h.enc.getD 0 0).toNat=40:=by rw [he];rfl
  have hend : ∀ w,Does Tryz.prog 163 [str h.enc,.int .i64 1] w (Ret w (.int .i64 ((f.enc.length+1:Nat):Int))):=fun w=>by
   have:=l10End_ok _ h.enc 1 w (by unfold lim;omega) (Nat.le_refl _)
   rw [mid_end he] at this
   exact this
  have e1:(h.enc.drop 1).take (f.enc.length+1 - 1)=f.enc:=by rw [he];simp
  have hmid:=mid_sign he
  have i1 : ∀ (w:World) (pv:Value),ESl Ints w pv p→Does Tryz.prog 164 [str ((h.enc.drop 1).take (f.enc.length+1 - 1)),pv,.int .i64 z] w (Ret w (.bool (f.holds p z.toNat))):=fun w pv h9=>by rw [e1];exact ih1 w pv z h9 hz Ka
  have i2 : ∀ (w:World) (pv:Value),ESl Ints w pv p→Does Tryz.prog 164 [str ((h.enc.drop (((f.enc.length+1:Nat):Int)+1).toNat).take (((h.enc.length:Int) - 1).toNat - (((f.enc.length+1:Nat):Int)+1).toNat)),pv,.int .i64 z] w (Ret w (.bool (g.holds p z.toNat))) :=
   fun w pv h9=>by rw [mid_right he];exact ih2 w pv z h9 hz Ka
  clear e1 ih1 ih2 he
  generalize f.enc.length=m1 at *
  rcases hcd with ⟨rfl,hc⟩ | ⟨rfl,hc⟩
  ·rw [hc]
   have hm:(h.enc.getD (m1+1) 0).toNat=38:=hmid
   refine Vh Tryz.func164 Z Tryz.results164 Tryz.ntmps164 Z ?_
   focus
    refine Zp<|Zz Z<|Zn<|Zq<|Zp<|Vo Z<|Wo Z (Vl (k:=0) Kr Z Z Ka) ?_;refine Zn<|Zw<|Zp<|Vm Z<|Zz Z<|Zn<|Zt Z fun h1=>?_;refine Zp<|Vm Z<|Zz Z<|Zn<|Zt Z fun h2=>?_;refine Zp<|Vm Z<|Zz Z<|Zn<|Zt Z fun h3=>?_;refine Zp<|Vm Z<|Zz Z<|Zn<|Zt Z fun h4=>?_;refine Zv<|Zp<|Vo Z<|Zr Z (Yg (a:=.string _) (b:=.int _ _) Jn Z Z) (hend _) ?_;rintro _ w1 ⟨rfl,E1⟩;refine Vg Z<|Zn<|Zp<|Vo Z<|Zu Z<|Wo Z (Tb (l:=1) Kr Z Z Z Ka) ?_
    refine Vb pv Z<|Zu Z<|Zr Z (Ud (a:=.string _) (b:=pv) (c:=.int _ _) Gq Z Z Z) (i1 _ _ ((Mono.mono E1 hpv))) ?_;rintro _ w2 ⟨rfl,E2⟩;refine Zz Z<|Zn<|Zp<|Vo Z<|Zu Z<|Vr Z<|Vo Z<|Wo Z (Yc Kr Z)<|Qm Z<|Wo Z (opv_slice_str_z Kr Z Z Z Ka) ?_;refine Vb pv Z<|Zu Z<|Zr Z (Ud (a:=.string _) (b:=pv) (c:=.int _ _) Gq Z Z Z) (i2 _ _ ((Mono.mono exq hpv))) ?_;rintro _ w3 ⟨rfl,E3⟩;refine Zz Z<|Zn<|Zq<|Zp<|Vo Z<|Zu Z<|Wo Z (Vl Kr Z Z Ka) ?_;refine Vm Z<|Zn<|Zs Z (fun h5=>?_) (fun h5=>?_);refine Zp<|Yi Z<|Yn Z (Vq (v:=.bool _) Z) (fun h6=>?_) (fun h6=>?_)
    refine Yi Z<|Yq Z<|Zz Z<|Zn<|Zy ?_;refine Ve (v:=.bool _) Z ?_;refine ⟨congrArg Value.bool ?_,exq⟩;rotate_left;refine Zo Z<|Vp Z<|Zz Z<|Zn<|Zy ?_;refine Ve (v:=.bool _) Z ?_;refine ⟨congrArg Value.bool ?_,exq⟩;rotate_left;(exfalso;omega)
   all_goals first
    | (rw [show f.holds p z.toNat=true from by assumption];rfl)
    | (rw [show f.holds p z.toNat=false from by assumption];rfl)
  ·rw [hc]
   have hm:(h.enc.getD (m1+1) 0).toNat=124:=hmid
   refine Vh Tryz.func164 Z Tryz.results164 Tryz.ntmps164 Z ?_
   focus
    refine Zp<|Zz Z<|Zn<|Zq<|Zp<|Vo Z<|Wo Z (Vl (k:=0) Kr Z Z Ka) ?_;refine Zn<|Zw<|Zp<|Vm Z<|Zz Z<|Zn<|Zt Z fun h1=>?_;refine Zp<|Vm Z<|Zz Z<|Zn<|Zt Z fun h2=>?_;refine Zp<|Vm Z<|Zz Z<|Zn<|Zt Z fun h3=>?_;refine Zp<|Vm Z<|Zz Z<|Zn<|Zt Z fun h4=>?_;refine Zv<|Zp<|Vo Z<|Zr Z (Yg (a:=.string _) (b:=.int _ _) Jn Z Z) (hend _) ?_;rintro _ w1 ⟨rfl,E1⟩;refine Vg Z<|Zn<|Zp<|Vo Z<|Zu Z<|Wo Z (Tb (l:=1) Kr Z Z Z Ka) ?_
    refine Vb pv Z<|Zu Z<|Zr Z (Ud (a:=.string _) (b:=pv) (c:=.int _ _) Gq Z Z Z) (i1 _ _ ((Mono.mono E1 hpv))) ?_;rintro _ w2 ⟨rfl,E2⟩;refine Zz Z<|Zn<|Zp<|Vo Z<|Zu Z<|Vr Z<|Vo Z<|Wo Z (Yc Kr Z)<|Qm Z<|Wo Z (opv_slice_str_z Kr Z Z Z Ka) ?_;refine Vb pv Z<|Zu Z<|Zr Z (Ud (a:=.string _) (b:=pv) (c:=.int _ _) Gq Z Z Z) (i2 _ _ ((Mono.mono exq hpv))) ?_;rintro _ w3 ⟨rfl,E3⟩;refine Zz Z<|Zn<|Zq<|Zp<|Vo Z<|Zu Z<|Wo Z (Vl Kr Z Z Ka) ?_;refine Vm Z<|Zn<|Zt Z fun h5=>?_;refine Zv<|Zp<|Yi Z<|Yn Z (Vq (v:=.bool _) Z) (fun h6=>?_) (fun h6=>?_)
    refine Zo Z<|Yq Z<|Zz Z<|Zn<|Zy ?_;refine Ve (v:=.bool _) Z ?_;refine ⟨congrArg Value.bool ?_,exq⟩;rotate_left;refine Yi Z<|Vp Z<|Zz Z<|Zn<|Zy ?_;refine Ve (v:=.bool _) Z ?_;refine ⟨congrArg Value.bool ?_,exq⟩;rotate_left
   all_goals first
    | (rw [show f.holds p z.toNat=true from by assumption];rfl)
    | (rw [show f.holds p z.toNat=false from by assumption];rfl)
 intro f
 induction f with
 | t =>
   intro w pv z hpv hz h60
   have hn : ((Fm.enc .t).getD 0 0).toNat = 116 := rfl
   have hl : (Fm.enc .t).length = 1 := rfl
   refine Vh Tryz.func164 Z Tryz.results164 Tryz.ntmps164 Z ?_
   focus
     refine Zp<|Zz Z<|Zn<|Zq<|Zp<|Vo Z<|Wo Z (Vl (k := 0) Kr Z Z Ka) ?_; refine Zn<|Zw<|Zp<|Vm Z<|Zz Z<|Zn<|Zs Z (fun h1 => ?_) (fun h1 => ?_); refine Zp<|Zz Z<|Zn<|Zy ?_; exact ⟨rfl, (Ext.refl _)⟩; contradiction
 | neg f ih =>
   intro w pv z hpv hz h60
   have hn : ((Fm.enc (.neg f)).getD 0 0).toNat = 33 := rfl
   have hl : (Fm.enc (.neg f)).length = f.enc.length + 1 := rfl
   have i1 : ∀ (w : World) (pv : Value), ESl Ints w pv p → Does Tryz.prog 164 [str ((Fm.enc (.neg f)).drop 1), pv, .int .i64 z] w (Ret w (.bool (f.holds p z.toNat))) := fun w pv h9 => ih w pv z h9 hz Ka
   refine Vh Tryz.func164 Z Tryz.results164 Tryz.ntmps164 Z ?_
   focus
     refine Zp<|Zz Z<|Zn<|Zq<|Zp<|Vo Z<|Wo Z (Vl (k := 0) Kr Z Z Ka) ?_; refine Zn<|Zw<|Zp<|Vm Z<|Zz Z<|Zn<|Zt Z fun h1 => ?_; refine Zp<|Vm Z<|Zz Z<|Zn<|Zs Z (fun h2 => ?_) (fun h2 => ?_); refine Zp<|Vo Z<|Wo Z (Yt (l := 1) Kr Z Z Ka) ?_; refine Vb pv Z<|Zu Z<|Zr Z (Ud (a := .string _) (b := pv) (c := .int _ _) Gq Z Z Z) (i1 _ _ (hpv)) ?_; rintro _ w1 ⟨rfl, E1⟩; refine Ym Z<|Zz Z<|Zn<|Zy ?_; exact ⟨rfl, E1⟩; contradiction
 | S f ih =>
   intro w pv z hpv hz h60
   have hn : ((Fm.enc (.S f)).getD 0 0).toNat = 83 := rfl
   have hl : (Fm.enc (.S f)).length = f.enc.length + 1 := rfl
   have hzl : z.toNat < p.length := Ka
   have hrow := hp.row hzl
   have i1 : ∀ (w : World) (pv : Value) (y : Int), ESl Ints w pv p → 0 ≤ y ∧ y < p.length → Does Tryz.prog 164 [str ((Fm.enc (.S f)).drop 1), pv, .int .i64 y] w (Ret w (.bool (f.holds p y.toNat))) := fun w pv y h9 hy => ih w pv y h9 hy Ka
   have hval : Fm.holds p (.S f) z.toNat = (List.range p.length).any fun j => decide (p[z.toNat].getD j 0 = 1) && f.holds p j := arr_any hp hzl _
   rw [hval]
   refine Vh Tryz.func164 Z Tryz.results164 Tryz.ntmps164 Z ?_
   focus
     refine Zp<|Zz Z<|Zn<|Zq<|Zp<|Vo Z<|Wo Z (Vl (k := 0) Kr Z Z Ka) ?_; refine Zn<|Zw<|Zp<|Vm Z<|Zz Z<|Zn<|Zt Z fun h1 => ?_; refine Zp<|Vm Z<|Zz Z<|Zn<|Zt Z fun h2 => ?_; refine Zp<|Vm Z<|Zz Z<|Zn<|Zs Z (fun h3 => ?_) (fun h3 => ?_); refine Zq<|Zp<|Vg Z<|Zn<|Zw ?_; rotate_left; contradiction
   refine Vy [6, 7, 26, 27, 28, 29, 30, 31, 32, 33, 34, 35, 36, 37, 38, 39, 40, 41, 42, 43, 44, 45, 46] (fun (k : Nat) => [(7, .int .i64 (k : Nat))]) (fun k w' => Ext w w' ∧ k ≤ p.length ∧ ((List.range k).any fun j => decide (p[z.toNat].getD j 0 = 1) && f.holds p j) = false) (fun x => p.length - x) 0 Kg ?_ ?_
   · exact ⟨Ext.refl _, Nat.zero_le _, Ki⟩
   rintro k ρj w1 ⟨E1, hk, hg⟩
   by_cases hlt : k < p.length
   · have hgd := Ya (l := p[z.toNat]) (i := k) (d := 0) Ka
     have hsu := Na (fun j => decide (p[z.toNat].getD j 0 = 1) && f.holds p j) k
     rw [hg, hgd] at hsu
     focus
       have szE1 := E1.size; refine Zq<|Zp<|Zu Z<|Vb pv Z<|Vk Kp Z hpv<|Vi Z<|Zn<|Zs Z (fun h4 => ?_) (fun h4 => ?_); refine Zv<|Zq<|Zw<|Zp<|Vb pv Z<|Zu Z<|Qr Kp Kt Kz Z (fun _ => Z) Z hpv E1 Z Kf ?_; rintro _ u1 hu1; refine Zu Z<|Yb Kn Kl Km Z (fun _ => Z) Z hu1 E1 Z Kf ?_; rintro _ _ rfl; refine Vm Z<|Yf Z (fun h5 => ?_) (fun h5 => ?_); refine Vo Z<|Wo Z (Yt (l := 1) Kr Z Z Ka) ?_; refine Vb pv Z<|Zu Z<|Zr Z (Ud (a := .string _) (b := pv) (c := .int _ _) Gq Z Z Z) (i1 _ _ _ ((Mono.mono E1 hpv)) Ka) ?_; rintro _ w2 ⟨rfl, E2⟩
       have hs1 := E2.size; refine Yq Z<|Zn<|Xg Z (fun h6 => ?_) (fun h6 => ?_); refine Zp<|Zz Z<|Zn<|Zy ?_; refine Ve (v := .bool _) Z ?_; refine ⟨congrArg Value.bool ?_, exq⟩; rotate_left; refine Zv<|Vf<|Zu Z<|Vr Z<|Vg Z<|Zn ?_; rotate_left; refine Zo Z<|Zo Z<|Zo Z<|Zo Z<|Zo Z<|Vp Z<|Zn<|Zx Z ?_; refine Zv<|Vf<|Zu Z<|Vr Z<|Vg Z<|Zn ?_; rotate_left; (exfalso; omega)
     · refine (List.any_eq_true.2 ⟨k, List.mem_range.2 hlt, ?_⟩).symm
       rw [hgd, decide_eq_true Kd, Bool.true_and]
       have e : ((k : Int)).toNat = k := rfl
       rw [e] at *
       assumption
     · refine ⟨(k + 1), Kg, Kh, ?_, ?_⟩
       · refine ⟨E1.trans E2, Ka, ?_⟩
         rw [hsu, decide_eq_true Kd, Bool.true_and, Bool.false_or]
         assumption
       · omega
     · refine ⟨(k + 1), Kg, Kh, ?_, ?_⟩
       · refine ⟨E1, Ka, ?_⟩
         rw [hsu, decide_eq_false Kd]; rfl
       · omega
   · obtain rfl : k = p.length := by omega
     focus
       refine Zq<|Zp<|Zu Z<|Vb pv Z<|Vk Kp Z hpv<|Vi Z<|Zn<|Zt Z fun h4 => ?_; refine Vw ?_; refine Vd ?_; refine Zp<|Zz Z<|Zn<|Zy ?_; refine Ve (v := .bool _) Z ?_; refine ⟨congrArg Value.bool ?_, E1⟩
     exact hg.symm
 | A f ih =>
   intro w pv z hpv hz h60
   have hn : ((Fm.enc (.A f)).getD 0 0).toNat = 65 := rfl
   have hl : (Fm.enc (.A f)).length = f.enc.length + 1 := rfl
   have hzl : z.toNat < p.length := Ka
   have hrow := hp.row hzl
   have i1 : ∀ (w : World) (pv : Value) (y : Int), ESl Ints w pv p → 0 ≤ y ∧ y < p.length → Does Tryz.prog 164 [str ((Fm.enc (.A f)).drop 1), pv, .int .i64 y] w (Ret w (.bool (f.holds p y.toNat))) := fun w pv y h9 hy => ih w pv y h9 hy Ka
   have hval : Fm.holds p (.A f) z.toNat = !((List.range p.length).any fun j => decide (p[z.toNat].getD j 0 = 1) && !(f.holds p j)) := congrArg not (arr_any hp hzl _)
   rw [hval]
   refine Vh Tryz.func164 Z Tryz.results164 Tryz.ntmps164 Z ?_
   focus
     refine Zp<|Zz Z<|Zn<|Zq<|Zp<|Vo Z<|Wo Z (Vl (k := 0) Kr Z Z Ka) ?_; refine Zn<|Zw<|Zp<|Vm Z<|Zz Z<|Zn<|Zt Z fun h1 => ?_; refine Zp<|Vm Z<|Zz Z<|Zn<|Zt Z fun h2 => ?_; refine Zp<|Vm Z<|Zz Z<|Zn<|Zt Z fun h3 => ?_; refine Zp<|Vm Z<|Zz Z<|Zn<|Zs Z (fun h4 => ?_) (fun h4 => ?_); refine Zq<|Zp<|Vg Z<|Zn<|Zw ?_; rotate_left; contradiction
   refine Vy [6, 8, 49, 50, 51, 52, 53, 54, 55, 56, 57, 58, 59, 60, 61, 62, 63, 64, 65, 66, 67, 68, 69, 70] (fun (k : Nat) => [(8, .int .i64 (k : Nat))]) (fun k w' => Ext w w' ∧ k ≤ p.length ∧ ((List.range k).any fun j => decide (p[z.toNat].getD j 0 = 1) && !(f.holds p j)) = false) (fun x => p.length - x) 0 Kg ?_ ?_
   · exact ⟨Ext.refl _, Nat.zero_le _, Ki⟩
   rintro k ρj w1 ⟨E1, hk, hg⟩
   by_cases hlt : k < p.length
   · have hgd := Ya (l := p[z.toNat]) (i := k) (d := 0) Ka
     have hsu := Na (fun j => decide (p[z.toNat].getD j 0 = 1) && !(f.holds p j)) k
     rw [hg, hgd] at hsu
     focus
       refine Zq<|Zp<|Zu Z<|Vb pv Z<|Vk Kp Z hpv<|Vi Z<|Zn<|Zs Z (fun h5 => ?_) (fun h5 => ?_); refine Zv<|Zq<|Zw<|Zp<|Vb pv Z<|Zu Z<|Qr Kp Kt Kz Z (fun _ => Z) Z hpv E1 Z Kf ?_; rintro _ u1 hu1; refine Zu Z<|Yb Kn Kl Km Z (fun _ => Z) Z hu1 E1 Z Kf ?_; rintro _ _ rfl; refine Vm Z<|Yf Z (fun h6 => ?_) (fun h6 => ?_); refine Vo Z<|Wo Z (Yt (l := 1) Kr Z Z Ka) ?_; refine Vb pv Z<|Zu Z<|Zr Z (Ud (a := .string _) (b := pv) (c := .int _ _) Gq Z Z Z) (i1 _ _ _ ((Mono.mono E1 hpv)) Ka) ?_; rintro _ w2 ⟨rfl, E2⟩
       refine Ym Z<|Yq Z<|Zn<|Xg Z (fun h7 => ?_) (fun h7 => ?_); refine Zp<|Zz Z<|Zn<|Zy ?_; refine Ve (v := .bool _) Z ?_; refine ⟨congrArg Value.bool ?_, exq⟩; rotate_left; refine Zv<|Vf<|Zu Z<|Vr Z<|Vg Z<|Zn ?_; rotate_left; refine Zo Z<|Zo Z<|Zo Z<|Zo Z<|Zo Z<|Zo Z<|Vp Z<|Zn<|Zx Z ?_; refine Zv<|Vf<|Zu Z<|Vr Z<|Vg Z<|Zn ?_; rotate_left; (exfalso; omega)
     · have hany : ((List.range p.length).any fun j => decide (p[z.toNat].getD j 0 = 1) && !(f.holds p j)) = true := by
         refine List.any_eq_true.2 ⟨k, List.mem_range.2 hlt, ?_⟩
         have e : (!(f.holds p k)) = true := Kd
         rw [hgd, decide_eq_true Kd, Bool.true_and, e]
       rw [hany]; rfl
     · refine ⟨(k + 1), Kg, Kh, ?_, ?_⟩
       · refine ⟨E1.trans E2, Ka, ?_⟩
         have e : (!(f.holds p k)) = false := Kd
         rw [hsu, decide_eq_true Kd, Bool.true_and, e]; rfl
       · omega
     · refine ⟨(k + 1), Kg, Kh, ?_, ?_⟩
       · refine ⟨E1, Ka, ?_⟩
         rw [hsu, decide_eq_false Kd]; rfl
       · omega
   · obtain rfl : k = p.length := by omega
     focus
       refine Zq<|Zp<|Zu Z<|Vb pv Z<|Vk Kp Z hpv<|Vi Z<|Zn<|Zt Z fun h5 => ?_; refine Vw ?_; refine Vd ?_; refine Zp<|Zz Z<|Zn<|Zy ?_; refine Ve (v := .bool _) Z ?_; refine ⟨congrArg Value.bool ?_, E1⟩
     rw [hg]; rfl
 | and f g ih1 ih2=>exact bin (.and f g) f g 38 rfl (.inl ⟨rfl,fun _=>rfl⟩) ih1 ih2
 | or f g ih1 ih2=>exact bin (.or f g) f g 124 rfl (.inr ⟨rfl,fun _=>rfl⟩) ih1 ih2
theorem spec_HoldsAt_ok (s:List UInt8) (w:World) (pv:Value) (p:List (List Int)) (z:Int) (hl:s.length≤lim) (h:ESl Ints w pv p):Does Tryz.prog 124 [str s,pv,.int .i64 z] w (Ret w (.bool (holdsV s p z))):=by
 cases hs:theF s with
 | none =>
   have e : holdsV s p z = false := by unfold holdsV; rw [hs]
   rw [e]
   have h1 : ∀ w, Does Tryz.prog 123 [str s] w (Ret w (.bool false)) := fun w => by
     have := Sr s w hl
     rw [okF, hs] at this
     exact this
   refine Vh Tryz.func124 Z Tryz.results124 Tryz.ntmps124 Z ?_
   focus
     refine Zp<|Zz Z<|Zn<|Zp<|Vo Z<|Zr Z (Vx (a := .string _) Gw Z) (h1 _) ?_; rintro _ w1 ⟨rfl, E1⟩; refine Yi Z<|Zo Z<|Zo Z<|Zo Z<|Vp Z<|Yi Z<|Zo Z<|Zo Z<|Zo Z<|Zo Z<|Vp Z<|Zz Z<|Zn<|Zy ?_; exact ⟨rfl, E1⟩
 | some f =>
   have e : holdsV s p z = (decide (Nod p z) && f.holds p z.toNat) := by unfold holdsV; rw [hs]
   rw [e]
   obtain ⟨rfl, h60⟩ := theF_some.1 hs
   have h1 : ∀ w, Does Tryz.prog 123 [str f.enc] w (Ret w (.bool true)) := fun w => by
     have := Sr f.enc w hl
     rw [okF, hs] at this
     exact this
   by_cases hn : Nod p z
   · rw [decide_eq_true hn, Bool.true_and]
     have hh : ∀ (w : World) (pv : Value), ESl Ints w pv p → Does Tryz.prog 164 [str f.enc, pv, .int .i64 z] w (Ret w (.bool (f.holds p z.toNat))) := fun w pv h2 => l10Holds_ok p hn.1 f w pv z h2 hn.2 h60
     have hnd : ∀ (w : World) (pv : Value), ESl Ints w pv p → Does Tryz.prog 118 [pv, .int .i64 z] w (Ret w (.bool true)) := fun w pv h => by
       have := Qs w pv p h z
       rw [decide_eq_true hn] at this; exact this
     refine Vh Tryz.func124 Z Tryz.results124 Tryz.ntmps124 Z ?_
     focus
       refine Zp<|Zz Z<|Zn<|Zp<|Vo Z<|Zr Z (Vx (a := .string _) Gw Z) (h1 _) ?_; rintro _ w1 ⟨rfl, E1⟩; refine Yi Z<|Vb pv Z<|Zu Z<|Zr Z (Yg (a := pv) (b := .int _ _) Gb Z Z) (hnd _ _ ((Mono.mono E1 h))) ?_; rintro _ w2 ⟨rfl, E2⟩; refine Yq Z<|Yi Z<|Vo Z<|Vb pv Z<|Zu Z<|Zr Z (Ud (a := .string _) (b := pv) (c := .int _ _) Gq Z Z Z) (hh _ _ ((Mono.mono exq h))) ?_; rintro _ w3 ⟨rfl, E3⟩; refine Yq Z<|Zz Z<|Zn<|Zy ?_; exact ⟨rfl, exq⟩
   · rw [decide_eq_false hn, Bool.false_and]
     have hnd : ∀ (w : World) (pv : Value), ESl Ints w pv p → Does Tryz.prog 118 [pv, .int .i64 z] w (Ret w (.bool false)) := fun w pv h => by
       have := Qs w pv p h z
       rw [decide_eq_false hn] at this; exact this
     refine Vh Tryz.func124 Z Tryz.results124 Tryz.ntmps124 Z ?_
     focus
       refine Zp<|Zz Z<|Zn<|Zp<|Vo Z<|Zr Z (Vx (a := .string _) Gw Z) (h1 _) ?_; rintro _ w1 ⟨rfl, E1⟩; refine Yi Z<|Vb pv Z<|Zu Z<|Zr Z (Yg (a := pv) (b := .int _ _) Gb Z Z) (hnd _ _ ((Mono.mono E1 h))) ?_; rintro _ w2 ⟨rfl, E2⟩; refine Yq Z<|Yi Z<|Zo Z<|Zo Z<|Zo Z<|Zo Z<|Vp Z<|Zz Z<|Zn<|Zy ?_; exact ⟨rfl, exq⟩
open Go.Lib (decDigits)
theorem l11Yes_ok (w:World) (b:Bool):Does Tryz.prog 66 [.bool b] w (Ret w (str (ynV b))):=by
 cases b with
 | true =>
   refine Vh Tryz.func66 Z Tryz.results66 Tryz.ntmps66 Z ?_
   focus
     refine Zp<|Yj Z<|Zn<|Zq<|Zp<|Yi Z<|Zn<|Vv Z ?_; refine Zp<|Yj Z<|Zn<|Zy ?_; exact ⟨rfl, (Ext.refl _)⟩
 | false =>
   refine Vh Tryz.func66 Z Tryz.results66 Tryz.ntmps66 Z ?_
   focus
     refine Zp<|Yj Z<|Zn<|Zq<|Zp<|Yi Z<|Zn<|Zx Z ?_; refine Zv<|Zp<|Yj Z<|Zn<|Zy ?_; exact ⟨rfl, (Ext.refl _)⟩
open Classical in
theorem l11Ask_ok (w:World) (v:Value) (p:List (List Int)) (h:ESl Ints w v p) (hp:Pic p) (wd R:List UInt8) (hR:R.length≤1048576):Does Tryz.prog 71 [v,str wd,str R] w (Ret w (str (ask2 p wd R))):=by
 have hp1:=hp.1
 have hRl':R.length≤lim:=by unfold lim;omega
 have yn:=l11Yes_ok
 have c8 : ∀ w,Does Tryz.prog 122 [str R] w (RetOB w XR ((rdP R).getD []) (rdP R).isSome):=fun w=>Ry w R hR
 have c9 : ∀ w,Does Tryz.prog 123 [str R] w (Ret w (.bool (okF R))):=fun w=>Sr R w hRl'
 have c10 : ∀ (w:World) (v:Value),ESl Ints w v p→Does Tryz.prog 124 [str R,v,.int .i64 0] w (Ret w (.bool (holdsV R p 0))):=fun w v h=>spec_HoldsAt_ok R w v p 0 hRl' h
 refine Vh Tryz.func71 Z Tryz.results71 Tryz.ntmps71 Z ?_
 cases hq:rdP R with
 | none =>
   rw [hq] at c8
   cases ho : okF R with
   | false =>
     rw [ho] at c9
     have ea : ask2 p wd R = [119, 104, 97, 116] := by unfold ask2; rw [ho, hq]; simp
     rw [ea]
     focus
       refine Zp<|Yj Z<|Zn<|Zp<|Vo Z<|Zr Z (Vx (a := .string _) Jm Z) (c8 _) ?_; rintro _ w1 ⟨u1, rfl, E1, hO1⟩; refine Xl Z<|Un u1 Z<|Xv Z<|Yr u1 Z<|Zz Z<|Zn<|Zq<|Zw<|Zq<|Vf<|Vo Z<|Wo Z (Vc Z Z)<|Yf Z (fun h1 => ?_) (fun h1 => ?_); refine Vo Z<|Zr Z (Vx (a := .string _) Gw Z) (c9 _) ?_; rintro _ w2 ⟨rfl, E2⟩; refine Yq Z<|Zz Z<|Zn<|Zx Z ?_; refine Zp<|Vo Z<|Wo Z (Vc Z Z)<|Yf Z (fun h2 => ?_) (fun h2 => ?_); refine Yi Z<|Yq Z<|Zz Z<|Zn<|Xa Z fun h3 => ?_; refine Zp<|Vo Z<|Wo Z (Vc Z Z)<|Yf Z (fun h4 => ?_) (fun h4 => ?_); refine Yi Z<|Yq Z<|Zz Z<|Zn<|Xa Z fun h5 => ?_
       refine Zv<|Zp<|Yj Z<|Zn<|Zy ?_; exact ⟨rfl, exq⟩; refine Zo Z<|Vp Z<|Zz Z<|Zn<|Zx Z ?_; refine Zv<|Zp<|Yj Z<|Zn<|Zy ?_; exact ⟨rfl, exq⟩; refine Zo Z<|Vp Z<|Zz Z<|Zn<|Zx Z ?_; refine Zp<|Vo Z<|Wo Z (Vc Z Z)<|Yf Z (fun h3 => ?_) (fun h3 => ?_); refine Yi Z<|Yq Z<|Zz Z<|Zn<|Xa Z fun h4 => ?_; refine Zv<|Zp<|Yj Z<|Zn<|Zy ?_; exact ⟨rfl, exq⟩; refine Zo Z<|Vp Z<|Zz Z<|Zn<|Zx Z ?_; refine Zv<|Zp<|Yj Z<|Zn<|Zy ?_; exact ⟨rfl, exq⟩; refine Zo Z<|Zo Z<|Vp Z<|Zz Z<|Zn<|Zx Z ?_; refine Zp<|Vo Z<|Wo Z (Vc Z Z)<|Yf Z (fun h2 => ?_) (fun h2 => ?_)
       refine Yi Z<|Yq Z<|Zz Z<|Zn<|Xa Z fun h3 => ?_; refine Zp<|Vo Z<|Wo Z (Vc Z Z)<|Yf Z (fun h4 => ?_) (fun h4 => ?_); refine Yi Z<|Yq Z<|Zz Z<|Zn<|Xa Z fun h5 => ?_; refine Zv<|Zp<|Yj Z<|Zn<|Zy ?_; exact ⟨rfl, E1⟩; refine Zo Z<|Vp Z<|Zz Z<|Zn<|Zx Z ?_; refine Zv<|Zp<|Yj Z<|Zn<|Zy ?_; exact ⟨rfl, E1⟩; refine Zo Z<|Vp Z<|Zz Z<|Zn<|Zx Z ?_; refine Zp<|Vo Z<|Wo Z (Vc Z Z)<|Yf Z (fun h3 => ?_) (fun h3 => ?_); refine Yi Z<|Yq Z<|Zz Z<|Zn<|Xa Z fun h4 => ?_; refine Zv<|Zq<|Vf<|Yj Z<|Zn<|Zy ?_; exact ⟨rfl, E1⟩; refine Zo Z<|Vp Z<|Zz Z<|Zn<|Zx Z ?_
       refine Zv<|Zp<|Yj Z<|Zn<|Zy ?_; exact ⟨rfl, E1⟩
   | true =>
     rw [ho] at c9
     have ea : ask2 p wd R = if wd = [104, 111, 108, 100, 115] then ynV (holdsV R p 0) else [119, 104, 97, 116] := by unfold ask2; rw [ho, hq]; simp
     rw [ea]
     focus
       refine Zp<|Yj Z<|Zn<|Zp<|Vo Z<|Zr Z (Vx (a := .string _) Jm Z) (c8 _) ?_; rintro _ w1 ⟨u1, rfl, E1, hO1⟩; refine Xl Z<|Un u1 Z<|Xv Z<|Yr u1 Z<|Zz Z<|Zn<|Zq<|Zw<|Zq<|Vf<|Vo Z<|Wo Z (Vc Z Z)<|Yf Z (fun h1 => ?_) (fun h1 => ?_); refine Vo Z<|Zr Z (Vx (a := .string _) Gw Z) (c9 _) ?_; rintro _ w2 ⟨rfl, E2⟩; refine Yq Z<|Zz Z<|Zn<|Vv Z ?_; refine Zp<|Vo Z<|Vb v Z<|Zr Z (Ud (a := .string _) (b := v) (c := .int _ _) Tryz.call124 Z Z Z) (c10 _ _ ((Mono.mono exq h))) ?_; rintro _ w3 ⟨rfl, E3⟩; refine Zr Z (Vx (a := .bool _) Jq Z) (yn _ _) ?_; rintro _ w4 ⟨rfl, E4⟩; refine Yj Z<|Zn<|Zy ?_; refine Ve (v := .string _) Z ?_
       refine ⟨congrArg str ?_, exq⟩; rotate_left; refine Zo Z<|Zo Z<|Vp Z<|Zz Z<|Zn<|Zx Z ?_; refine Zp<|Vo Z<|Wo Z (Vc Z Z)<|Yf Z (fun h2 => ?_) (fun h2 => ?_); refine Yi Z<|Yq Z<|Zz Z<|Zn<|Xa Z fun h3 => ?_; refine Zp<|Vo Z<|Wo Z (Vc Z Z)<|Yf Z (fun h4 => ?_) (fun h4 => ?_); refine Yi Z<|Yq Z<|Zz Z<|Zn<|Xa Z fun h5 => ?_; refine Zv<|Zp<|Yj Z<|Zn<|Zy ?_; refine Ve (v := .string _) Z ?_; refine ⟨congrArg str ?_, E1⟩; rotate_left; refine Zo Z<|Vp Z<|Zz Z<|Zn<|Zx Z ?_; refine Zv<|Zp<|Yj Z<|Zn<|Zy ?_; refine Ve (v := .string _) Z ?_; refine ⟨congrArg str ?_, E1⟩; rotate_left
       refine Zo Z<|Vp Z<|Zz Z<|Zn<|Zx Z ?_; refine Zp<|Vo Z<|Wo Z (Vc Z Z)<|Yf Z (fun h3 => ?_) (fun h3 => ?_); refine Yi Z<|Yq Z<|Zz Z<|Zn<|Xa Z fun h4 => ?_; refine Zv<|Zq<|Vf<|Yj Z<|Zn<|Zy ?_; refine Ve (v := .string _) Z ?_; refine ⟨congrArg str ?_, E1⟩; rotate_left; refine Zo Z<|Vp Z<|Zz Z<|Zn<|Zx Z ?_; refine Zv<|Zp<|Yj Z<|Zn<|Zy ?_; refine Ve (v := .string _) Z ?_; refine ⟨congrArg str ?_, E1⟩; rotate_left
     all_goals first | rw [if_pos Kd] | rw [if_neg Kd]
 | some q =>
   rw [hq] at c8
   have hqp := (Sa hq).1
   have hq1 := hqp.1
   have c11 : ∀ (w : World) (v u : Value), ESl Ints w v p → ESl Ints w u q → Does Tryz.prog 67 [v, .int .i64 0, u, .int .i64 0] w (Ret w (.bool (hasV p 0 q 0))) := fun w v u h h' => spec_HasSet_ok w v u p q h h' hp hqp
   have c12 : ∀ (w : World) (v u : Value), ESl Ints w v p → ESl Ints w u q → Does Tryz.prog 121 [v, .int .i64 0, u, .int .i64 0] w (Ret w (.bool (ssetV p 0 q 0))) := fun w v u h h' => by
     have := Sc w v u p q h h' 0 0 ⟨hp, Ka⟩ ⟨hqp, Ka⟩
     rwa [show ssetV p 0 q 0 = decide (Bis p (0 : Int).toNat q (0 : Int).toNat) from decide_eq_decide.2 ⟨fun h => h.2.2, fun h => ⟨⟨hp, Ka⟩, ⟨hqp, Ka⟩, h⟩⟩]
   cases ho : okF R with
   | false =>
     rw [ho] at c9
     have ea : ask2 p wd R = if wd = [104, 97, 115] then ynV (hasV p 0 q 0) else if wd = [105, 115] then ynV (ssetV p 0 q 0) else [119, 104, 97, 116] := by unfold ask2; rw [ho, hq]; simp
     rw [ea]
     focus
       refine Zp<|Yj Z<|Zn<|Zp<|Vo Z<|Zr Z (Vx (a := .string _) Jm Z) (c8 _) ?_; rintro _ w1 ⟨u1, rfl, E1, hO1⟩; refine Xl Z<|Un u1 Z<|Xv Z<|Yr u1 Z<|Zz Z<|Zn<|Zq<|Zw<|Zq<|Vf<|Vo Z<|Wo Z (Vc Z Z)<|Yf Z (fun h1 => ?_) (fun h1 => ?_); refine Vo Z<|Zr Z (Vx (a := .string _) Gw Z) (c9 _) ?_; rintro _ w2 ⟨rfl, E2⟩; refine Yq Z<|Zz Z<|Zn<|Zx Z ?_; refine Zp<|Vo Z<|Wo Z (Vc Z Z)<|Yf Z (fun h2 => ?_) (fun h2 => ?_); refine Yi Z<|Yq Z<|Zz Z<|Zn<|Xg Z (fun h3 => ?_) (fun h3 => ?_)
       refine Zp<|Vb v Z<|Vb u1 Z<|Zr Z (Qz (a := v) (b := .int _ _) (c := u1) (d := .int _ _) Gj Z Z Z Z) (c11 _ _ _ ((Mono.mono exq h)) ((Mono.mono E2 (Owned.read hO1)))) ?_; rintro _ w3 ⟨rfl, E3⟩; refine Zr Z (Vx (a := .bool _) Jq Z) (yn _ _) ?_; rintro _ w4 ⟨rfl, E4⟩; refine Yj Z<|Zn<|Zy ?_; refine Ve (v := .string _) Z ?_; refine ⟨congrArg str ?_, exq⟩; rotate_left; contradiction; refine Zo Z<|Vp Z<|Zz Z<|Zn<|Zx Z ?_; refine Zp<|Vo Z<|Wo Z (Vc Z Z)<|Yf Z (fun h3 => ?_) (fun h3 => ?_); refine Yi Z<|Yq Z<|Zz Z<|Zn<|Xg Z (fun h4 => ?_) (fun h4 => ?_)
       refine Zp<|Vb v Z<|Vb u1 Z<|Zr Z (Qz (a := v) (b := .int _ _) (c := u1) (d := .int _ _) Gu Z Z Z Z) (c12 _ _ _ ((Mono.mono exq h)) ((Mono.mono E2 (Owned.read hO1)))) ?_; rintro _ w3 ⟨rfl, E3⟩; refine Zr Z (Vx (a := .bool _) Jq Z) (yn _ _) ?_; rintro _ w4 ⟨rfl, E4⟩; refine Yj Z<|Zn<|Zy ?_; refine Ve (v := .string _) Z ?_; refine ⟨congrArg str ?_, exq⟩; rotate_left; contradiction; refine Zo Z<|Vp Z<|Zz Z<|Zn<|Zx Z ?_; refine Zv<|Zp<|Yj Z<|Zn<|Zy ?_; refine Ve (v := .string _) Z ?_; refine ⟨congrArg str ?_, exq⟩; rotate_left; refine Zo Z<|Zo Z<|Vp Z<|Zz Z<|Zn<|Zx Z ?_; refine Zp<|Vo Z<|Wo Z (Vc Z Z)<|Yf Z (fun h2 => ?_) (fun h2 => ?_)
       refine Yi Z<|Yq Z<|Zz Z<|Zn<|Xg Z (fun h3 => ?_) (fun h3 => ?_); refine Zp<|Vb v Z<|Vb u1 Z<|Zr Z (Qz (a := v) (b := .int _ _) (c := u1) (d := .int _ _) Gj Z Z Z Z) (c11 _ _ _ ((Mono.mono E1 h)) ((Owned.read hO1))) ?_; rintro _ w2 ⟨rfl, E2⟩; refine Zr Z (Vx (a := .bool _) Jq Z) (yn _ _) ?_; rintro _ w3 ⟨rfl, E3⟩; refine Yj Z<|Zn<|Zy ?_; refine Ve (v := .string _) Z ?_; refine ⟨congrArg str ?_, exq⟩; rotate_left; contradiction; refine Zo Z<|Vp Z<|Zz Z<|Zn<|Zx Z ?_; refine Zp<|Vo Z<|Wo Z (Vc Z Z)<|Yf Z (fun h3 => ?_) (fun h3 => ?_); refine Yi Z<|Yq Z<|Zz Z<|Zn<|Xg Z (fun h4 => ?_) (fun h4 => ?_)
       refine Zp<|Vb v Z<|Vb u1 Z<|Zr Z (Qz (a := v) (b := .int _ _) (c := u1) (d := .int _ _) Gu Z Z Z Z) (c12 _ _ _ ((Mono.mono E1 h)) ((Owned.read hO1))) ?_; rintro _ w2 ⟨rfl, E2⟩; refine Zr Z (Vx (a := .bool _) Jq Z) (yn _ _) ?_; rintro _ w3 ⟨rfl, E3⟩; refine Yj Z<|Zn<|Zy ?_; refine Ve (v := .string _) Z ?_; refine ⟨congrArg str ?_, exq⟩; rotate_left; contradiction; refine Zo Z<|Vp Z<|Zz Z<|Zn<|Zx Z ?_; refine Zv<|Zp<|Yj Z<|Zn<|Zy ?_; refine Ve (v := .string _) Z ?_; refine ⟨congrArg str ?_, E1⟩; rotate_left
     all_goals first | rw [if_pos Kd] | (rw [if_neg Kd]; first | rw [if_pos Kd] | rw [if_neg Kd])
   | true =>
     rw [ho] at c9
     have ea : ask2 p wd R = if wd = [104, 111, 108, 100, 115] then ynV (holdsV R p 0) else if wd = [104, 97, 115] then ynV (hasV p 0 q 0) else if wd = [105, 115] then ynV (ssetV p 0 q 0) else [119, 104, 97, 116] := by unfold ask2; rw [ho, hq]; simp
     rw [ea]
     focus
       refine Zp<|Yj Z<|Zn<|Zp<|Vo Z<|Zr Z (Vx (a := .string _) Jm Z) (c8 _) ?_; rintro _ w1 ⟨u1, rfl, E1, hO1⟩; refine Xl Z<|Un u1 Z<|Xv Z<|Yr u1 Z<|Zz Z<|Zn<|Zq<|Zw<|Zq<|Vf<|Vo Z<|Wo Z (Vc Z Z)<|Yf Z (fun h1 => ?_) (fun h1 => ?_); refine Vo Z<|Zr Z (Vx (a := .string _) Gw Z) (c9 _) ?_; rintro _ w2 ⟨rfl, E2⟩; refine Yq Z<|Zz Z<|Zn<|Vv Z ?_; refine Zp<|Vo Z<|Vb v Z<|Zr Z (Ud (a := .string _) (b := v) (c := .int _ _) Tryz.call124 Z Z Z) (c10 _ _ ((Mono.mono exq h))) ?_; rintro _ w3 ⟨rfl, E3⟩; refine Zr Z (Vx (a := .bool _) Jq Z) (yn _ _) ?_; rintro _ w4 ⟨rfl, E4⟩; refine Yj Z<|Zn<|Zy ?_; refine Ve (v := .string _) Z ?_
       refine ⟨congrArg str ?_, exq⟩; rotate_left; refine Zo Z<|Zo Z<|Vp Z<|Zz Z<|Zn<|Zx Z ?_; refine Zp<|Vo Z<|Wo Z (Vc Z Z)<|Yf Z (fun h2 => ?_) (fun h2 => ?_); refine Yi Z<|Yq Z<|Zz Z<|Zn<|Xg Z (fun h3 => ?_) (fun h3 => ?_); refine Zp<|Vb v Z<|Vb u1 Z<|Zr Z (Qz (a := v) (b := .int _ _) (c := u1) (d := .int _ _) Gj Z Z Z Z) (c11 _ _ _ ((Mono.mono E1 h)) ((Owned.read hO1))) ?_; rintro _ w2 ⟨rfl, E2⟩; refine Zr Z (Vx (a := .bool _) Jq Z) (yn _ _) ?_; rintro _ w3 ⟨rfl, E3⟩; refine Yj Z<|Zn<|Zy ?_; refine Ve (v := .string _) Z ?_; refine ⟨congrArg str ?_, exq⟩; rotate_left; contradiction; refine Zo Z<|Vp Z<|Zz Z<|Zn<|Zx Z ?_
       refine Zp<|Vo Z<|Wo Z (Vc Z Z)<|Yf Z (fun h3 => ?_) (fun h3 => ?_); refine Yi Z<|Yq Z<|Zz Z<|Zn<|Xg Z (fun h4 => ?_) (fun h4 => ?_); refine Zp<|Vb v Z<|Vb u1 Z<|Zr Z (Qz (a := v) (b := .int _ _) (c := u1) (d := .int _ _) Gu Z Z Z Z) (c12 _ _ _ ((Mono.mono E1 h)) ((Owned.read hO1))) ?_; rintro _ w2 ⟨rfl, E2⟩; refine Zr Z (Vx (a := .bool _) Jq Z) (yn _ _) ?_; rintro _ w3 ⟨rfl, E3⟩; refine Yj Z<|Zn<|Zy ?_; refine Ve (v := .string _) Z ?_; refine ⟨congrArg str ?_, exq⟩; rotate_left; contradiction; refine Zo Z<|Vp Z<|Zz Z<|Zn<|Zx Z ?_; refine Zv<|Zp<|Yj Z<|Zn<|Zy ?_; refine Ve (v := .string _) Z ?_; refine ⟨congrArg str ?_, E1⟩; rotate_left
     all_goals first | rw [if_pos Kd] | (rw [if_neg Kd]; first | rw [if_pos Kd] | (rw [if_neg Kd]; first | rw [if_pos Kd] | rw [if_neg Kd]))
theorem shift_row {n:Nat} {r:List Int} {o:Nat} (j:Nat) (hj:j < r.length) (hn:o+r.length≤n):(List.replicate o 0++r.take j++List.replicate (n - o - j) 0).set (o+j) r[j]=List.replicate o 0++r.take (j+1)++List.replicate (n - o - (j+1)) 0:=by
 rw [List.append_assoc,List.set_append_right _ _ Ki,List.append_assoc]
 congr 1
 rw [List.length_replicate,Nat.add_sub_cancel_left,List.set_append_right _ _ (by simp;omega)]
 rw [show j - (r.take j).length=0 by simp;omega,show n - o - j=(n - o - (j+1))+1 by omega,List.replicate_succ,List.set_cons_zero,Yd _ _ hj,List.append_assoc]
 rfl
theorem l6Put_ok (w:World) (v u vl vr:Value) (p q:List (List Int)) (L R:List Nat) (h:ESl Ints w v p) (h':ESl Ints w u q) (hL:Ints w vl (ints L)) (hR:Ints w vr (ints R)) (hp:Pic p) (hq:Pic q∨q=[])
  (hl : ∀ x ∈ L,x < p.length) (hr : ∀ x ∈ R,x < q.length) (hll:L.length≤1000) (hrl:R.length≤1000) :
  Does Tryz.prog 176 [v,u,vl,vr] w (RetO w XR (put (bes p q) (L++R.map (p.length + ·)))):=by
 have hp5:=hp.2.1
 have hq5:q.length≤5:=by rcases hq with hq | rfl;exact hq.2.1;simp
 have hqrow : ∀ (k:Nat) (hk:k < q.length),q[k].length=q.length:=fun k hk=>by
  rcases hq with hq | rfl
  ·exact hq.row hk
  ·cases hk
 have hil:=Yy L
 have hir:=Yy R
 obtain ⟨g,hg⟩ : ∃ g,g=p.length+q.length:=⟨_,rfl⟩
 refine Vh Tryz.func176 Z Tryz.results176 Tryz.ntmps176 Z ?_
 have keepR:True:=trivial
 focus
  refine Zp<|Ys Z<|Zn<|Zp<|Vb v Z<|Vk Kp Z h<|Vr Z<|Vb u Z<|Vk Kp Z h'<|Vr Z<|Vg Z<|Zn<|Zp<|Zu Z<|Tw Z Ux (int_z Ka Z) Ka ?_;rintro b1 w1 hb1 b1lt E1 hO1;refine Ye (ps:=[(0,.slice _ _ _)]) (cs:=[_]) Z Kp Kt Jv Z Z Z Z ?_;rintro b2 w2 hb2 E2 hB1 hHb2;refine Ys Z<|Zn<|Zq<|Zp<|Vg Z<|Zn<|Zw ?_
 clear keepR
 obtain ⟨N,hN⟩ : ∃ N,N=(1+(p.length:Int)+(q.length:Int)).toNat:=⟨_,rfl⟩
 have hNg:N=g+1:=Ka
 rw [← hN] at hO1 hHb2
 have hO0:Owned w.heap.size XR w2 (.slice (some ⟨b2,0,none⟩) 1 1) [ro g []]:=by
  rw [ro_nil,← hNg]
  exact Owned.single (hO1.toB.ext E2) hHb2 Ka Ka
 clear hO1 hHb2 hB1
 have hrl0 : ∀ ms,(ro g ms).length=g+1:=fun ms=>ro_len
 refine Vy [11,28,29,30,31,32,33,34,35,36,37,38,39,40,41,42] (fun ((k,rows):Nat × List (List Int))=>[(11,.int .i64 (k:Nat))]) (fun (k,rows) w'=>Ext w w'∧k≤L.length∧Owned w.heap.size XR w' (.slice (some ⟨b2,0,none⟩) 1 1) rows∧rows=[ro g (L.take k)]) (fun x=>L.length - x.1) (0,[ro g []]) Kg ?_ ?_
 ·exact ⟨by exact (E1.trans E2),Nat.zero_le _,hO0,rfl⟩
 clear hO0
 rintro ⟨k,rows⟩ ρj w3 ⟨E3,hk,hO0,hrw⟩
 have hlr:rows.length=1:=by rw [hrw];rfl
 have hr0:rows[0]'Ka=ro g (L.take k):=by simp only [hrw,List.getElem_cons_zero]
 have hr0l:(rows[0]'Ka).length=g+1:=by rw [hr0];exact hrl0 _
 obtain ⟨br,cr,hRw,hbr1,hbr2⟩:=hO0.rowAt (i:=0) Ka Ka
 by_cases hlt:k < L.length
 ·have hgk:(ints L)[k]'Ka=(L[k]:Int):=Xz hlt
  have hLk:=hl L[k] (List.getElem_mem hlt)
  have hcell:=Md hRw
  have heldS:w=w:=rfl
  focus
   refine Zq<|Zp<|Zu Z<|Vb vl Z<|Vk Kn Z hL<|Vi Z<|Zn<|Zs Z (fun h1=>?_) (fun h1=>?_);refine Zv<|Zq<|Zw<|Rb (fun w'=>Ext w w') Xr Z Kb ?_;intro w4 E4 K1 hz1;refine WtmS 0 Z Z exq<|Yo 1 Z Kb Kb Z (fun _ _=>Yv (k:=0) Kp Kt Z Z Ka) exq ?_;refine WtmV 3 vl Z Z exq<|WtmI 4 Z Z exq<|Wh_get 5 6 Z Kb Kb Z Z Kb Kb (fun _=>Z) Kn Kl Km Z hL (fun w' hw'=>Ext.trans (Ext.refl _) hw') Z Kf exq ?_;rintro _ _ rfl;refine Yo 7 Z Kb Kb Z (fun _ _=>Rw Z Z Ka) exq ?_
   refine Wha [2]<|Wh1 Z<|Wo Z (Vt Kz Z (E4.cell hcell))<|Wnx exq<|Yo 8 Z Kb Kb Z (fun _ _=>Ur Kn Kl Z Z Ka) exq ?_;refine Wha [9]<|Wh1 Z<|Tr Z Kl Z Z (hO0.toB.ext E4) (hRw.ext E4) Kf Kf ?_;rintro w5 hO0 hRw On1 K2 hz2;have E5:=On1.ext1 (E3.trans E4) Ka;refine Wnx E5<|Yh Kb ?_;refine Vf<|Zu Z<|Vr Z<|Vg Z<|Zn ?_;rotate_left;(exfalso;omega)
  refine ⟨((k+1,rows.set 0 (rows[0].set (1+(ints L)[k]'Ka).toNat 1))),Kg,Kh,?_,?_⟩
  ·refine ⟨by exact E5,Ka,by exact hO0,?_⟩
   rw [row_next (Q:=rows) (i:=0) (r:=ro g (L.take k)) (r':=ro g (L.take (k+1))) (by rw [hrw];rfl) Ka ?_]
   ·rw [hrw];rfl
   ·rw [hr0,show (1+(ints L)[k]'Ka).toNat=L[k]+1 by rw [hgk];omega,ro_step Ka,← Yd]
  ·simp only;omega
 ·obtain rfl:k=L.length:=by omega
  rw [List.take_length] at hrw hr0
  clear hRw
  focus
   refine Zq<|Zp<|Zu Z<|Vb vl Z<|Vk Kn Z hL<|Vi Z<|Zn<|Zt Z fun h1=>?_;refine Vw ?_;refine Vd ?_;refine Zq<|Zp<|Vg Z<|Zn<|Zw ?_
  refine Vy [12,43,44,45,46,47,48,49,50,51,52,53,54,55,56,57,58,59,60] (fun ((k,rows):Nat × List (List Int))=>[(12,.int .i64 (k:Nat))]) (fun (k,rows) w'=>Ext w w'∧k≤R.length∧Owned w.heap.size XR w' (.slice (some ⟨b2,0,none⟩) 1 1) rows∧rows=[ro g (L++(R.take k).map (p.length + ·))]) (fun x=>R.length - x.1) (0,rows) Kg ?_ ?_
  ·exact ⟨by exact E3,Nat.zero_le _,hO0,by rw [hrw];simp⟩
  clear hO0 hr0 hr0l hlr hrw
  rintro ⟨k,rows⟩ ρk w4 ⟨E4,hk,hO0,hrw⟩
  have hlr:rows.length=1:=by rw [hrw];rfl
  have hr0:rows[0]'Ka=ro g (L++(R.take k).map (p.length + ·)):=by simp only [hrw,List.getElem_cons_zero]
  have hr0l:(rows[0]'Ka).length=g+1:=by rw [hr0];exact hrl0 _
  obtain ⟨br,cr,hRw,hbr1,hbr2⟩:=hO0.rowAt (i:=0) Ka Ka
  by_cases hlt:k < R.length
  ·have hgk:(ints R)[k]'Ka=(R[k]:Int):=Xz hlt
   have hRk:=hr R[k] (List.getElem_mem hlt)
   have hcell:=Md hRw
   have heldS:w=w:=rfl
   focus
    refine Zq<|Zp<|Zu Z<|Vb vr Z<|Vk Kn Z hR<|Vi Z<|Zn<|Zs Z (fun h2=>?_) (fun h2=>?_);refine Zv<|Zq<|Zw<|Rb (fun w'=>Ext w w') Xr Z Kb ?_;intro w5 E5 K1 hz1;refine WtmS 0 Z Z exq<|Yo 1 Z Kb Kb Z (fun _ _=>Yv (k:=0) Kp Kt Z Z Ka) exq ?_;refine WtmV 3 v Z Z exq<|Yo 4 Z Kb Kb Z (fun _ _=>Rx Kp Z h) exq ?_;refine Yo 5 Z Kb Kb Z (fun _ _=>Rw Z Z Ka) exq ?_
    refine WtmV 6 vr Z Z exq<|WtmI 7 Z Z exq<|Wh_get 8 9 Z Kb Kb Z Z Kb Kb (fun _=>Z) Kn Kl Km Z hR (fun w' hw'=>Ext.trans (Ext.refl _) hw') Z Kf exq ?_;rintro _ _ rfl;refine Yo 10 Z Kb Kb Z (fun _ _=>Rw Z Z Ka) exq ?_;refine Wha [2]<|Wh1 Z<|Wo Z (Vt Kz Z (E5.cell hcell))<|Wnx exq<|Yo 11 Z Kb Kb Z (fun _ _=>Ur Kn Kl Z Z Ka) exq ?_;refine Wha [12]<|Wh1 Z<|Tr Z Kl Z Z (hO0.toB.ext E5) (hRw.ext E5) Kf Kf ?_;rintro w6 hO0 hRw On1 K2 hz2;have E6:=On1.ext1 (E4.trans E5) Ka
    refine Wnx E6<|Yh Kb ?_;refine Vf<|Zu Z<|Vr Z<|Vg Z<|Zn ?_;rotate_left;(exfalso;omega)
   refine ⟨((k+1,rows.set 0 (rows[0].set (1+(p.length:Int)+(ints R)[k]'Ka).toNat 1))),Kg,Kh,?_,?_⟩
   ·refine ⟨by exact E6,Ka,by exact hO0,?_⟩
    rw [row_next (Q:=rows) (i:=0) (r:=ro g (L++(R.take k).map (p.length + ·))) (r':=ro g (L++(R.take (k+1)).map (p.length + ·))) (by rw [hrw];rfl) Ka ?_]
    ·rw [hrw];rfl
    ·rw [hr0,show (1+(p.length:Int)+(ints R)[k]'Ka).toNat=(p.length+R[k])+1 by rw [hgk];omega,ro_step Ka,Yd _ _ hlt,List.map_append,List.append_assoc]
     rfl
   ·simp only;omega
  ·obtain rfl:k=R.length:=by omega
   rw [List.take_length] at hrw hr0
   obtain ⟨ms,hms⟩ : ∃ ms,ms=L++R.map (p.length + ·):=⟨_,rfl⟩
   rw [← hms] at hrw hr0 ⊢
   clear hRw
   focus
    have szE4:=E4.size;have szE3:=E3.size;have szE2:=E2.size;have szE1:=E1.size;refine Zq<|Zp<|Zu Z<|Vb vr Z<|Vk Kn Z hR<|Vi Z<|Zn<|Zt Z fun h2=>?_;refine Vw ?_;refine Vd ?_;refine Zq<|Zp<|Vg Z<|Zn<|Zw ?_
   refine Vy [10,13,14,15,61,62,63,64,65,66,67,68,69,70,71,72,73,74,75,76,77,78,79,80,81,82,83,84,85,86,87,88,89] (fun ((k,o):Nat × Value)=>[(13,.int .i64 (k:Nat)),(10,o)]) (fun (k,o) w'=>Ext w w'∧k≤p.length∧Owned w.heap.size XR w' o (ro g ms::(p.take k).map fun r=>List.replicate 1 0++r++List.replicate q.length 0)) (fun x=>p.length - x.1) (0,.slice (some ⟨b2,0,none⟩) 1 1) Kg ?_ ?_
   ·exact ⟨by exact E4,Nat.zero_le _,by rw [hrw] at hO0;exact hO0⟩
   clear hO0 hr0 hr0l hlr hrw
   rintro ⟨k,o⟩ ρl w5 ⟨E5,hk,hO0⟩
   have htl:(ro g ms::(p.take k).map fun r=>List.replicate 1 0++r++List.replicate q.length 0).length=k+1:=by simp;omega
   by_cases hlt:k < p.length
   ·have hrow:=hp.row hlt
    focus
     have szE5:=E5.size;refine Zq<|Zp<|Zu Z<|Vb v Z<|Vk Kp Z h<|Vi Z<|Zn<|Zs Z (fun h3=>?_) (fun h3=>?_);refine Zv<|Zq<|Zw<|Zp<|Zu Z<|Tw Z Ux (int_z Ka Z) Ka ?_;rintro b3 w6 hb3 b3lt E6 hO1;have hs3:=E6.size;refine Ys Z<|Zn<|Zq<|Zp<|Vg Z<|Zn<|Zw ?_;rotate_left;(exfalso;omega)
    have hrl3 : ∀ j,j≤p.length→(List.replicate 1 (0:Int)++p[k].take j++List.replicate ((1+(p.length:Int)+(q.length:Int)).toNat - 1 - j) 0).length=g+1:=fun j hj=>by simp;omega
    refine Vy [15,69,70,71,72,73,74,75,76,77,78,79,80,81,82,83,84,85] (fun (j:Nat)=>[(15,.int .i64 (j:Nat))]) (fun j w'=>Ext w w'∧w5.heap.size≤w'.heap.size∧j≤p.length∧OwnedB w.heap.size w5.heap.size XR w' o (ro g ms::(p.take k).map fun r=>List.replicate 1 0++r++List.replicate q.length 0)∧Owned w5.heap.size XI w' (.slice (some ⟨b3,0,none⟩) (1+(p.length:Int)+(q.length:Int)).toNat (1+(p.length:Int)+(q.length:Int)).toNat) (List.replicate 1 0++p[k].take j++List.replicate ((1+(p.length:Int)+(q.length:Int)).toNat - 1 - j) 0)) (fun j=>p.length - j) 0 Kg ?_ ?_
    ·refine ⟨by exact (E5.trans E6),Ka,Nat.zero_le _,hO0.toB.ext (by exact E6),?_⟩
     rw [show List.replicate 1 (0:Int)++p[k].take 0++List.replicate ((1+(p.length:Int)+(q.length:Int)).toNat - 1 - 0) 0=List.replicate (1+(p.length:Int)+(q.length:Int)).toNat 0 by
      rw [List.take_zero,List.append_nil,List.replicate_append_replicate];congr 1;omega]
     exact hO1
    clear hO0 hO1
    rintro j ρm w7 ⟨E7,hs7,hj,hO0,hO1⟩
    have hrj:=hrl3 j hj
    by_cases hjl:j < p.length
    ·focus
      refine Zq<|Zp<|Zu Z<|Vb v Z<|Vk Kp Z h<|Vi Z<|Zn<|Zs Z (fun h4=>?_) (fun h4=>?_);refine Zv<|Zq<|Zw<|Vf<|Up Z<|Zu Z<|Vr Z<|Vb v Z<|Zu Z<|Yb Kp Kt Kz Z (fun _=>Z) Z h E7 Z Kf ?_;rintro _ u1 hu1;refine Zu Z<|Yb Kn Kl Km Z (fun _=>Z) Z hu1 E7 Z Kf ?_;rintro _ _ rfl;refine Wo Z (Ur Kn Kl Z Z Ka) ?_;refine Nb Z Kl Z Z hO1.toB Kf Owned.int (Nat.le_refl _) Ka ?_;rintro w8 hO1 On1 K1 hz1;have E8:=On1.ext1 E7 Ka;have hO0:=hO0.wrote K1 Ka
      refine Zn<|Vf<|Zu Z<|Vr Z<|Vg Z<|Zn ?_;rotate_left;(exfalso;omega)
     refine ⟨(j+1),Kg,Kh,?_,?_⟩
     ·refine ⟨by exact E8,Ka,Ka,by exact hO0,?_⟩
      rw [← shift_row j Ka Ka]
      have e:(1+(j:Int)).toNat=1+j:=Ka
      rw [← e]
      assumption
     ·omega
    ·obtain rfl:j=p.length:=by omega
     focus
      have szE7:=E7.size;have szE5:=E5.size;refine Zq<|Zp<|Zu Z<|Vb v Z<|Vk Kp Z h<|Vi Z<|Zn<|Zt Z fun h4=>?_;refine Vw ?_;refine Vd ?_;refine Vf<|Vb o Z<|Up Z<|Xm (ps:=[(0,.slice _ _ _)]) (cs:=[_]) Z Kp Kt Jv Z Z Z Z ?_;rintro b4 w8 hb4 E8 hB1;have hs4:=E8.size;refine Xh Z Ra Z Z hB1 (hO0.ext E8) (hO1.toB.ext E8).o Ka Kf Ka Ka (E7.trans E8) Ka ?_;rintro v1 w9 hO0 E9 M1;refine Yr v1 Z<|Zn<|Vf<|Zu Z<|Vr Z<|Vg Z<|Zn ?_
     refine ⟨((k+1,v1)),Kg,Kh,?_,?_⟩
     ·refine ⟨by exact E9,Ka,?_⟩
      rw [Yd _ _ hlt,List.map_append,← List.cons_append]
      have e:List.replicate 1 (0:Int)++p[k].take p.length++List.replicate ((1+(p.length:Int)+(q.length:Int)).toNat - 1 - p.length) 0=List.replicate 1 0++p[k]++List.replicate q.length 0:=by
       rw [List.take_of_length_le Ka];congr 2;omega
      simp only [List.map_cons,List.map_nil]
      rw [← e]
      assumption
     ·simp only;omega
   ·obtain rfl:k=p.length:=by omega
    rw [List.take_length] at hO0 htl
    focus
     refine Zq<|Zp<|Zu Z<|Vb v Z<|Vk Kp Z h<|Vi Z<|Zn<|Zt Z fun h3=>?_;refine Vw ?_;refine Vd ?_;refine Zq<|Zp<|Vg Z<|Zn<|Zw ?_
    refine Vy [10,16,17,18,90,91,92,93,94,95,96,97,98,99,100,101,102,103,104,105,106,107,108,109,110,111,112,113,114,115,116,117,118,119,120,121] (fun ((k,o):Nat × Value)=>[(16,.int .i64 (k:Nat)),(10,o)]) (fun (k,o) w'=>Ext w w'∧k≤q.length∧Owned w.heap.size XR w' o ((ro g ms::p.map fun r=>List.replicate 1 0++r++List.replicate q.length 0)++(q.take k).map fun r=>List.replicate (1+p.length) 0++r)) (fun x=>q.length - x.1) (0,o) Kg ?_ ?_
    ·exact ⟨by exact E5,Nat.zero_le _,by simpa using hO0⟩
    clear hO0
    rintro ⟨k,o2⟩ ρm w6 ⟨E6,hk,hO0⟩
    have htl2:((ro g ms::p.map fun r=>List.replicate 1 0++r++List.replicate q.length 0)++(q.take k).map fun r=>List.replicate (1+p.length) 0++r).length=p.length+1+k:=by rw [List.length_append,htl];simp;omega
    by_cases hlt:k < q.length
    ·have hrow:=hqrow k hlt
     focus
      have szE6:=E6.size;refine Zq<|Zp<|Zu Z<|Vb u Z<|Vk Kp Z h'<|Vi Z<|Zn<|Zs Z (fun h4=>?_) (fun h4=>?_);refine Zv<|Zq<|Zw<|Zp<|Zu Z<|Tw Z Ux (int_z Ka Z) Ka ?_;rintro b3 w7 hb3 b3lt E7 hO1;have hs3:=E7.size;refine Ys Z<|Zn<|Zq<|Zq<|Vf<|Vg Z<|Zn<|Zw ?_;rotate_left;(exfalso;omega)
     have hrl3 : ∀ j,j≤q.length→(List.replicate (1+p.length) (0:Int)++q[k].take j++List.replicate ((1+(p.length:Int)+(q.length:Int)).toNat - (1+p.length) - j) 0).length=g+1:=fun j hj=>by simp;omega
     refine Vy [18,98,99,100,101,102,103,104,105,106,107,108,109,110,111,112,113,114,115,116,117] (fun (j:Nat)=>[(18,.int .i64 (j:Nat))]) (fun j w'=>Ext w w'∧w6.heap.size≤w'.heap.size∧j≤q.length∧OwnedB w.heap.size w6.heap.size XR w' o2 ((ro g ms::p.map fun r=>List.replicate 1 0++r++List.replicate q.length 0)++(q.take k).map fun r=>List.replicate (1+p.length) 0++r)∧Owned w6.heap.size XI w' (.slice (some ⟨b3,0,none⟩) (1+(p.length:Int)+(q.length:Int)).toNat (1+(p.length:Int)+(q.length:Int)).toNat) (List.replicate (1+p.length) 0++q[k].take j++List.replicate ((1+(p.length:Int)+(q.length:Int)).toNat - (1+p.length) - j) 0)) (fun j=>q.length - j) 0 Kg ?_ ?_
     ·refine ⟨by exact (E6.trans E7),Ka,Nat.zero_le _,hO0.toB.ext (by exact E7),?_⟩
      rw [show List.replicate (1+p.length) (0:Int)++q[k].take 0++List.replicate ((1+(p.length:Int)+(q.length:Int)).toNat - (1+p.length) - 0) 0=List.replicate (1+(p.length:Int)+(q.length:Int)).toNat 0 by
       rw [List.take_zero,List.append_nil,List.replicate_append_replicate];congr 1;omega]
      exact hO1
     clear hO0 hO1
     rintro j ρn w8 ⟨E8,hs8,hj,hO0,hO1⟩
     have hrj:=hrl3 j hj
     by_cases hjl:j < q.length
     ·focus
       refine Zq<|Zp<|Zu Z<|Vb u Z<|Vk Kp Z h'<|Vi Z<|Zn<|Zs Z (fun h5=>?_) (fun h5=>?_);refine Zv<|Zq<|Zw<|Vf<|Up Z<|Vb v Z<|Vk Kp Z h<|Vr Z<|Zu Z<|Vr Z<|Vb u Z<|Zu Z<|Yb Kp Kt Kz Z (fun _=>Z) Z h' E8 Z Kf ?_;rintro _ u1 hu1;refine Zu Z<|Yb Kn Kl Km Z (fun _=>Z) Z hu1 E8 Z Kf ?_;rintro _ _ rfl;refine Wo Z (Ur Kn Kl Z Z Ka) ?_;refine Nb Z Kl Z Z hO1.toB Kf Owned.int (Nat.le_refl _) Ka ?_;rintro w9 hO1 On1 K1 hz1;have E9:=On1.ext1 E8 Ka
       have hO0:=hO0.wrote K1 Ka;refine Zn<|Vf<|Zu Z<|Vr Z<|Vg Z<|Zn ?_;rotate_left;(exfalso;omega)
      refine ⟨(j+1),Kg,Kh,?_,?_⟩
      ·refine ⟨by exact E9,Ka,Ka,by exact hO0,?_⟩
       rw [← shift_row j Ka Ka]
       have e:(1+(p.length:Int)+(j:Int)).toNat=1+p.length+j:=Ka
       rw [← e]
       assumption
      ·omega
     ·obtain rfl:j=q.length:=by omega
      focus
       have szE8:=E8.size;have szE6:=E6.size;refine Zq<|Zp<|Zu Z<|Vb u Z<|Vk Kp Z h'<|Vi Z<|Zn<|Zt Z fun h5=>?_;refine Vw ?_;refine Vd ?_;refine Vf<|Vb o2 Z<|Up Z<|Xm (ps:=[(0,.slice _ _ _)]) (cs:=[_]) Z Kp Kt Jv Z Z Z Z ?_;rintro b4 w9 hb4 E9 hB1;have hs4:=E9.size;refine Xh Z Ra Z Z hB1 (hO0.ext E9) (hO1.toB.ext E9).o Ka Kf Ka Ka (E8.trans E9) Ka ?_;rintro v1 w10 hO0 E10 M1;refine Yr v1 Z<|Zn<|Vf<|Zu Z<|Vr Z<|Vg Z<|Zn ?_
      refine ⟨((k+1,v1)),Kg,Kh,?_,?_⟩
      ·refine ⟨by exact E10,Ka,?_⟩
       rw [Yd _ _ hlt,List.map_append,← List.append_assoc]
       have e:List.replicate (1+p.length) (0:Int)++q[k].take q.length++List.replicate ((1+(p.length:Int)+(q.length:Int)).toNat - (1+p.length) - q.length) 0=List.replicate (1+p.length) 0++q[k]:=by
        rw [List.take_of_length_le Ka,show (1+(p.length:Int)+(q.length:Int)).toNat - (1+p.length) - q.length=0 by omega];simp
       simp only [List.map_cons,List.map_nil]
       rw [← e]
       assumption
      ·simp only;omega
    ·obtain rfl:k=q.length:=by omega
     focus
      refine Zq<|Zp<|Zu Z<|Vb u Z<|Vk Kp Z h'<|Vi Z<|Zn<|Zt Z fun h4=>?_;refine Vw ?_;refine Vd ?_;refine Zp<|Vb o2 Z<|Yr o2 Z<|Zn<|Zy ?_;refine ⟨E6,(congrArg (Owned _ _ _ _) ?_).mp (hO0.toB.o.mono Ka)⟩
     rw [List.take_length,put_eq,bes_len,← hg]
     unfold bes
     rw [List.map_append,List.map_map,List.map_map]
     simp only [List.cons_append,List.cons.injEq,true_and]
     congr 1
     ·refine List.map_congr_left fun r _=>?_
      simp [Nat.add_comm 1,List.replicate_succ]
theorem l6Least_ok (w:World) (v:Value) (p:List (List Int)) (h:ESl Ints w v p) (hp:Gr p) :
  Does Tryz.prog 175 [v] w (RetOB w XR (if (lst p 0).length≤5 then lst p 0 else []) (decide ((lst p 0).length≤5))):=by
 have hp5:=hp.2.1
 have hp1:=hp.1
 have hkl:=Sy (p:=p)
 have k1 : ∀ w,Does Tryz.prog 202 [.int .i64 (p.length:Int)] w (RetO w XR (matV p (bsm p 0))):=fun w=>by
  have:=l3Start_ok w p.length hp5
  rwa [matV_zero] at this
 have k2 : ∀ (n:Nat) (w:World) (v v':Value),ESl Ints w v p→ESl Ints w v' (matV p (bsm p n))→Does Tryz.prog 203 [v,v'] w (RetO w XR (matV p (bsm p (n+1)))):=fun n w v v' h h'=>l3Round_ok w v v' p h hp _ h'
 refine Xp Tryz.func175 Z Tryz.results175 Tryz.ntmps175 Z ?_
 focus
  refine Zp<|Ys Z<|Zz Z<|Zn<|Zp<|Vb v Z<|Vk Kp Z h<|Zr Z (Vx (a:=.int _ _) Tryz.call202 Z) (k1 _) ?_;rintro u1 w1 ⟨E1,hO1⟩;refine Yr u1 Z<|Zn<|Zq<|Zp<|Vg Z<|Zn<|Zw ?_
 refine Vy [4,5,17,18,19,20,21,22,23,24,25] (fun ((n,u):Nat × Value)=>[(5,.int .i64 (n:Nat)),(4,u)]) (fun (n,u) w'=>Ext w w'∧n≤p.length∧Owned w.heap.size XR w' u (matV p (bsm p n))) (fun x=>p.length - x.1) (0,u1) Kg ?_ ?_
 ·exact ⟨by exact E1,Nat.zero_le _,hO1⟩
 clear hO1
 rintro ⟨n,um⟩ ρj w2 ⟨E2,hn,hO1⟩
 have k2n:=k2 n
 by_cases hnl:n < p.length
 ·focus
   have szE2:=E2.size;refine Zq<|Zp<|Zu Z<|Vb v Z<|Vk Kp Z h<|Vi Z<|Zn<|Zs Z (fun h1=>?_) (fun h1=>?_);refine Zv<|Zq<|Zw<|Vf<|Vb v Z<|Vb um Z<|Zr Z (Yg (a:=v) (b:=um) Tryz.call203 Z Z) (k2n _ _ _ ((Mono.mono E2 h)) ((Owned.read hO1))) ?_;rintro u2 w3 ⟨E3,hO2⟩;refine Yr u2 Z<|Zn<|Vf<|Zu Z<|Vr Z<|Vg Z<|Zn ?_;rotate_left;(exfalso;omega)
  refine ⟨((n+1,u2)),Kg,Kh,?_,?_⟩
  ·exact ⟨by exact exq,Ka,hO2.mono Ka⟩
  ·simp only;omega
 ·obtain rfl:n=p.length:=by omega
  clear k1 k2 k2n
  have hml:=Qb (p:=p) (bsm p p.length)
  have rM:=hO1.read
  clear hO1
  focus
   have szE2:=E2.size;refine Zq<|Zp<|Zu Z<|Vb v Z<|Vk Kp Z h<|Vi Z<|Zn<|Zt Z fun h1=>?_;refine Vw ?_;refine Vd ?_;refine Zq<|Vf<|Yz XInt Z Ux Kl ?_;rintro b1 w3 hb1 b1lt E3 hO1;refine Ys Z<|Zn<|Zq<|Zq<|Vf<|Vg Z<|Zn<|Zw ?_
  refine Vy [6,7,8,27,28,29,30,31,32,33,34,35,36,37,38,39,40,41,42,43,44,45,46,47,48,49,50] (fun ((k,u):Nat × Value)=>[(7,.int .i64 (k:Nat)),(6,u)]) (fun (k,u) w'=>Ext w2 w'∧k≤p.length∧Owned w2.heap.size XI w' u ((ints (kndL p)).take k)) (fun x=>p.length - x.1) (0,.slice (some ⟨b1,0,none⟩) 0 0) Kg ?_ ?_
  ·exact ⟨by exact E3,Nat.zero_le _,by simpa using hO1⟩
  clear hO1
  rintro ⟨k,uk⟩ ρk w4 ⟨E4,hk,hO1⟩
  have htl:((ints (kndL p)).take k).length=k:=by simp;omega
  by_cases hlt:k < p.length
  ·obtain ⟨g1,g2,g3⟩:=Tl hlt
   focus
    have szE4:=E4.size;refine Zq<|Zp<|Zu Z<|Vb v Z<|Vk Kp Z h<|Vi Z<|Zn<|Zs Z (fun h2=>?_) (fun h2=>?_);refine Zv<|Zq<|Zw<|Zp<|Vg Z<|Zn<|Zw ?_;rotate_left;(exfalso;omega)
   refine Vy [6,8,33,34,35,36,37,38,39,40,41,42,43,44,45,46,47,48,49,50] (fun (j:Nat)=>[(8,.int .i64 (j:Nat)),(6,uk)]) (fun j w'=>w'=w4∧j≤knd p k) (fun j=>p.length - j) 0 Kg ?_ ?_
   ·exact ⟨rfl,Nat.zero_le _⟩
   rintro j ρl w5 ⟨rfl,hj⟩
   have hmr:=Qx (p:=p) (S:=bsm p p.length) hlt
   have hma:=Se (p:=p) (S:=bsm p p.length) (a:=k) (b:=j) hlt Ka
   rcases Nat.lt_or_ge j (knd p k) with hjl | hjl
   ·have h0:((matV p (bsm p p.length))[k]'Ka)[j]'Ka=0:=by rw [hma,show bsm p p.length k j=false from g3 j hjl];rfl
    focus
     refine Zq<|Zp<|Zu Z<|Vb v Z<|Vk Kp Z h<|Vi Z<|Zn<|Zs Z (fun h3=>?_) (fun h3=>?_);refine Zv<|Zq<|Zw<|Zp<|Vb um Z<|Zu Z<|Yb Kp Kt Kz Z (fun _=>Z) Z rM E4 Z Kf ?_;rintro _ u2 hu1;refine Zu Z<|Yb Kn Kl Km Z (fun _=>Z) Z hu1 E4 Z Kf ?_;rintro _ _ rfl;refine Vm Z<|Zn<|Zt Z fun h4=>?_;refine Zv<|Vf<|Zu Z<|Vr Z<|Vg Z<|Zn ?_;rotate_left;(exfalso;omega)
    refine ⟨(j+1),Kg,Kh,?_,?_⟩
    ·exact ⟨rfl,Ka⟩
    ·omega
   ·obtain rfl:j=knd p k:=by omega
    have h1:((matV p (bsm p p.length))[k]'Ka)[knd p k]'Ka=1:=by rw [hma,show bsm p p.length k (knd p k)=true from g2];rfl
    focus
     have szE4:=E4.size;have szE2:=E2.size;refine Zq<|Zp<|Zu Z<|Vb v Z<|Vk Kp Z h<|Vi Z<|Zn<|Zs Z (fun h3=>?_) (fun h3=>?_);refine Zv<|Zq<|Zw<|Zp<|Vb um Z<|Zu Z<|Yb Kp Kt Kz Z (fun _=>Z) Z rM E4 Z Kf ?_;rintro _ u2 hu1;refine Zu Z<|Yb Kn Kl Km Z (fun _=>Z) Z hu1 E4 Z Kf ?_;rintro _ _ rfl;refine Vm Z<|Zn<|Zs Z (fun h4=>?_) (fun h4=>?_);refine Zp<|Vb uk Z<|Zu Z<|Ye (ps:=[(0,.int _ _)]) (cs:=[_]) Z Kn Kl Jg Z Z Z Z ?_;rintro b2 w4 hb2 E5 hB1 hHb2;have hs3:=E5.size
     refine Xh Z Ux Z Z hB1 (hO1.toB.ext E5) Owned.int (Nat.le_refl _) Kf Ka Ka ((E2.trans E4).trans E5) Ka ?_;have hT1:=(hO1.toB.ext E5);rintro v1 w6 hO1 E6 M1;have E7:=M1.ext hT1 (E4.trans E5) Ka;refine Yr v1 Z<|Zn<|Vw ?_;refine exitX_other Z ?_;refine Vd ?_;refine Vf<|Zu Z<|Vr Z<|Vg Z<|Zn ?_;rotate_left;contradiction;(exfalso;omega)
    refine ⟨((k+1,v1)),Kg,Kh,?_,?_⟩
    ·refine ⟨by exact E7,Ka,?_⟩
     rw [Yd _ _ Ka,Re]
     exact hO1
    ·simp only;omega
  ·obtain rfl:k=p.length:=by omega
   rw [List.take_of_length_le Ka] at hO1
   have rK:=hO1.read
   clear hO1
   focus
    have szE4:=E4.size;refine Zq<|Zp<|Zu Z<|Vb v Z<|Vk Kp Z h<|Vi Z<|Zn<|Vj Z fun h2=>?_;refine Vw ?_;refine Vd ?_;refine Zp<|Ye (ps:=[(0,.int _ _)]) (cs:=[_]) Z Kn Kl Jg Z Z Z Z ?_;rintro b2 w5 hb2 E5 hB1 hHb2;refine Ys Z<|Zn<|Zq<|Zp<|Vg Z<|Zn<|Zw ?_
   have hO2:Owned w4.heap.size XI w5 (.slice (some ⟨b2,0,none⟩) 1 1) (ints [0]):=Owned.block hHb2 hb2 rfl Kc ⟨⟨rfl,rfl⟩,trivial⟩
   clear hHb2 hB1
   refine Vy [9,10,11,12,13,52,53,54,55,56,57,58,59,60,61,62,63,64,65,66,67,68,69,70,71,72,73,74,75,76,77,78,79,80,81,82,83,84,85,86,87,88,89,90,91,92,93,94,95,96,97,98,99,100] (fun ((t,u,L):Nat × Value × List Nat)=>[(10,.int .i64 (t:Nat)),(9,u)]) (fun (t,u,L) w'=>Ext w4 w'∧Owned w4.heap.size XI w' u (ints L)∧Wlk p L∧t≤L.length∧∀ x ∈ L.take t,∀ j ∈ arr p x,knd p j ∈ L.map (knd p)) (fun x=>p.length - x.1) (0,.slice (some ⟨b2,0,none⟩) 1 1,[0]) Kg ?_ ?_
   ·exact ⟨by exact E5,hO2,Wlk.zero,Nat.zero_le _,Ki⟩
   clear hO2
   rintro ⟨t,u,L⟩ ρl w6 ⟨E6,hO2,hW,ht,hcl⟩
   have hLl:=hW.len hp
   have hLil:=Yy L
   by_cases htl:t < L.length
   ·obtain ⟨X,hX⟩ : ∃ X,X=L[t]:=⟨_,rfl⟩
    have hXl:X < p.length:=hX ▸ hW.lt hp (List.getElem_mem htl)
    have hrow:=hp.row hXl
    focus
     refine Zq<|Zp<|Zu Z<|Vb u Z<|Vk Kn Z (Owned.read hO2)<|Vi Z<|Zn<|Zs Z (fun h3=>?_) (fun h3=>?_);refine Zv<|Zq<|Zw<|Zp<|Vg Z<|Zn<|Zw ?_;rotate_left;(exfalso;omega)
    refine Vy [9,11,12,13,58,59,60,61,62,63,64,65,66,67,68,69,70,71,72,73,74,75,76,77,78,79,80,81,82,83,84,85,86,87,88,89,90,91,92,93,94,95,96,97,98,99,100] (fun ((j,u,L'):Nat × Value × List Nat)=>[(11,.int .i64 (j:Nat)),(9,u)]) (fun (j,u,L') w'=>Ext w4 w'∧j≤p.length∧Owned w4.heap.size XI w' u (ints L')∧Wlk p L'∧(∃ e,L'=L++e)∧∀ j' ∈ arr p X,j' < j→knd p j' ∈ L'.map (knd p)) (fun x=>p.length - x.1) (0,u,L) Kg ?_ ?_
    ·exact ⟨by exact E6,Nat.zero_le _,hO2,hW,⟨[],Ki⟩,fun j' _ h=>Ka⟩
    clear hO2
    rintro ⟨j,u',L'⟩ ρm w7 ⟨E7,hj,hO2,hW',⟨e,he⟩,hcl'⟩
    have hLl':=hW'.len hp
    have hLil':=Yy L'
    have htl':t < L'.length:=by rw [he];simp;omega
    have hXt:L'[t]=X:=by simp only [he];rw [List.getElem_append_left htl,hX]
    have hXm:X ∈ L':=hXt ▸ List.getElem_mem htl'
    have hgt:(ints L')[t]'Ka=(X:Int):=by rw [Xz htl',hXt]
    by_cases hjl:j < p.length
    ·have hgX:(p[((ints L')[t]'Ka).toNat]'(by rw [hgt];omega))=p[X]:=by simp only [hgt,Int.toNat_natCast]
     have hgXl:(p[((ints L')[t]'Ka).toNat]'(by rw [hgt];omega)).length=p.length:=by rw [hgX];exact hrow
     have hgXj:(p[((ints L')[t]'Ka).toNat]'(by rw [hgt];omega))[j]'Ka=p[X][j]:=by simp only [hgt,Int.toNat_natCast]
     have harX:j ∈ arr p X↔p[X][j]=1:=by
      rw [Uo hp hXl];unfold bit;rw [Ya hXl,Ya (show j < p[X].length by omega)]
      exact ⟨fun h=>h.2,fun h=>⟨hjl,h⟩⟩
     focus
      have szE7:=E7.size;refine Zq<|Zp<|Zu Z<|Vb v Z<|Vk Kp Z h<|Vi Z<|Zn<|Zs Z (fun h4=>?_) (fun h4=>?_);refine Zv<|Zq<|Zw<|Zp<|Vb v Z<|Vb u' Z<|Zu Z<|Yb Kn Kl Km Z (fun _=>Z) Z (Owned.read hO2) (Ext.refl _) Z Kf ?_;rintro _ _ rfl;refine Qr Kp Kt Kz Z (fun _=>Z) Z h exq Z Kf ?_;rintro _ u2 hu1;refine Zu Z<|Yb Kn Kl Km Z (fun _=>Z) Z hu1 exq Z Kf ?_;rintro _ _ rfl;refine Vm Z<|Zz Z<|Zn<|Zq<|Zp<|Vg Z<|Zn<|Zw ?_;rotate_left;(exfalso;omega)
     refine Vy [12,13,75,76,77,78,79,80,81,82,83,84,85,86,87,88,89,90,91,92,93,94,95] (fun ((m,f):Nat × Bool)=>[(13,.int .i64 (m:Nat)),(12,.bool f)]) (fun (m,f) w'=>Ext w7 w'∧m≤L'.length∧(f=true↔j ∈ arr p X∧knd p j ∉ (L'.take m).map (knd p))) (fun x=>L'.length - x.1) (0,decide ((p[((ints L')[t]'Ka).toNat]'(by rw [hgt];omega))[j]'Ka=1)) Kg ?_ ?_
     ·refine ⟨Ext.refl _,Nat.zero_le _,?_⟩
      rw [decide_eq_true_iff,hgXj,harX];simp
     rintro ⟨m,f⟩ ρn w9 ⟨E9,hm,hf⟩
     by_cases hml2:m < L'.length
     ·have hLm:=hW'.lt hp (List.getElem_mem hml2)
      have hgm:(ints L')[m]'Ka=(L'[m]:Int):=Xz hml2
      have hkm:(ints (kndL p))[((ints L')[m]'Ka).toNat]'(by rw [hgm,hkl];omega)=(knd p L'[m]:Int):=by
       simp only [hgm,Int.toNat_natCast];exact Re _
      have hkj:(ints (kndL p))[j]'Ka=(knd p j:Int):=Re _
      have hts:=Yd _ _ hml2
      have bm:((ints L')[m]'Ka).toNat < (ints (kndL p)).length:=by rw [hkl,hgm];omega
      cases f
      ·focus
        refine Zq<|Zp<|Zu Z<|Vb u' Z<|Vk Kn Z (Owned.read hO2)<|Vi Z<|Zn<|Zs Z (fun h5=>?_) (fun h5=>?_);refine Zv<|Zq<|Zw<|Xx Xr Kb Z ?_;refine Rv Z<|Rv Z<|Va Z<|Va Z<|Va Z<|Va Z<|Va Z<|Va Z<|Va Z<|Va Z<|Va Z<|Va Z<|Va Z<|Va Z<|Rc Z<|Tp Z<|Xu (fun w8 E8=>?_);refine Vf<|Zu Z<|Vr Z<|Vg Z<|Zn ?_;rotate_left;(exfalso;omega)
       refine ⟨((m+1,false)),Kg,Kh,?_,?_⟩
       ·refine ⟨by exact exq,Ka,⟨fun h=>(by cases h),fun h=>?_⟩⟩
        rw [hts,List.map_append,List.mem_append,not_or] at h
        exact absurd (hf.2 ⟨h.1,h.2.1⟩) Ki
       ·simp only;omega
      ·focus
        refine Zq<|Zp<|Zu Z<|Vb u' Z<|Vk Kn Z (Owned.read hO2)<|Vi Z<|Zn<|Zs Z (fun h5=>?_) (fun h5=>?_);refine Zv<|Zq<|Zw<|Xx Xr Kb Z ?_;refine Rv Z<|Rv Z<|Qj uk Z<|Qj u' Z<|Rf Z<|Xn Kn Kl Km Z (fun _=>Z) Z (Owned.read hO2) E9 Z Kf ?_;rintro _ _ rfl;refine Ti Kn Kl Km Z (fun _=>Z) Z rK exq Z Kf ?_;rintro _ _ rfl;refine Qj uk Z<|Rf Z<|Xn Kn Kl Km Z (fun _=>Z) Z rK exq Z Kf ?_;rintro _ _ rfl;refine Wqneq Z<|Nt Z<|Tp Z<|Xu (fun w8 E8=>?_)
        refine Vf<|Zu Z<|Vr Z<|Vg Z<|Zn ?_;rotate_left;(exfalso;omega)
       refine ⟨((m+1,!decide ((ints (kndL p))[((ints L')[m]'Ka).toNat]'bm=(ints (kndL p))[j]'Ka))),Kg,Kh,?_,?_⟩
       ·refine ⟨by exact exq,Ka,?_⟩
        rw [hkm,hkj,hts,List.map_append,List.mem_append,not_or]
        have hf':=hf.1 rfl
        simp only [List.map_cons,List.map_nil,List.mem_singleton,Bool.not_eq_true',decide_eq_false_iff_not]
        constructor
        ·intro h;exact ⟨hf'.1,hf'.2,fun e=>h (by rw [e])⟩
        ·intro h e;exact h.2.2 Ka
       ·simp only;omega
     ·obtain rfl:m=L'.length:=by omega
      rw [List.take_length] at hf
      cases f
      ·focus
        refine Zq<|Zp<|Zu Z<|Vb u' Z<|Vk Kn Z (Owned.read hO2)<|Vi Z<|Zn<|Zt Z fun h5=>?_;refine Vw ?_;refine Vd ?_;refine Zp<|Yi Z<|Zn<|Zx Z ?_;refine Zv<|Vf<|Zu Z<|Vr Z<|Vg Z<|Zn ?_
       refine ⟨((j+1,u',L')),Kg,Kh,?_,?_⟩
       ·refine ⟨by exact exq,Ka,by exact (Mono.mono E9 hO2),hW',⟨e,he⟩,fun j' h1 h2=>?_⟩
        rcases Nat.lt_or_ge j' j with h3 | h3
        ·exact hcl' j' h1 h3
        ·obtain rfl:j'=j:=by omega
         exact Classical.byContradiction fun h=>absurd (hf.2 ⟨h1,h⟩) Ki
       ·simp only;omega
      ·obtain ⟨hf1,hf2⟩:=hf.1 rfl
       focus
        have szE9:=E9.size;have szE7:=E7.size;refine Zq<|Zp<|Zu Z<|Vb u' Z<|Vk Kn Z (Owned.read hO2)<|Vi Z<|Zn<|Zt Z fun h5=>?_;refine Vw ?_;refine Vd ?_;refine Zp<|Yi Z<|Zn<|Vv Z ?_;refine Vf<|Vb u' Z<|Zu Z<|Ye (ps:=[(0,.int _ _)]) (cs:=[_]) Z Kn Kl Jg Z Z Z Z ?_;rintro b3 w8 hb3 E8 hB1 hHb3;have hs4:=E8.size;refine Xh Z Ux Z Z hB1 (hO2.toB.ext (E9.trans E8)) Owned.int (Nat.le_refl _) Kf Ka Ka ((((E2.trans E4).trans E7).trans E9).trans E8) Ka ?_;have hT1:=(hO2.toB.ext (E9.trans E8));rintro v1 w10 hO2 E10 M1;have E12:=M1.ext hT1 ((E7.trans E9).trans E8) Ka;have hB1:=hB1.moves M1 hT1 Ka
        refine Yr v1 Z<|Zn<|Vf<|Zu Z<|Vr Z<|Vg Z<|Zn ?_
       refine ⟨((j+1,v1,L'++[j])),Kg,Kh,?_,?_⟩
       ·refine ⟨by exact E12,Ka,?_,hW'.step hXm hf1 hf2,⟨e++[j],by rw [he,List.append_assoc]⟩,fun j' h1 h2=>?_⟩
        ·rw [ints_append];assumption
        ·rw [List.map_append,List.mem_append]
         rcases Nat.lt_or_ge j' j with h3 | h3
         ·exact .inl (hcl' j' h1 h3)
         ·obtain rfl:j'=j:=by omega
          exact .inr Ki
       ·simp only;omega
    ·obtain rfl:j=p.length:=by omega
     focus
      refine Zq<|Zp<|Zu Z<|Vb v Z<|Vk Kp Z h<|Vi Z<|Zn<|Vj Z fun h4=>?_;refine Vw ?_;refine Vd ?_;refine Vf<|Zu Z<|Vr Z<|Vg Z<|Zn ?_
     refine ⟨((t+1,u',L')),Kg,Kh,?_,?_⟩
     ·refine ⟨by exact E7,by exact hO2,hW',Ka,fun x hx j' hj'=>?_⟩
      rw [Yd _ _ htl'] at hx
      rcases List.mem_append.1 hx with hx | hx
      ·have hx2:x ∈ L.take t:=by rw [he,List.take_append_of_le_length Ka] at hx;exact hx
       have:=hcl x hx2 j' hj'
       rw [he,List.map_append]
       exact List.mem_append_left _ this
      ·rw [List.mem_singleton.1 hx,hXt] at hj'
       exact hcl' j' hj' (Xy hp hXl hj')
     ·simp only;omega
   ·obtain rfl:t=L.length:=by omega
    rw [List.take_length] at hcl
    have hKds:=hW.kds hp hcl
    have hLlt : ∀ x ∈ L,x < p.length:=fun x hx=>hW.lt hp hx
    have hC:Cand p 0 (qp p (L.map (knd p))):=⟨_,hKds,rfl⟩
    have hcl2:(qp p (L.map (knd p))).length=L.length:=by rw [qp_len,List.length_map]
    have hll:=lst_len hp hp1 hC
    rw [hcl2] at hll
    by_cases h5:L.length≤5
    ·have h5':(lst p 0).length≤5:=by omega
     have hPc:=hC.pic hp hp1 Ka
     have k4 : ∀ (w:World) (v u t:Value),ESl Ints w v p→Ints w u (ints (kndL p))→Ints w t (ints L)→Does Tryz.prog 195 [v,u,t] w (RetO w XR (qp p (L.map (knd p)))):=fun w v u t h1 h2 h3=>by
      rw [← ptV_qp hp hLlt]
      refine l4Part_ok w v u t p _ _ h1 h2 h3 hp hkl (fun x hx=>?_) (by rw [Yy];omega)
      obtain ⟨y,hy,rfl⟩:=List.mem_map.1 hx
      have:=hLlt y hy
      omega
     have k5 : ∀ (w:World) (v:Value),ESl Ints w v (qp p (L.map (knd p)))→Does Tryz.prog 126 [v,.int .i64 0] w (RetO w XR (lst p 0)):=fun w v h=>by
      have:=Sz w v _ h 0
      rw [if_pos ⟨hPc,Kc,by have:=hPc.1;omega⟩] at this
      rw [(lst_same hp (hC.gr hp hp1) hp1 hPc.1).2 (hC.bis hp hp1)]
      exact this
     rw [if_pos h5',decide_eq_true h5']
     focus
      have szE6:=E6.size;refine Zq<|Zp<|Zu Z<|Vb u Z<|Vk Kn Z (Owned.read hO2)<|Vi Z<|Zn<|Zt Z fun h3=>?_;refine Vw ?_;refine Vd ?_;refine Zq<|Zp<|Vb u Z<|Vk Kn Z (Owned.read hO2)<|Qe Z<|Zn<|Zt Z fun h4=>?_;refine Zv<|Zq<|Vf<|Vb v Z<|Vb uk Z<|Vb u Z<|Zr Z (Ud (a:=v) (b:=uk) (c:=u) Tryz.call195 Z Z Z) (k4 _ _ _ _ ((Mono.mono exq h)) ((Mono.mono E6 rK)) ((Owned.read hO2))) ?_;rintro u2 w7 ⟨E7,hO1⟩;have hs4:=E7.size;refine Zr Z (Yg (a:=u2) (b:=.int _ _) Za Z Z) (k5 _ _ ((Owned.read hO1))) ?_;rintro u3 w8 ⟨E8,hO3⟩;refine Yr u3 Z<|Zz Z<|Zn<|Zy ?_;refine Ve (v:=.tuple #[u3,.bool _]) Z ?_;exact ⟨_,rfl,exq,hO3.toB.o.mono Ka⟩
    ·have h5' : ¬(lst p 0).length≤5:=by omega
     rw [if_neg h5',decide_eq_false h5']
     focus
      have szE6:=E6.size;refine Zq<|Zp<|Zu Z<|Vb u Z<|Vk Kn Z (Owned.read hO2)<|Vi Z<|Zn<|Zt Z fun h3=>?_;refine Vw ?_;refine Vd ?_;refine Zq<|Zp<|Vb u Z<|Vk Kn Z (Owned.read hO2)<|Qe Z<|Zn<|Zs Z (fun h4=>?_) (fun h4=>?_);refine Zp<|Yz (XSl 3 XInt) Z Ra Kt ?_;rintro b3 w7 hb3 b3lt E7 hO1;refine Ys Z<|Zz Z<|Zn<|Zy ?_;refine Ve (v:=.tuple #[.slice _ _ _,.bool _]) Z ?_;exact ⟨_,rfl,exq,hO1.toB.o.mono Ka⟩;(exfalso;omega)
theorem l6Least_put (w:World) (v:Value) (g:List (List Int)) (ms:List Nat) (h:ESl Ints w v (put g ms)) (hg:Gr g) (hn:g.length≤10) :
  Does Tryz.prog 175 [v] w (RetOB w XR (og (putV g ms)) (putV g ms).isSome):=by
 rw [putV_og,putV_is]
 exact l6Least_ok w v _ h (put_gr hg hn)
theorem PairOf_ok (w:World) (v u:Value) (p q:List (List Int)) (h:ESl Ints w v p) (h':ESl Ints w u q) (a b:Nat) (ha:Nod p a) (hb:Nod q b):Does Tryz.prog 141 [v,.int .i64 (a:Int),u,.int .i64 (b:Int)] w (RetOB w XR (og (pairV p a q b)) (pairV p a q b).isSome):=by
 have la:a < p.length:=by have:=ha.2;omega
 have lb:b < q.length:=by have:=hb.2;omega
 have hle:=h.le
 have hle':=h'.le
 have hG:=ha.1.bes5 hb.1
 have n1 : ∀ (w:World) (v:Value),ESl Ints w v p→Does Tryz.prog 118 [v,.int .i64 (a:Int)] w (Ret w (.bool true)):=fun w v h=>by
  have:=Qs w v p h (a:Int);rwa [decide_eq_true ha] at this
 have n2 : ∀ (w:World) (v:Value),ESl Ints w v q→Does Tryz.prog 118 [v,.int .i64 (b:Int)] w (Ret w (.bool true)):=fun w v h=>by
  have:=Qs w v q h (b:Int);rwa [decide_eq_true hb] at this
 have k1 : ∀ (w:World) (v u vl vr:Value),ESl Ints w v p→ESl Ints w u q→Ints w vl [(a:Int)]→Ints w vr [(b:Int)]→Does Tryz.prog 176 [v,u,vl,vr] w (RetO w XR (put (bes p q) [a,p.length+b])):=fun w v u vl vr h1 h2 h3 h4 =>
  l6Put_ok w v u vl vr p q [a] [b] h1 h2 h3 h4 ha.1 (.inl hb.1) (fun x hx=>by rw [List.mem_singleton.1 hx];exact la) (fun x hx=>by rw [List.mem_singleton.1 hx];exact lb) Ki Ki
 have k2 : ∀ (w:World) (v:Value),ESl Ints w v (put (bes p q) [a,p.length+b])→Does Tryz.prog 175 [v] w (RetOB w XR (og (pairV p a q b)) (pairV p a q b).isSome):=fun w v h=>l6Least_put w v _ _ h hG.1 hG.2
 refine Xp Tryz.func141 Z Tryz.results141 Tryz.ntmps141 Z ?_
 have litown:True:=trivial
 focus
  refine Zp<|Ys Z<|Zz Z<|Zn<|Zq<|Zp<|Vb v Z<|Zu Z<|Zr Z (Yg (a:=v) (b:=.int _ _) Gb Z Z) (n1 _ _ (h)) ?_;rintro _ w1 ⟨rfl,E1⟩;have hs1:=E1.size;refine Ym Z<|Yn Z (Vq (v:=.bool _) Z) (fun h1=>?_) (fun h1=>?_);contradiction;refine Vb u Z<|Zu Z<|Zr Z (Yg (a:=u) (b:=.int _ _) Gb Z Z) (n2 _ _ ((Mono.mono E1 h'))) ?_;rintro _ w2 ⟨rfl,E2⟩;have hs2:=E2.size;refine Ym Z<|Vp Z<|Zn<|Xa Z fun h2=>?_;refine Zv<|Zp<|Vb v Z<|Vb u Z<|Zu Z<|Ye (ps:=[(0,.int _ _)]) (cs:=[_]) Z Kn Kl Jg Z Z Z Z ?_;rintro b1 w3 hb1 E3 hB1 hHb1;have hlb1:=hB1.lt;have hLb1:=own_lit1 hHb1 hb1;clear hHb1;have hs3:=E3.size
  refine Zu Z<|Ye (ps:=[(0,.int _ _)]) (cs:=[_]) Z Kn Kl Jg Z Z Z Z ?_;rintro b2 w4 hb2 E4 hB2 hHb2;have hlb2:=hB2.lt;have hLb2:=own_lit1 hHb2 hb2;clear hHb2;have hs4:=E4.size;refine Zr Z (Qz (a:=v) (b:=u) (c:=.slice _ _ _) (d:=.slice _ _ _) Tryz.call176 Z Z Z Z) (k1 _ _ _ _ _ ((Mono.mono exq h)) ((Mono.mono exq h')) ((Mono.mono E4 (Owned.read hLb1))) ((Owned.read hLb2))) ?_;rintro u1 w5 ⟨E5,hO1⟩;have ichO1:=OwnedB.isC (Owned.toB hO1);have hs5:=E5.size;refine Zr Z (Vx (a:=u1) Tryz.call175 Z) (k2 _ _ ((Owned.read hO1))) ?_;rintro _ w6 ⟨u2,rfl,E6,hO2⟩;have ichO2:=OwnedB.isC (Owned.toB hO2);have hs6:=E6.size;refine Un u2 Z<|Xv Z<|Yr u2 Z<|Zz Z<|Zn<|Zy ?_;refine Ve (v:=.tuple #[u2,.bool _]) Z ?_
  exact ⟨_,rfl,exq,hO2.toB.o.mono Ka⟩
theorem TogetherOf_ok (w:World) (v u:Value) (p q:List (List Int)) (h:ESl Ints w v p) (h':ESl Ints w u q) (a b:Nat) (ha:Nod p a) (hb:Nod q b):Does Tryz.prog 142 [v,.int .i64 (a:Int),u,.int .i64 (b:Int)] w (RetOB w XR (og (togV p a q b)) (togV p a q b).isSome):=by
 have la:a < p.length:=by have:=ha.2;omega
 have lb:b < q.length:=by have:=hb.2;omega
 have hle:=h.le
 have hle':=h'.le
 have hG:=ha.1.bes5 hb.1
 have n1 : ∀ (w:World) (v:Value),ESl Ints w v p→Does Tryz.prog 118 [v,.int .i64 (a:Int)] w (Ret w (.bool true)):=fun w v h=>by
  have:=Qs w v p h (a:Int);rwa [decide_eq_true ha] at this
 have n2 : ∀ (w:World) (v:Value),ESl Ints w v q→Does Tryz.prog 118 [v,.int .i64 (b:Int)] w (Ret w (.bool true)):=fun w v h=>by
  have:=Qs w v q h (b:Int);rwa [decide_eq_true hb] at this
 have c1 : ∀ (w:World) (v:Value),ESl Ints w v p→Does Tryz.prog 119 [v,.int .i64 (a:Int)] w (RetO w XI (ints (arr p a))):=fun w v h=>Te w v p h ha.1.gr a la
 have c2 : ∀ (w:World) (v:Value),ESl Ints w v q→Does Tryz.prog 119 [v,.int .i64 (b:Int)] w (RetO w XI (ints (arr q b))):=fun w v h=>Te w v q h hb.1.gr b lb
 have k1 : ∀ (w:World) (v u vl vr:Value),ESl Ints w v p→ESl Ints w u q→Ints w vl (ints (arr p a))→Ints w vr (ints (arr q b))→Does Tryz.prog 176 [v,u,vl,vr] w (RetO w XR (put (bes p q) (arr p a++(arr q b).map (p.length + ·)))):=fun w v u vl vr h1 h2 h3 h4 =>
  l6Put_ok w v u vl vr p q _ _ h1 h2 h3 h4 ha.1 (.inl hb.1) (fun x hx=>Xy ha.1.gr la hx) (fun x hx=>Xy hb.1.gr lb hx) (by have:=Mh ha.1.gr la;have:=ha.1.2.1;omega) (by have:=Mh hb.1.gr lb;have:=hb.1.2.1;omega)
 have k2 : ∀ (w:World) (v:Value),ESl Ints w v (put (bes p q) (arr p a++(arr q b).map (p.length + ·)))→Does Tryz.prog 175 [v] w (RetOB w XR (og (togV p a q b)) (togV p a q b).isSome):=fun w v h=>by
  rw [togV_eq ha.1.gr hb.1.gr la lb]
  exact l6Least_put w v _ _ h hG.1 hG.2
 refine Xp Tryz.func142 Z Tryz.results142 Tryz.ntmps142 Z ?_
 focus
  refine Zp<|Ys Z<|Zz Z<|Zn<|Zq<|Zp<|Vb v Z<|Zu Z<|Zr Z (Yg (a:=v) (b:=.int _ _) Gb Z Z) (n1 _ _ (h)) ?_;rintro _ w1 ⟨rfl,E1⟩;have hs1:=E1.size;refine Ym Z<|Yn Z (Vq (v:=.bool _) Z) (fun h1=>?_) (fun h1=>?_);contradiction;refine Vb u Z<|Zu Z<|Zr Z (Yg (a:=u) (b:=.int _ _) Gb Z Z) (n2 _ _ ((Mono.mono E1 h'))) ?_;rintro _ w2 ⟨rfl,E2⟩;have hs2:=E2.size;refine Ym Z<|Vp Z<|Zn<|Xa Z fun h2=>?_;refine Zv<|Zp<|Vb v Z<|Vb u Z<|Vb v Z<|Zu Z<|Zr Z (Yg (a:=v) (b:=.int _ _) Zc Z Z) (c1 _ _ ((Mono.mono exq h))) ?_;rintro u1 w3 ⟨E3,hO1⟩;have hs3:=E3.size
  refine Vb u Z<|Zu Z<|Zr Z (Yg (a:=u) (b:=.int _ _) Zc Z Z) (c2 _ _ ((Mono.mono exq h'))) ?_;rintro u2 w4 ⟨E4,hO2⟩;have hs4:=E4.size;refine Zr Z (Qz (a:=v) (b:=u) (c:=u1) (d:=u2) Tryz.call176 Z Z Z Z) (k1 _ _ _ _ _ ((Mono.mono exq h)) ((Mono.mono exq h')) ((Mono.mono E4 (Owned.read hO1))) ((Owned.read hO2))) ?_;rintro u3 w5 ⟨E5,hO3⟩;have hs5:=E5.size;refine Zr Z (Vx (a:=u3) Tryz.call175 Z) (k2 _ _ ((Owned.read hO3))) ?_;rintro _ w6 ⟨u4,rfl,E6,hO4⟩;have hs6:=E6.size;refine Un u4 Z<|Xv Z<|Yr u4 Z<|Zz Z<|Zn<|Zy ?_;refine Ve (v:=.tuple #[u4,.bool _]) Z ?_;exact ⟨_,rfl,exq,hO4.toB.o.mono Ka⟩
open Classical in
theorem WithoutSet_ok (w:World) (v u:Value) (p q:List (List Int)) (h:ESl Ints w v p) (h':ESl Ints w u q) (a b:Nat) (ha:Nod p a) (hb:Nod q b):Does Tryz.prog 143 [v,.int .i64 (a:Int),u,.int .i64 (b:Int)] w (RetOB w XR (og (wosV p a q b)) (wosV p a q b).isSome):=by
 have la:a < p.length:=by have:=ha.2;omega
 have lb:b < q.length:=by have:=hb.2;omega
 have hle:=h.le
 have hle':=h'.le
 have n1 : ∀ (w:World) (v:Value),ESl Ints w v p→Does Tryz.prog 118 [v,.int .i64 (a:Int)] w (Ret w (.bool true)):=fun w v h=>by
  have:=Qs w v p h (a:Int);rwa [decide_eq_true ha] at this
 have n2 : ∀ (w:World) (v:Value),ESl Ints w v q→Does Tryz.prog 118 [v,.int .i64 (b:Int)] w (Ret w (.bool true)):=fun w v h=>by
  have:=Qs w v q h (b:Int);rwa [decide_eq_true hb] at this
 have c1 : ∀ (w:World) (v:Value),ESl Ints w v p→Does Tryz.prog 119 [v,.int .i64 (a:Int)] w (RetO w XI (ints (arr p a))):=fun w v h=>Te w v p h ha.1.gr a la
 have hal:=Mh ha.1.gr la
 have hail:=Yy (arr p a)
 have hp5:=ha.1.2.1
 refine Xp Tryz.func143 Z Tryz.results143 Tryz.ntmps143 Z ?_
 focus
  refine Zp<|Ys Z<|Zz Z<|Zn<|Zq<|Zp<|Vb v Z<|Zu Z<|Zr Z (Yg (a:=v) (b:=.int _ _) Gb Z Z) (n1 _ _ (h)) ?_;rintro _ w1 ⟨rfl,E1⟩;have hs1:=E1.size;refine Ym Z<|Yn Z (Vq (v:=.bool _) Z) (fun h1=>?_) (fun h1=>?_);contradiction;refine Vb u Z<|Zu Z<|Zr Z (Yg (a:=u) (b:=.int _ _) Gb Z Z) (n2 _ _ ((Mono.mono E1 h'))) ?_;rintro _ w2 ⟨rfl,E2⟩;have hs2:=E2.size;refine Ym Z<|Vp Z<|Zn<|Xa Z fun h2=>?_;refine Zv<|Zp<|Yz XInt Z Ux Kl ?_;rintro b1 w3 hb1 b1lt E3 hO1;have hs3:=E3.size;refine Ys Z<|Zn<|Zp<|Vb v Z<|Zu Z<|Zr Z (Yg (a:=v) (b:=.int _ _) Zc Z Z) (c1 _ _ ((Mono.mono exq h))) ?_;rintro u1 w4 ⟨E4,hO2⟩;have hs4:=E4.size
  refine Yr u1 Z<|Zn<|Zq<|Zp<|Vg Z<|Zn<|Zw ?_
 have hO3:Owned w.heap.size XI w4 (.slice (some ⟨b1,0,none⟩) 0 0) (ints []):=(hO1.ext E4).mono Ka
 have hBe:Besides (Value.ownBlock (.slice (some ⟨b1,0,none⟩) 0 0)) Ints w4 u1 (ints (arr p a)):=Besides.start hO1 hO2.above
 clear hO1 hO2
 have E0:Ext w w4:=by exact (((E1.trans E2).trans E3).trans E4)
 refine Vy [10,12,28,29,30,31,32,33,34,35,36,37,38,39,40,41,42,43,44,45,46,47,48,49] (fun ((k,u,L):Nat × Value × List Nat)=>[(12,.int .i64 (k:Nat)),(10,u)]) (fun (k,u,L) w'=>Ext w w'∧k≤(arr p a).length∧Owned w.heap.size XI w' u (ints L)∧Besides u.ownBlock Ints w' u1 (ints (arr p a))∧L=((arr p a).take k).filter fun v=>!decide (Bis p v q b)) (fun x=>(arr p a).length - x.1) (0,.slice (some ⟨b1,0,none⟩) 0 0,[]) Kg ?_ ?_
 ·exact ⟨by exact E0,Nat.zero_le _,hO3,hBe,Ki⟩
 clear hO3 hBe
 rintro ⟨k,uk,L⟩ ρj w5 ⟨E5,hk,hO3,hBe,hL⟩
 have hLle:L.length≤(arr p a).length:=by rw [hL];exact Nat.le_trans (List.length_filter_le _ _) (by rw [List.length_take];omega)
 have hLil:=Yy L
 by_cases hkl:k < (arr p a).length
 ·have hm:=Xy ha.1.gr la (List.getElem_mem hkl)
  have hgk:(ints (arr p a))[k]'Ka=((arr p a)[k]:Int):=Xz hkl
  have hts:=Yd _ _ hkl
  have hnk:Nod p ((arr p a)[k]:Nat):=⟨ha.1,Ka,Ka⟩
  by_cases hB:Bis p (arr p a)[k] q b
  ·have k3 : ∀ (w:World) (v u:Value),ESl Ints w v p→ESl Ints w u q→Does Tryz.prog 121 [v,.int .i64 ((ints (arr p a))[k]'Ka),u,.int .i64 (b:Int)] w (Ret w (.bool true)):=fun w v u h1 h2=>by
    have:=Sc w v u p q h1 h2 (((arr p a)[k]:Nat):Int) (b:Int) hnk hb
    rw [hgk];simp only [Int.toNat_natCast] at this
    rwa [decide_eq_true hB] at this
   focus
    have szE5:=E5.size;have szE0:=E0.size;have szE4:=E4.size;have szE3:=E3.size;have szE2:=E2.size;have szE1:=E1.size;refine Zq<|Zp<|Zu Z<|Vb u1 Z<|Vk Kn Z (Besides.here hBe)<|Vi Z<|Zn<|Zs Z (fun h3=>?_) (fun h3=>?_);refine Zv<|Zq<|Zw<|Zp<|Vb v Z<|Vb u1 Z<|Zu Z<|Yb Kn Kl Km Z (fun _=>Z) Z (Besides.here hBe) (Ext.refl _) Z Kf ?_;rintro _ _ rfl;refine Vb u Z<|Zu Z<|Zr Z (Qz (a:=v) (b:=.int _ _) (c:=u) (d:=.int _ _) Gu Z Z Z Z) (k3 _ _ _ ((Mono.mono E5 h)) ((Mono.mono E5 h'))) ?_;rintro _ w6 ⟨rfl,E6⟩;have hs5:=E6.size;refine Ym Z<|Zn<|Xa Z fun h4=>?_
    refine Zv<|Vf<|Zu Z<|Vr Z<|Vg Z<|Zn ?_;rotate_left;(exfalso;omega)
   refine ⟨((k+1,uk,L)),Kg,Kh,?_,?_⟩
   ·refine ⟨by exact (E5.trans E6),Ka,by exact (Mono.mono E6 hO3),by exact (hBe.ext E6),?_⟩
    rw [hL,hts,List.filter_append];simp [hB]
   ·simp only;omega
  ·have k3 : ∀ (w:World) (v u:Value),ESl Ints w v p→ESl Ints w u q→Does Tryz.prog 121 [v,.int .i64 ((ints (arr p a))[k]'Ka),u,.int .i64 (b:Int)] w (Ret w (.bool false)):=fun w v u h1 h2=>by
    have:=Sc w v u p q h1 h2 (((arr p a)[k]:Nat):Int) (b:Int) hnk hb
    rw [hgk];simp only [Int.toNat_natCast] at this
    rwa [decide_eq_false hB] at this
   focus
    have szE5:=E5.size;have szE0:=E0.size;have szE4:=E4.size;have szE3:=E3.size;have szE2:=E2.size;have szE1:=E1.size;refine Zq<|Zp<|Zu Z<|Vb u1 Z<|Vk Kn Z (Besides.here hBe)<|Vi Z<|Zn<|Zs Z (fun h3=>?_) (fun h3=>?_);refine Zv<|Zq<|Zw<|Zp<|Vb v Z<|Vb u1 Z<|Zu Z<|Yb Kn Kl Km Z (fun _=>Z) Z (Besides.here hBe) (Ext.refl _) Z Kf ?_;rintro _ _ rfl;refine Vb u Z<|Zu Z<|Zr Z (Qz (a:=v) (b:=.int _ _) (c:=u) (d:=.int _ _) Gu Z Z Z Z) (k3 _ _ _ ((Mono.mono E5 h)) ((Mono.mono E5 h'))) ?_;rintro _ w6 ⟨rfl,E6⟩;have hs5:=E6.size;refine Ym Z<|Zn<|Xg Z (fun h4=>?_) (fun h4=>?_)
    refine Vf<|Vb uk Z<|Vb u1 Z<|Zu Z<|Yb Kn Kl Km Z (fun _=>Z) Z (Besides.here hBe) E6 Z Kf ?_;rintro _ _ rfl;refine Ye (ps:=[(0,.int _ _)]) (cs:=[_]) Z Kn Kl Jg Z Z Z Z ?_;rintro b2 w7 hb2 E7 hB1 hHb2;have hlb2:=hB1.lt;have hs6:=E7.size;refine Xh Z Ux Z Z hB1 (hO3.toB.ext (E6.trans E7)) Owned.int (Nat.le_refl _) Kf Ka Ka ((E5.trans E6).trans E7) Ka ?_;have hT1:=(hO3.toB.ext (E6.trans E7));rintro v1 w8 hO3 E8 M1;have hBe:=(hBe.ext exq).moves M1;have hB1:=hB1.moves M1 hT1 Ka;have hs7:=E8.size;refine Yr v1 Z<|Zn<|Vf<|Zu Z<|Vr Z<|Vg Z<|Zn ?_;rotate_left;contradiction;(exfalso;omega)
   refine ⟨((k+1,v1,L++[(arr p a)[k]])),Kg,Kh,?_,?_⟩
   ·refine ⟨by exact E8,Ka,?_,by exact hBe,?_⟩
    ·rw [ints_append,show ints [(arr p a)[k]]=[(ints (arr p a))[k]'Ka] by rw [hgk];rfl]
     assumption
    ·rw [hL,hts,List.filter_append];simp [hB]
   ·simp only;omega
 ·obtain rfl:k=(arr p a).length:=by omega
  rw [List.take_length] at hL
  have hLm : ∀ x ∈ L,x < p.length:=fun x hx=>Xy ha.1.gr la (List.mem_filter.1 (hL ▸ hx)).1
  have rL:=hO3.read
  have rA:=hBe.here
  clear hO3 hBe
  have hpp:=ha.1.gr
  have k1 : ∀ (w:World) (v u vl vr:Value),ESl Ints w v p→ESl Ints w u []→Ints w vl (ints L)→Ints w vr []→Does Tryz.prog 176 [v,u,vl,vr] w (RetO w XR (put (bes p []) (L++([]:List Nat).map (p.length + ·)))):=fun w v u vl vr h1 h2 h3 h4 =>
   l6Put_ok w v u vl vr p [] _ [] h1 h2 h3 h4 ha.1 (.inr rfl) hLm (fun x hx=>by cases hx) Ka Ki
  have k2 : ∀ (w:World) (v:Value),ESl Ints w v (put (bes p []) (L++([]:List Nat).map (p.length + ·)))→Does Tryz.prog 175 [v] w (RetOB w XR (og (wosV p a q b)) (wosV p a q b).isSome):=fun w v h=>by
   rw [wosV_eq,← hL]
   exact l6Least_put w v _ _ h (by rw [bes_nil];exact hpp) (by rw [bes_nil];omega)
  focus
   have szE5:=E5.size;have szE0:=E0.size;have szE4:=E4.size;have szE3:=E3.size;have szE2:=E2.size;have szE1:=E1.size;refine Zq<|Zp<|Zu Z<|Vb u1 Z<|Vk Kn Z rA<|Vi Z<|Zn<|Zt Z fun h3=>?_;refine Vw ?_;refine Vd ?_;refine Zp<|Vb v Z<|Yz (XSl 3 XInt) Z Ra Kt ?_;rintro b2 w6 hb2 b2lt E6 hO1;have hs5:=E6.size;refine Vb uk Z<|Yz XInt Z Ux Kl ?_;rintro b3 w7 hb3 b3lt E7 hO2;have hs6:=E7.size;refine Zr Z (Qz (a:=v) (b:=.slice _ _ _) (c:=uk) (d:=.slice _ _ _) Tryz.call176 Z Z Z Z) (k1 _ _ _ _ _ ((Mono.mono exq h)) ((Mono.mono E7 (Owned.read hO1))) ((Mono.mono exq rL)) ((Owned.read hO2))) ?_;rintro u2 w8 ⟨E8,hO3⟩;have hs7:=E8.size
   refine Zr Z (Vx (a:=u2) Tryz.call175 Z) (k2 _ _ ((Owned.read hO3))) ?_;rintro _ w9 ⟨u3,rfl,E9,hO4⟩;have hs8:=E9.size;refine Un u3 Z<|Xv Z<|Yr u3 Z<|Zz Z<|Zn<|Zy ?_;refine Ve (v:=.tuple #[u3,.bool _]) Z ?_;exact ⟨_,rfl,exq,hO4.toB.o.mono Ka⟩
theorem l11Rows_ok (w:World) (v:Value) (p:List (List Int)) (h:ESl Ints w v p) (hp:p.length≤100) (hr : ∀ r ∈ p,r.length≤100):Does Tryz.prog 113 [v] w (RetO w XR p):=by
 refine Vh Tryz.func113 Z Tryz.results113 Tryz.ntmps113 Z ?_
 focus
  refine Zp<|Ys Z<|Zn<|Zp<|Yz (XSl 3 XInt) Z Ra Kt ?_;rintro b1 w1 hb1 b1lt E1 hO1;refine Ys Z<|Zn<|Zq<|Zp<|Vg Z<|Zn<|Zw ?_
 refine Vy [3,4,6,7,8,9,10,11,12,13,14,15,16,17,18,19,20] (fun ((k,u):Nat × Value)=>[(4,.int .i64 (k:Nat)),(3,u)]) (fun (k,u) w'=>Ext w w'∧k≤p.length∧Owned w.heap.size XR w' u (p.take k)) (fun x=>p.length - x.1) (0,.slice (some ⟨b1,0,none⟩) 0 0) Kg ?_ ?_
 ·exact ⟨by exact E1,Nat.zero_le _,by simpa using hO1⟩
 clear hO1
 rintro ⟨k,u⟩ ρj w2 ⟨E2,hk,hO1⟩
 have hlt':(p.take k).length=k:=by simp;omega
 by_cases hlt:k < p.length
 ·have hrl:=hr _ (List.getElem_mem hlt)
  have heldS:w=w:=rfl
  focus
   have szE2:=E2.size;refine Zq<|Zp<|Zu Z<|Vb v Z<|Vk Kp Z h<|Vi Z<|Zn<|Zs Z (fun h1=>?_) (fun h1=>?_);refine Zv<|Zq<|Zw<|Vf<|Vb u Z<|Yz XInt Z Ux Kl ?_;rintro b2 w3 hb2 b2lt E3 hO2;have hs2:=E3.size;refine Vb v Z<|Zu Z<|Yb Kp Kt Kz Z (fun _=>Z) Z h exq Z Kf ?_;rintro _ u1 hu1;refine Wo_appS Z Ux Z Z (Mono.mono (E2.trans E3) hu1) hO2.toB Kf Ka Ka (E2.trans E3) Ka ?_;have hT1:=hO2.toB;rintro v1 w4 hO2 E4 M1;have hO1:=(hO1.toB.ext E3).moves M1 hT1 Ka;have szM1:=M1.1.size;refine Ua Z Kp Kt Jv Z (OwnedB.isC hO2.toB) Z ?_
   rintro b3 w5 hb3 E6 hB1 hHb3;have hs4:=E6.size;refine Xh Z Ra Z Z hB1 (hO1.ext E6) (hO2.toB.ext E6).o Ka Kf Ka Ka (E4.trans E6) Ka ?_;rintro v2 w6 hO1 E7 M2;refine Yr v2 Z<|Zn<|Vf<|Zu Z<|Vr Z<|Vg Z<|Zn ?_;rotate_left;(exfalso;omega)
  refine ⟨((k+1,v2)),Kg,Kh,?_,?_⟩
  ·refine ⟨by exact E7,Ka,?_⟩
   rw [Yd _ _ hlt]
   exact hO1
  ·simp only;omega
 ·obtain rfl:k=p.length:=by omega
  rw [List.take_length] at hO1
  focus
   refine Zq<|Zp<|Zu Z<|Vb v Z<|Vk Kp Z h<|Vi Z<|Zn<|Zt Z fun h1=>?_;refine Vw ?_;refine Vd ?_;refine Zq<|Vf<|Vb u Z<|Yr u Z<|Zn<|Zy ?_;exact ⟨E2,hO1.toB.o.mono Ka⟩
theorem l11Copy_ok (w:World) (u1 u2:Value) (now:List (List Int)) (past:List (List (List Int))) (h1:ESl Ints w u1 now) (h2:ESl (ESl Ints) w u2 past) (hn:now.length≤100∧∀ r ∈ now,r.length≤100) (hpl:past.length≤100) (hp : ∀ p ∈ past,p.length≤100∧∀ r ∈ p,r.length≤100) :
  Does Tryz.prog 60 [.agg #[u1,u2]] w (RetDk w 23 88 3 now past):=by
 have k1 : ∀ (w:World) (v:Value),ESl Ints w v now→Does Tryz.prog 113 [v] w (RetO w XR now):=fun w v h=>l11Rows_ok w v now h hn.1 hn.2
 have k2 : ∀ (k:Nat) (hk:k < past.length) (w:World) (v:Value),ESl Ints w v past[k]→Does Tryz.prog 113 [v] w (RetO w XR past[k]):=fun k hk w v h=>l11Rows_ok w v _ h (hp _ (List.getElem_mem hk)).1 (hp _ (List.getElem_mem hk)).2
 refine fn_of_Wc Tryz.func60 Z Tryz.results60 Tryz.ntmps60 Z Ks Ko ?_
 focus
  refine Zp<|Yl Z Z Z ?_;rintro b1 w1 hb1 E1 hB1;have hlb1:=hB1.lt;refine Yp Z Xf ?_;rintro b2 w2 hb2 E2 hB2;have hlb2:=hB2.lt;have hs2:=E2.size;refine Zn<|Zp<|Vn Ky Ja Z<|Yu u1 Kw (hB1.ext E2) Z<|Zr Z (Vx (a:=u1) Tryz.call113 Z) (k1 _ _ ((Mono.mono exq h1))) ?_;rintro u3 w3 ⟨E3,hO1⟩;have ichO1:=OwnedB.isC (Owned.toB hO1);have hs3:=E3.size;refine Wo Z (opv_buildF0 Xf Z (OwnedB.isC hO1.toB))<|Yp Z Xf ?_;rintro b3 w4 hb3 E4 hB3;have hlb3:=hB3.lt;have hs4:=E4.size;refine Xj Z Ko Z Z Ke Ke hB3 Ka (((E1.trans E2).trans E3).trans E4) ?_;rintro w5 E5 hB3 K1 hz1;have E6:=((E2.trans E3).trans E4).wroteAt exq E5 K1 hz1 Ka;have szE6:=E6.size
  have E7:=(E3.trans E4).wroteAt exq E5 K1 hz1 Ka;have szE7:=E7.size;have E8:=E4.wroteAt exq E5 K1 hz1 Ka;simp only [List.set] at hB3;have hB1:=(hB1.ext exq).of_heap (K1 _ Ka);have hB2:=(hB2.ext exq).of_heap (K1 _ Ka);have hO1:=(hO1.toB.ext E4).wrote K1 Ka;refine Zn<|Zq<|Zp<|Vg Z<|Zn<|Zw ?_
 have hO0:Owned w4.heap.size (XSl 23 XR) w5 (.slice none 0 0) ([]:List (List (List Int))):=Owned.nil
 have hN:=hO1
 clear hO1 hB1 hB2 k1
 refine Vy [4,9,10,11,12,13,14,15,16,17,18,19,20,21,22,23,24,25,26] (fun ((k,u):Nat × Value)=>[(4,.int .i64 (k:Nat))]) (fun (k,u) w'=>Ext w3 w'∧k≤past.length∧w4.heap.size≤w'.heap.size∧Blk w' b3 [u3,u]∧Owned w4.heap.size (XSl 23 XR) w' u (past.take k)∧OwnedB w2.heap.size w3.heap.size XR w' u3 now) (fun x=>past.length - x.1) (0,.slice none 0 0) Kg ?_ ?_
 ·exact ⟨by exact E8,Nat.zero_le _,Ka,hB3,by simpa using hO0,hN⟩
 clear hO0 hB3 hN
 rintro ⟨k,u⟩ ρj w6 ⟨E6,hk,hsz,hB4,hO1,hN⟩
 have icu:isCell u=true:=OwnedB.isC hO1.toB
 have hlt':(past.take k).length=k:=by simp;omega
 by_cases hlt:k < past.length
 ·have k2k:=k2 k hlt
  have ht:=Yd _ _ hlt
  have heldS:w=w:=rfl
  focus
   have szE5:=E5.size;have szE4:=E4.size;refine Zq<|Zq<|Vf<|Zu Z<|Vn Ky Jb Z<|Yu u2 Jf (hB1.ext exq) Z<|Vk Jc Z h2<|Vi Z<|Zn<|Zs Z (fun h3=>?_) (fun h3=>?_);refine Zv<|Zq<|Zw<|Rb (fun w'=>Ext w w') Xr Z Kb ?_;intro w7 E9 K2 hz2;have hs5:=E9.size;refine St 0 Ky Jb Z Z exq<|St 2 Ky Jb Z Z exq<|WtmI 4 Z Z exq<|Wha [1,3]<|Vu Z ?_ ?_
   refine Yu u Jf (hB4.ext E9) Z<|Wnx exq<|Wha [3]<|Wh1 Z<|Yu u2 Jf (hB1.ext exq) Z<|Wnx exq<|Wh_get 5 6 Z Kb Kb Z Z Kb Kb (fun _=>Z) Jc Ja Kw Z h2 (fun w' hw'=>Ext.trans (Ext.refl _) hw') Z Kf exq ?_;rintro _ u4 hu1;refine Wha [7]<|Wh1 Z<|Zr Z (Vx (a:=u4) Tryz.call113 Z) (k2k _ _ ((Mono.mono exq hu1))) ?_;rintro u5 w8 ⟨E10,hO2⟩;have hs6:=E10.size;refine Wnx exq<|Wha [8]<|Wh1 Z<|Ua Z Jc Ja Ge Z (OwnedB.isC hO2.toB) Z ?_;rintro b4 w9 hb4 E11 hB5 hHb4;have hlb4:=hB5.lt;have hs7:=E11.size
   refine Wnx exq<|Wha [9]<|Wh1 Z<|Xh Z el24 Z Z hB5 (hO1.toB.ext ((E9.trans E10).trans E11)) (hO2.toB.ext E11).o Ka Kf Ka Ka ((((((E1.trans E2).trans E3).trans E6).trans E9).trans E10).trans E11) Ka ?_;have hT1:=(hO1.toB.ext ((E9.trans E10).trans E11));rintro v1 w10 hO1 E12 M1;have E15:=M1.ext hT1 (((E6.trans E9).trans E10).trans E11) Ka;have hB4:=(hB4.ext exq).moves M1 hT1 Ka;have hN:=(hN.ext exq).moves M1 hT1 Ka;have szM1:=M1.1.size;refine Wnx E12<|St 10 Ky Jb Z Z E12<|Wha [11]<|Wh1 Z<|Xk (v:=v1) Z Jb Z Z (OwnedB.isC hO1.toB) hB4 Ki Ka E12 ?_;rintro w11 E16 hB4 K3 hz3;have E19:=E15.wroteAt E12 E16 K3 hz3 Ka;simp only [List.set] at hB4
   have hO1:=hO1.toB.wrote K3 Ka;have hN:=hN.wrote K3 Ka;refine Wnx E16<|Yh Kb ?_;refine Vf<|Zu Z<|Vr Z<|Vg Z<|Zn ?_;rotate_left;refine Wh1 Z<|Yu u2 Jf (hB1.ext exq) Z<|Wnx exq<|Wh_get 5 6 Z Kb Kb Z Z Kb Kb (fun _=>Z) Jc Ja Kw Z h2 (fun w' hw'=>Ext.trans (Ext.refl _) hw') Z Kf exq ?_;rintro _ u4 hu1;refine Wha [1,7]<|Vu Z ?_ ?_;refine Yu u Jf (hB4.ext E9) Z<|Wnx exq<|Wha [7]<|Wh1 Z<|Zr Z (Vx (a:=u4) Tryz.call113 Z) (k2k _ _ ((Mono.mono exq hu1))) ?_;rintro u5 w8 ⟨E10,hO2⟩;have hs6:=E10.size
   refine Wnx exq<|Wha [8]<|Wh1 Z<|Ua Z Jc Ja Ge Z (OwnedB.isC hO2.toB) Z ?_;rintro b4 w9 hb4 E11 hB5 hHb4;have hlb4:=hB5.lt;have hs7:=E11.size;refine Wnx exq<|Wha [9]<|Wh1 Z<|Xh Z el24 Z Z hB5 (hO1.toB.ext ((E9.trans E10).trans E11)) (hO2.toB.ext E11).o Ka Kf Ka Ka ((((((E1.trans E2).trans E3).trans E6).trans E9).trans E10).trans E11) Ka ?_;have hT1:=(hO1.toB.ext ((E9.trans E10).trans E11));rintro v1 w10 hO1 E12 M1;have E15:=M1.ext hT1 (((E6.trans E9).trans E10).trans E11) Ka;have hB4:=(hB4.ext exq).moves M1 hT1 Ka;have hN:=(hN.ext exq).moves M1 hT1 Ka;have szM1:=M1.1.size
   refine Wnx E12<|St 10 Ky Jb Z Z E12<|Wha [11]<|Wh1 Z<|Xk (v:=v1) Z Jb Z Z (OwnedB.isC hO1.toB) hB4 Ki Ka E12 ?_;rintro w11 E16 hB4 K3 hz3;have E19:=E15.wroteAt E12 E16 K3 hz3 Ka;simp only [List.set] at hB4;have hO1:=hO1.toB.wrote K3 Ka;have hN:=hN.wrote K3 Ka;refine Wnx E16<|Yh Kb ?_;refine Vf<|Zu Z<|Vr Z<|Vg Z<|Zn ?_;rotate_left;refine Wh1 Z<|Zr Z (Vx (a:=u4) Tryz.call113 Z) (k2k _ _ ((Mono.mono exq hu1))) ?_;rintro u5 w8 ⟨E10,hO2⟩;have hs6:=E10.size;refine Wnx exq<|Wha [1,8]<|Vu Z ?_ ?_;refine Yu u Jf (hB4.ext exq) Z<|Wnx exq<|Wha [8]<|Wh1 Z<|Ua Z Jc Ja Ge Z (OwnedB.isC hO2.toB) Z ?_
   rintro b4 w9 hb4 E11 hB5 hHb4;have hlb4:=hB5.lt;have hs7:=E11.size;refine Wnx exq<|Wha [9]<|Wh1 Z<|Xh Z el24 Z Z hB5 (hO1.toB.ext ((E9.trans E10).trans E11)) (hO2.toB.ext E11).o Ka Kf Ka Ka ((((((E1.trans E2).trans E3).trans E6).trans E9).trans E10).trans E11) Ka ?_;have hT1:=(hO1.toB.ext ((E9.trans E10).trans E11));rintro v1 w10 hO1 E12 M1;have E15:=M1.ext hT1 (((E6.trans E9).trans E10).trans E11) Ka;have hB4:=(hB4.ext exq).moves M1 hT1 Ka;have hN:=(hN.ext exq).moves M1 hT1 Ka;have szM1:=M1.1.size;refine Wnx E12<|St 10 Ky Jb Z Z E12<|Wha [11]<|Wh1 Z<|Xk (v:=v1) Z Jb Z Z (OwnedB.isC hO1.toB) hB4 Ki Ka E12 ?_;rintro w11 E16 hB4 K3 hz3
   have E19:=E15.wroteAt E12 E16 K3 hz3 Ka;simp only [List.set] at hB4;have hO1:=hO1.toB.wrote K3 Ka;have hN:=hN.wrote K3 Ka;refine Wnx E16<|Yh Kb ?_;refine Vf<|Zu Z<|Vr Z<|Vg Z<|Zn ?_;rotate_left;refine Wh1 Z<|Ua Z Jc Ja Ge Z (OwnedB.isC hO2.toB) Z ?_;rintro b4 w9 hb4 E11 hB5 hHb4;have hlb4:=hB5.lt;have hs7:=E11.size;refine Wnx exq<|Wha [1]<|Wh1 Z<|Yu u Jf (hB4.ext exq) Z<|Wnx exq<|Wha [9]<|Wh1 Z<|Xh Z el24 Z Z hB5 (hO1.toB.ext ((E9.trans E10).trans E11)) (hO2.toB.ext E11).o Ka Kf Ka Ka ((((((E1.trans E2).trans E3).trans E6).trans E9).trans E10).trans E11) Ka ?_;have hT1:=(hO1.toB.ext ((E9.trans E10).trans E11))
   rintro v1 w10 hO1 E12 M1;have E15:=M1.ext hT1 (((E6.trans E9).trans E10).trans E11) Ka;have hB4:=(hB4.ext exq).moves M1 hT1 Ka;have hN:=(hN.ext exq).moves M1 hT1 Ka;have szM1:=M1.1.size;refine Wnx E12<|St 10 Ky Jb Z Z E12<|Wha [11]<|Wh1 Z<|Xk (v:=v1) Z Jb Z Z (OwnedB.isC hO1.toB) hB4 Ki Ka E12 ?_;rintro w11 E16 hB4 K3 hz3;have E19:=E15.wroteAt E12 E16 K3 hz3 Ka;simp only [List.set] at hB4;have hO1:=hO1.toB.wrote K3 Ka;have hN:=hN.wrote K3 Ka;refine Wnx E16<|Yh Kb ?_;refine Vf<|Zu Z<|Vr Z<|Vg Z<|Zn ?_;rotate_left;(exfalso;omega)
  ·refine ⟨((k+1,v1)),Kg,Kh,?_,?_⟩
   ·refine ⟨by exact E19,Ka,Ka,hB4,?_,hN⟩
    rw [ht];exact hO1.o
   ·simp only;omega
  ·refine ⟨((k+1,v1)),Kg,Kh,?_,?_⟩
   ·refine ⟨by exact E19,Ka,Ka,hB4,?_,hN⟩
    rw [ht];exact hO1.o
   ·simp only;omega
  ·refine ⟨((k+1,v1)),Kg,Kh,?_,?_⟩
   ·refine ⟨by exact E19,Ka,Ka,hB4,?_,hN⟩
    rw [ht];exact hO1.o
   ·simp only;omega
  ·refine ⟨((k+1,v1)),Kg,Kh,?_,?_⟩
   ·refine ⟨by exact E19,Ka,Ka,hB4,?_,hN⟩
    rw [ht];exact hO1.o
   ·simp only;omega
 ·obtain rfl:k=past.length:=by omega
  rw [List.take_length] at hO1
  focus
   have szE6:=E6.size;have szE4:=E4.size;refine Zq<|Zq<|Vf<|Zu Z<|Vn Ky Jb Z<|Yu u2 Jf (hB1.ext exq) Z<|Vk Jc Z h2<|Vi Z<|Zn<|Zt Z fun h3=>?_;refine Vw ?_;refine Vd ?_;refine Zp<|Xc Ks Ko hB4 Z<|Xj Z Ko Z Z Ke Ke (hB2.ext (E3.trans E6)) Ka (((E1.trans E2).trans E3).trans E6) ?_;rintro w7 E9 hB2 K2 hz2;have hN:=hN.wrote K2 Ka;have hO1:=hO1.toB.wrote K2 Ka;refine Zn<|Zy ?_
  refine ⟨b2,u3,u,Z,Kd,u3,u,w3.heap.size,Z,by exact E9,?_,hO1.o.mono Ka,Ka,Ka⟩
  exact hN.wide Ka (Nat.le_refl _)
open Classical in
theorem l11Made_ok (w:World) (v:Value) (p:List (List Int)) (h:ESl Ints w v p) (hp:Pic p) (k n:Int) (t:List UInt8) (ht:t.length≤1048576) :
  Does Tryz.prog 93 [v,.agg #[.int .i64 k,str t,.int .i64 n]] w (RetOB w XR (og (madeV p ⟨k,t,n⟩)) (madeV p ⟨k,t,n⟩).isSome):=by
 have hle:=h.le
 have hp1:=hp.1
 have hp5:=hp.2.1
 have hN:Nod p (0:Nat):=⟨hp,Kc,Ka⟩
 obtain ⟨Q,hQ⟩ : ∃ Q,Q=(rdP t).getD []:=⟨_,rfl⟩
 obtain ⟨B,hB⟩ : ∃ B,B=(rdP t).isSome:=⟨_,rfl⟩
 obtain ⟨M,hM⟩ : ∃ M,M=madeV p ⟨k,t,n⟩:=⟨_,rfl⟩
 rw [← hM]
 have k0 : ∀ w,Does Tryz.prog 122 [str t] w (RetOB w XR Q B):=fun w=>hQ ▸ hB ▸ Ry w t ht
 refine Xp Tryz.func93 Z Tryz.results93 Tryz.ntmps93 Z ?_
 by_cases e0:k=0
 ·subst e0
  by_cases e:t=[]∧n=0
  ·obtain ⟨rfl,rfl⟩:=e
   have hm:M=pairV p 0 p 0:=hM.trans (by simp [madeV])
   rw [hm]
   have k1 : ∀ (w:World) (v u:Value),ESl Ints w v p→ESl Ints w u p→Does Tryz.prog 141 [v,.int .i64 0,u,.int .i64 0] w (RetOB w XR (og (pairV p 0 p 0)) (pairV p 0 p 0).isSome):=fun w v u h1 h2=>PairOf_ok w v u p p h1 h2 0 0 hN hN
   focus
    refine Zp<|Yl Z Z Z ?_;rintro b1 w1 hb1 E1 hB1;have hlb1:=hB1.lt;refine Ys Z<|Zz Z<|Zn<|Zp<|Vn Kq Ku Z<|Ul Kv hB1 Z<|Zr Z (Vx (a:=.string _) Jm Z) (k0 _) ?_;rintro _ w2 ⟨u1,rfl,E2,hO1⟩;have hs2:=E2.size;refine Xl Z<|Un u1 Z<|Xv Z<|Yr u1 Z<|Zz Z<|Zn<|Zq<|Zw<|Zp<|Vn Kq Kl Z<|Yk Km (hB1.ext E2) Z<|Vm Z<|Yf Z (fun h1=>?_) (fun h1=>?_);refine Vn Kq Ku Z<|Ul Kv (hB1.ext E2) Z<|Wo Z (Vc Z Z)<|Yq Z<|Yf Z (fun h2=>?_) (fun h2=>?_)
    refine Vn Kq Kl Z<|Yk Km (hB1.ext E2) Z<|Vm Z<|Yq Z<|Zz Z<|Zn<|Zs Z (fun h3=>?_) (fun h3=>?_);refine Zp<|Vb v Z<|Vb v Z<|Zr Z (Qz (a:=v) (b:=.int _ _) (c:=v) (d:=.int _ _) Tryz.call141 Z Z Z Z) (k1 _ _ _ ((Mono.mono exq h)) ((Mono.mono exq h))) ?_;rintro _ w3 ⟨u2,rfl,E3,hO2⟩;refine Un u2 Z<|Xv Z<|Yr u2 Z<|Zz Z<|Zn<|Zy ?_;refine Ve (v:=.tuple #[u2,.bool _]) Z ?_;exact ⟨_,rfl,exq,hO2.toB.o.mono Ka⟩;contradiction;contradiction;contradiction
  ·have hm:M=none:=hM.trans (by simp only [madeV];rw [if_neg (fun h=>e ⟨h.2.1,h.2.2⟩),if_neg (fun h=>absurd h.1 Kc),if_neg (fun h=>absurd h.1 Kc),if_neg (fun h=>absurd h.1 Kc)])
   rw [hm,show og none=[] from rfl,show (none:Option (List (List Int))).isSome=false from rfl]
   by_cases et:t=[]
   ·have en : ¬n=0:=fun h=>e ⟨et,h⟩
    subst et
    focus
     refine Zp<|Yl Z Z Z ?_;rintro b1 w1 hb1 E1 hB1;have hlb1:=hB1.lt;refine Ys Z<|Zz Z<|Zn<|Zp<|Vn Kq Ku Z<|Ul Kv hB1 Z<|Zr Z (Vx (a:=.string _) Jm Z) (k0 _) ?_;rintro _ w2 ⟨u1,rfl,E2,hO1⟩;have hs2:=E2.size;refine Xl Z<|Un u1 Z<|Xv Z<|Yr u1 Z<|Zz Z<|Zn<|Zq<|Zw<|Zp<|Vn Kq Kl Z<|Yk Km (hB1.ext E2) Z<|Vm Z<|Yf Z (fun h1=>?_) (fun h1=>?_);refine Vn Kq Ku Z<|Ul Kv (hB1.ext E2) Z<|Wo Z (Vc Z Z)<|Yq Z<|Yf Z (fun h2=>?_) (fun h2=>?_)
     refine Vn Kq Kl Z<|Yk Km (hB1.ext E2) Z<|Vm Z<|Yq Z<|Zz Z<|Zn<|Vj Z fun h3=>?_;refine Zp<|Vn Kq Kl Z<|Yk Km (hB1.ext E2) Z<|Vm Z<|Yw Z fun h4=>?_;refine Zo Z<|Vp Z<|Yi Z<|Zo Z<|Zo Z<|Zo Z<|Vp Z<|Zz Z<|Zn<|Zx Z ?_;refine Zp<|Vn Kq Kl Z<|Yk Km (hB1.ext E2) Z<|Vm Z<|Yw Z fun h5=>?_;refine Zo Z<|Vp Z<|Yi Z<|Zo Z<|Zo Z<|Zo Z<|Vp Z<|Zz Z<|Zn<|Zx Z ?_;refine Zq<|Xx Xr Kb Z ?_
     refine Uw Kq Kl Z<|Xs (v:=.int _ _) Z (fun w' hw'=>Vt Km Z (((hB1.ext E2).ext hw').cell Z)) ?_;refine Rg Z<|Uy Z (fun h6=>?_) (fun h6=>?_);contradiction;refine Va Z<|Va Z<|Va Z<|Rc Z<|Rv Z<|Va Z<|Va Z<|Va Z<|Va Z<|Va Z<|Va Z<|Rc Z<|Rv Z<|Va Z<|Va Z<|Va Z<|Va Z<|Va Z<|Va Z<|Va Z<|Va Z<|Rc Z<|Tp Z<|Xu (fun w3 E3=>?_);have hs3:=E3.size;refine Zx Z ?_;refine Zv<|Zp<|Yz (XSl 3 XInt) Z Ra Kt ?_;rintro b2 w4 hb2 b2lt E4 hO2;refine Ys Z<|Zz Z<|Zn<|Zy ?_;refine Ve (v:=.tuple #[.slice _ _ _,.bool _]) Z ?_
     exact ⟨_,rfl,exq,hO2.toB.o.mono Ka⟩;contradiction;contradiction
   ·focus
     refine Zp<|Yl Z Z Z ?_;rintro b1 w1 hb1 E1 hB1;have hlb1:=hB1.lt;refine Ys Z<|Zz Z<|Zn<|Zp<|Vn Kq Ku Z<|Ul Kv hB1 Z<|Zr Z (Vx (a:=.string _) Jm Z) (k0 _) ?_;rintro _ w2 ⟨u1,rfl,E2,hO1⟩;have hs2:=E2.size;refine Xl Z<|Un u1 Z<|Xv Z<|Yr u1 Z<|Zz Z<|Zn<|Zq<|Zw<|Zp<|Vn Kq Kl Z<|Yk Km (hB1.ext E2) Z<|Vm Z<|Yf Z (fun h1=>?_) (fun h1=>?_);refine Vn Kq Ku Z<|Ul Kv (hB1.ext E2) Z<|Wo Z (Vc Z Z)<|Yq Z<|Yw Z fun h2=>?_;refine Zo Z<|Zo Z<|Zo Z<|Vp Z<|Zz Z<|Zn<|Zx Z ?_
     refine Zp<|Vn Kq Kl Z<|Yk Km (hB1.ext E2) Z<|Vm Z<|Yw Z fun h3=>?_;refine Zo Z<|Vp Z<|Yi Z<|Zo Z<|Zo Z<|Zo Z<|Vp Z<|Zz Z<|Zn<|Zx Z ?_;refine Zp<|Vn Kq Kl Z<|Yk Km (hB1.ext E2) Z<|Vm Z<|Yw Z fun h4=>?_;refine Zo Z<|Vp Z<|Yi Z<|Zo Z<|Zo Z<|Zo Z<|Vp Z<|Zz Z<|Zn<|Zx Z ?_;refine Zq<|Xx Xr Kb Z ?_;refine Uw Kq Kl Z<|Xs (v:=.int _ _) Z (fun w' hw'=>Vt Km Z (((hB1.ext E2).ext hw').cell Z)) ?_;refine Rg Z<|Uy Z (fun h5=>?_) (fun h5=>?_);contradiction
     refine Va Z<|Va Z<|Va Z<|Rc Z<|Rv Z<|Va Z<|Va Z<|Va Z<|Va Z<|Va Z<|Va Z<|Rc Z<|Rv Z<|Va Z<|Va Z<|Va Z<|Va Z<|Va Z<|Va Z<|Va Z<|Va Z<|Rc Z<|Tp Z<|Xu (fun w3 E3=>?_);have hs3:=E3.size;refine Zx Z ?_;refine Zv<|Zp<|Yz (XSl 3 XInt) Z Ra Kt ?_;rintro b2 w4 hb2 b2lt E4 hO2;refine Ys Z<|Zz Z<|Zn<|Zy ?_;refine Ve (v:=.tuple #[.slice _ _ _,.bool _]) Z ?_;exact ⟨_,rfl,exq,hO2.toB.o.mono Ka⟩;contradiction
 by_cases e1:k=1
 ·subst e1
  by_cases en:n=0
  ·subst en
   have hm:M=(rdP t).bind fun q=>(pairV q 0 q 0).bind fun s=>togV p 0 s 0:=hM.trans (by simp only [madeV];rw [if_neg (fun h=>absurd h.1 Kc),if_pos Ki])
   cases hr:rdP t with
   | none =>
     rw [hr] at hm hB hQ
     rw [hm, show og (none.bind fun q => (pairV q 0 q 0).bind fun s => togV p 0 s 0) = [] from rfl, show (none.bind fun q => (pairV q 0 q 0).bind fun s => togV p 0 s 0).isSome = false from rfl]
     rw [hB, show (none : Option (List (List Int))).isSome = false from rfl] at k0
     focus
       refine Zp<|Yl Z Z Z ?_; rintro b1 w1 hb1 E1 hB1; have hlb1 := hB1.lt; refine Ys Z<|Zz Z<|Zn<|Zp<|Vn Kq Ku Z<|Ul Kv hB1 Z<|Zr Z (Vx (a := .string _) Jm Z) (k0 _) ?_; rintro _ w2 ⟨u1, rfl, E2, hO1⟩; have hs2 := E2.size; refine Xl Z<|Un u1 Z<|Xv Z<|Yr u1 Z<|Zz Z<|Zn<|Zq<|Zw<|Zp<|Vn Kq Kl Z<|Yk Km (hB1.ext E2) Z<|Vm Z<|Yw Z fun h1 => ?_; refine Zo Z<|Zo Z<|Zo Z<|Vp Z<|Yi Z<|Zo Z<|Zo Z<|Zo Z<|Vp Z<|Zz Z<|Zn<|Zx Z ?_; refine Zp<|Vn Kq Kl Z<|Yk Km (hB1.ext E2) Z<|Vm Z<|Yf Z (fun h2 => ?_) (fun h2 => ?_)
       refine Yi Z<|Yq Z<|Yi Z<|Zo Z<|Zo Z<|Zo Z<|Vp Z<|Zz Z<|Zn<|Zx Z ?_; refine Zp<|Vn Kq Kl Z<|Yk Km (hB1.ext E2) Z<|Vm Z<|Yw Z fun h3 => ?_; refine Zo Z<|Vp Z<|Yi Z<|Zo Z<|Zo Z<|Zo Z<|Vp Z<|Zz Z<|Zn<|Zx Z ?_; refine Zq<|Xx Xr Kb Z ?_; refine Uw Kq Kl Z<|Xs (v := .int _ _) Z (fun w' hw' => Vt Km Z (((hB1.ext E2).ext hw').cell Z)) ?_; refine Rg Z<|Uy Z (fun h4 => ?_) (fun h4 => ?_); contradiction
       refine Va Z<|Va Z<|Va Z<|Rc Z<|Rv Z<|Va Z<|Va Z<|Va Z<|Va Z<|Va Z<|Va Z<|Rc Z<|Rv Z<|Va Z<|Va Z<|Va Z<|Va Z<|Va Z<|Va Z<|Va Z<|Va Z<|Rc Z<|Tp Z<|Xu (fun w3 E3 => ?_); have hs3 := E3.size; refine Zx Z ?_; refine Zv<|Zp<|Yz (XSl 3 XInt) Z Ra Kt ?_; rintro b2 w4 hb2 b2lt E4 hO2; refine Ys Z<|Zz Z<|Zn<|Zy ?_; refine Ve (v := .tuple #[.slice _ _ _, .bool _]) Z ?_; exact ⟨_, rfl, exq, hO2.toB.o.mono Ka⟩; contradiction
   | some q =>
     rw [hr] at hm hB hQ
     rw [hB, hQ, show (some q).isSome = true from rfl, show (some q).getD [] = q from rfl] at k0
     have hq := (Sa hr).1
     have hNq : Nod q (0 : Nat) := ⟨hq, Kc, by have := hq.1; omega⟩
     have k1 : ∀ (w : World) (v u : Value), ESl Ints w v q → ESl Ints w u q → Does Tryz.prog 141 [v, .int .i64 0, u, .int .i64 0] w (RetOB w XR (og (pairV q 0 q 0)) (pairV q 0 q 0).isSome) := fun w v u h1 h2 => PairOf_ok w v u q q h1 h2 0 0 hNq hNq
     rw [hm, show ((some q).bind fun q => (pairV q 0 q 0).bind fun s => togV p 0 s 0) = (pairV q 0 q 0).bind fun s => togV p 0 s 0 from rfl]
     cases hs : pairV q 0 q 0 with
     | none =>
       rw [hs] at k1
       rw [show (none.bind fun s => togV p 0 s 0) = none from rfl]
       rw [show og none = [] from rfl, show (none : Option (List (List Int))).isSome = false from rfl] at k1 ⊢
       focus
         refine Zp<|Yl Z Z Z ?_; rintro b1 w1 hb1 E1 hB1; have hlb1 := hB1.lt; refine Ys Z<|Zz Z<|Zn<|Zp<|Vn Kq Ku Z<|Ul Kv hB1 Z<|Zr Z (Vx (a := .string _) Jm Z) (k0 _) ?_; rintro _ w2 ⟨u1, rfl, E2, hO1⟩; have hs2 := E2.size; refine Xl Z<|Un u1 Z<|Xv Z<|Yr u1 Z<|Zz Z<|Zn<|Zq<|Zw<|Zp<|Vn Kq Kl Z<|Yk Km (hB1.ext E2) Z<|Vm Z<|Yw Z fun h1 => ?_; refine Zo Z<|Zo Z<|Zo Z<|Vp Z<|Yi Z<|Zo Z<|Zo Z<|Zo Z<|Vp Z<|Zz Z<|Zn<|Zx Z ?_; refine Zp<|Vn Kq Kl Z<|Yk Km (hB1.ext E2) Z<|Vm Z<|Yf Z (fun h2 => ?_) (fun h2 => ?_)
         refine Yi Z<|Yq Z<|Yi Z<|Vn Kq Kl Z<|Yk Km (hB1.ext E2) Z<|Vm Z<|Yq Z<|Zz Z<|Zn<|Zs Z (fun h3 => ?_) (fun h3 => ?_); refine Zq<|Vf<|Vb u1 Z<|Vb u1 Z<|Zr Z (Qz (a := u1) (b := .int _ _) (c := u1) (d := .int _ _) Tryz.call141 Z Z Z Z) (k1 _ _ _ ((Owned.read hO1)) ((Owned.read hO1))) ?_; rintro _ w3 ⟨u2, rfl, E3, hO2⟩; have hs3 := E3.size; refine Xl Z<|Un u2 Z<|Xv Z<|Yr u2 Z<|Zz Z<|Zn<|Zq<|Zp<|Yi Z<|Ym Z<|Zn<|Xg Z (fun h4 => ?_) (fun h4 => ?_); refine Zp<|Yz (XSl 3 XInt) Z Ra Kt ?_; rintro b2 w4 hb2 b2lt E4 hO3; refine Ys Z<|Zz Z<|Zn<|Zy ?_; refine Ve (v := .tuple #[.slice _ _ _, .bool _]) Z ?_
         exact ⟨_, rfl, exq, hO3.toB.o.mono Ka⟩; contradiction; contradiction; contradiction
     | some s =>
       rw [hs] at k1
       rw [show ((some s).bind fun s => togV p 0 s 0) = togV p 0 s 0 from rfl]
       rw [show og (some s) = s from rfl, show (some s).isSome = true from rfl] at k1
       have hsp := (Me hq hq hs).1
       have hNs : Nod s (0 : Nat) := ⟨hsp, Kc, by have := hsp.1; omega⟩
       have k2 : ∀ (w : World) (v u : Value), ESl Ints w v p → ESl Ints w u s → Does Tryz.prog 142 [v, .int .i64 0, u, .int .i64 0] w (RetOB w XR (og (togV p 0 s 0)) (togV p 0 s 0).isSome) := fun w v u h1 h2 => TogetherOf_ok w v u p s h1 h2 0 0 hN hNs
       focus
         refine Zp<|Yl Z Z Z ?_; rintro b1 w1 hb1 E1 hB1; have hlb1 := hB1.lt; refine Ys Z<|Zz Z<|Zn<|Zp<|Vn Kq Ku Z<|Ul Kv hB1 Z<|Zr Z (Vx (a := .string _) Jm Z) (k0 _) ?_; rintro _ w2 ⟨u1, rfl, E2, hO1⟩; have hs2 := E2.size; refine Xl Z<|Un u1 Z<|Xv Z<|Yr u1 Z<|Zz Z<|Zn<|Zq<|Zw<|Zp<|Vn Kq Kl Z<|Yk Km (hB1.ext E2) Z<|Vm Z<|Yw Z fun h1 => ?_; refine Zo Z<|Zo Z<|Zo Z<|Vp Z<|Yi Z<|Zo Z<|Zo Z<|Zo Z<|Vp Z<|Zz Z<|Zn<|Zx Z ?_; refine Zp<|Vn Kq Kl Z<|Yk Km (hB1.ext E2) Z<|Vm Z<|Yf Z (fun h2 => ?_) (fun h2 => ?_)
         refine Yi Z<|Yq Z<|Yi Z<|Vn Kq Kl Z<|Yk Km (hB1.ext E2) Z<|Vm Z<|Yq Z<|Zz Z<|Zn<|Zs Z (fun h3 => ?_) (fun h3 => ?_); refine Zq<|Vf<|Vb u1 Z<|Vb u1 Z<|Zr Z (Qz (a := u1) (b := .int _ _) (c := u1) (d := .int _ _) Tryz.call141 Z Z Z Z) (k1 _ _ _ ((Owned.read hO1)) ((Owned.read hO1))) ?_; rintro _ w3 ⟨u2, rfl, E3, hO2⟩; have hs3 := E3.size; refine Xl Z<|Un u2 Z<|Xv Z<|Yr u2 Z<|Zz Z<|Zn<|Zq<|Zp<|Yi Z<|Ym Z<|Zn<|Xa Z fun h4 => ?_; refine Zv<|Zp<|Vb v Z<|Vb u2 Z<|Zr Z (Qz (a := v) (b := .int _ _) (c := u2) (d := .int _ _) Tryz.call142 Z Z Z Z) (k2 _ _ _ ((Mono.mono exq h)) ((Owned.read hO2))) ?_; rintro _ w4 ⟨u3, rfl, E4, hO3⟩
         refine Un u3 Z<|Xv Z<|Yr u3 Z<|Zz Z<|Zn<|Zy ?_; refine Ve (v := .tuple #[u3, .bool _]) Z ?_; exact ⟨_, rfl, exq, hO3.toB.o.mono Ka⟩; contradiction; contradiction
  ·have hm:M=none:=hM.trans (by simp only [madeV];rw [if_neg (fun h=>absurd h.1 Kc),if_neg (fun h=>en h.2),if_neg (fun h=>absurd h.1 Kc),if_neg (fun h=>absurd h.1 Kc)])
   rw [hm,show og none=[] from rfl,show (none:Option (List (List Int))).isSome=false from rfl]
   cases B
   ·focus
     refine Zp<|Yl Z Z Z ?_;rintro b1 w1 hb1 E1 hB1;have hlb1:=hB1.lt;refine Ys Z<|Zz Z<|Zn<|Zp<|Vn Kq Ku Z<|Ul Kv hB1 Z<|Zr Z (Vx (a:=.string _) Jm Z) (k0 _) ?_;rintro _ w2 ⟨u1,rfl,E2,hO1⟩;have hs2:=E2.size;refine Xl Z<|Un u1 Z<|Xv Z<|Yr u1 Z<|Zz Z<|Zn<|Zq<|Zw<|Zp<|Vn Kq Kl Z<|Yk Km (hB1.ext E2) Z<|Vm Z<|Yw Z fun h1=>?_;refine Zo Z<|Zo Z<|Zo Z<|Vp Z<|Yi Z<|Zo Z<|Zo Z<|Zo Z<|Vp Z<|Zz Z<|Zn<|Zx Z ?_;refine Zp<|Vn Kq Kl Z<|Yk Km (hB1.ext E2) Z<|Vm Z<|Yf Z (fun h2=>?_) (fun h2=>?_)
     refine Yi Z<|Yq Z<|Yi Z<|Zo Z<|Zo Z<|Zo Z<|Vp Z<|Zz Z<|Zn<|Zx Z ?_;refine Zp<|Vn Kq Kl Z<|Yk Km (hB1.ext E2) Z<|Vm Z<|Yw Z fun h3=>?_;refine Zo Z<|Vp Z<|Yi Z<|Zo Z<|Zo Z<|Zo Z<|Vp Z<|Zz Z<|Zn<|Zx Z ?_;refine Zq<|Xx Xr Kb Z ?_;refine Uw Kq Kl Z<|Xs (v:=.int _ _) Z (fun w' hw'=>Vt Km Z (((hB1.ext E2).ext hw').cell Z)) ?_;refine Rg Z<|Uy Z (fun h4=>?_) (fun h4=>?_);contradiction
     refine Va Z<|Va Z<|Va Z<|Rc Z<|Rv Z<|Va Z<|Va Z<|Va Z<|Va Z<|Va Z<|Va Z<|Rc Z<|Rv Z<|Va Z<|Va Z<|Va Z<|Va Z<|Va Z<|Va Z<|Va Z<|Va Z<|Rc Z<|Tp Z<|Xu (fun w3 E3=>?_);have hs3:=E3.size;refine Zx Z ?_;refine Zv<|Zp<|Yz (XSl 3 XInt) Z Ra Kt ?_;rintro b2 w4 hb2 b2lt E4 hO2;refine Ys Z<|Zz Z<|Zn<|Zy ?_;refine Ve (v:=.tuple #[.slice _ _ _,.bool _]) Z ?_;exact ⟨_,rfl,exq,hO2.toB.o.mono Ka⟩;contradiction
   ·focus
     refine Zp<|Yl Z Z Z ?_;rintro b1 w1 hb1 E1 hB1;have hlb1:=hB1.lt;refine Ys Z<|Zz Z<|Zn<|Zp<|Vn Kq Ku Z<|Ul Kv hB1 Z<|Zr Z (Vx (a:=.string _) Jm Z) (k0 _) ?_;rintro _ w2 ⟨u1,rfl,E2,hO1⟩;have hs2:=E2.size;refine Xl Z<|Un u1 Z<|Xv Z<|Yr u1 Z<|Zz Z<|Zn<|Zq<|Zw<|Zp<|Vn Kq Kl Z<|Yk Km (hB1.ext E2) Z<|Vm Z<|Yw Z fun h1=>?_;refine Zo Z<|Zo Z<|Zo Z<|Vp Z<|Yi Z<|Zo Z<|Zo Z<|Zo Z<|Vp Z<|Zz Z<|Zn<|Zx Z ?_;refine Zp<|Vn Kq Kl Z<|Yk Km (hB1.ext E2) Z<|Vm Z<|Yf Z (fun h2=>?_) (fun h2=>?_)
     refine Yi Z<|Yq Z<|Yi Z<|Vn Kq Kl Z<|Yk Km (hB1.ext E2) Z<|Vm Z<|Yq Z<|Zz Z<|Zn<|Vj Z fun h3=>?_;refine Zp<|Vn Kq Kl Z<|Yk Km (hB1.ext E2) Z<|Vm Z<|Yw Z fun h4=>?_;refine Zo Z<|Vp Z<|Yi Z<|Zo Z<|Zo Z<|Zo Z<|Vp Z<|Zz Z<|Zn<|Zx Z ?_;refine Zq<|Xx Xr Kb Z ?_;refine Uw Kq Kl Z<|Xs (v:=.int _ _) Z (fun w' hw'=>Vt Km Z (((hB1.ext E2).ext hw').cell Z)) ?_;refine Rg Z<|Uy Z (fun h5=>?_) (fun h5=>?_);contradiction
     refine Va Z<|Va Z<|Va Z<|Rc Z<|Rv Z<|Va Z<|Va Z<|Va Z<|Va Z<|Va Z<|Va Z<|Rc Z<|Rv Z<|Va Z<|Va Z<|Va Z<|Va Z<|Va Z<|Va Z<|Va Z<|Va Z<|Rc Z<|Tp Z<|Xu (fun w3 E3=>?_);have hs3:=E3.size;refine Zx Z ?_;refine Zv<|Zp<|Yz (XSl 3 XInt) Z Ra Kt ?_;rintro b2 w4 hb2 b2lt E4 hO2;refine Ys Z<|Zz Z<|Zn<|Zy ?_;refine Ve (v:=.tuple #[.slice _ _ _,.bool _]) Z ?_;exact ⟨_,rfl,exq,hO2.toB.o.mono Ka⟩;contradiction
 by_cases e2:k=2
 ·subst e2
  by_cases en:n=0
  ·subst en
   have hm:M=(rdP t).bind fun q=>wosV p 0 q 0:=hM.trans (by simp only [madeV];rw [if_neg (fun h=>absurd h.1 Kc),if_neg (fun h=>absurd h.1 Kc),if_pos Ki])
   cases hr:rdP t with
   | none =>
     rw [hr] at hm hB hQ
     rw [hm, show og (none.bind fun q => wosV p 0 q 0) = [] from rfl, show (none.bind fun q => wosV p 0 q 0).isSome = false from rfl]
     rw [hB, show (none : Option (List (List Int))).isSome = false from rfl] at k0
     focus
       refine Zp<|Yl Z Z Z ?_; rintro b1 w1 hb1 E1 hB1; have hlb1 := hB1.lt; refine Ys Z<|Zz Z<|Zn<|Zp<|Vn Kq Ku Z<|Ul Kv hB1 Z<|Zr Z (Vx (a := .string _) Jm Z) (k0 _) ?_; rintro _ w2 ⟨u1, rfl, E2, hO1⟩; have hs2 := E2.size; refine Xl Z<|Un u1 Z<|Xv Z<|Yr u1 Z<|Zz Z<|Zn<|Zq<|Zw<|Zp<|Vn Kq Kl Z<|Yk Km (hB1.ext E2) Z<|Vm Z<|Yw Z fun h1 => ?_; refine Zo Z<|Zo Z<|Zo Z<|Vp Z<|Yi Z<|Zo Z<|Zo Z<|Zo Z<|Vp Z<|Zz Z<|Zn<|Zx Z ?_; refine Zp<|Vn Kq Kl Z<|Yk Km (hB1.ext E2) Z<|Vm Z<|Yw Z fun h2 => ?_
       refine Zo Z<|Vp Z<|Yi Z<|Zo Z<|Zo Z<|Zo Z<|Vp Z<|Zz Z<|Zn<|Zx Z ?_; refine Zp<|Vn Kq Kl Z<|Yk Km (hB1.ext E2) Z<|Vm Z<|Yf Z (fun h3 => ?_) (fun h3 => ?_); refine Yi Z<|Yq Z<|Yi Z<|Zo Z<|Zo Z<|Zo Z<|Vp Z<|Zz Z<|Zn<|Zx Z ?_; refine Zq<|Xx Xr Kb Z ?_; refine Uw Kq Kl Z<|Xs (v := .int _ _) Z (fun w' hw' => Vt Km Z (((hB1.ext E2).ext hw').cell Z)) ?_; refine Rg Z<|Uy Z (fun h4 => ?_) (fun h4 => ?_); contradiction
       refine Va Z<|Va Z<|Va Z<|Rc Z<|Rv Z<|Va Z<|Va Z<|Va Z<|Va Z<|Va Z<|Va Z<|Rc Z<|Rv Z<|Va Z<|Va Z<|Va Z<|Va Z<|Va Z<|Va Z<|Va Z<|Va Z<|Rc Z<|Tp Z<|Xu (fun w3 E3 => ?_); have hs3 := E3.size; refine Zx Z ?_; refine Zv<|Zp<|Yz (XSl 3 XInt) Z Ra Kt ?_; rintro b2 w4 hb2 b2lt E4 hO2; refine Ys Z<|Zz Z<|Zn<|Zy ?_; refine Ve (v := .tuple #[.slice _ _ _, .bool _]) Z ?_; exact ⟨_, rfl, exq, hO2.toB.o.mono Ka⟩; contradiction
   | some q =>
     rw [hr] at hm hB hQ
     rw [hB, hQ, show (some q).isSome = true from rfl, show (some q).getD [] = q from rfl] at k0
     have hq := (Sa hr).1
     have hNq : Nod q (0 : Nat) := ⟨hq, Kc, by have := hq.1; omega⟩
     have k1 : ∀ (w : World) (v u : Value), ESl Ints w v p → ESl Ints w u q → Does Tryz.prog 143 [v, .int .i64 0, u, .int .i64 0] w (RetOB w XR (og (wosV p 0 q 0)) (wosV p 0 q 0).isSome) := fun w v u h1 h2 => WithoutSet_ok w v u p q h1 h2 0 0 hN hNq
     rw [hm, show ((some q).bind fun q => wosV p 0 q 0) = wosV p 0 q 0 from rfl]
     focus
       refine Zp<|Yl Z Z Z ?_; rintro b1 w1 hb1 E1 hB1; have hlb1 := hB1.lt; refine Ys Z<|Zz Z<|Zn<|Zp<|Vn Kq Ku Z<|Ul Kv hB1 Z<|Zr Z (Vx (a := .string _) Jm Z) (k0 _) ?_; rintro _ w2 ⟨u1, rfl, E2, hO1⟩; have hs2 := E2.size; refine Xl Z<|Un u1 Z<|Xv Z<|Yr u1 Z<|Zz Z<|Zn<|Zq<|Zw<|Zp<|Vn Kq Kl Z<|Yk Km (hB1.ext E2) Z<|Vm Z<|Yw Z fun h1 => ?_; refine Zo Z<|Zo Z<|Zo Z<|Vp Z<|Yi Z<|Zo Z<|Zo Z<|Zo Z<|Vp Z<|Zz Z<|Zn<|Zx Z ?_; refine Zp<|Vn Kq Kl Z<|Yk Km (hB1.ext E2) Z<|Vm Z<|Yw Z fun h2 => ?_
       refine Zo Z<|Vp Z<|Yi Z<|Zo Z<|Zo Z<|Zo Z<|Vp Z<|Zz Z<|Zn<|Zx Z ?_; refine Zp<|Vn Kq Kl Z<|Yk Km (hB1.ext E2) Z<|Vm Z<|Yf Z (fun h3 => ?_) (fun h3 => ?_); refine Yi Z<|Yq Z<|Yi Z<|Vn Kq Kl Z<|Yk Km (hB1.ext E2) Z<|Vm Z<|Yq Z<|Zz Z<|Zn<|Zs Z (fun h4 => ?_) (fun h4 => ?_); refine Zq<|Vf<|Vb v Z<|Vb u1 Z<|Zr Z (Qz (a := v) (b := .int _ _) (c := u1) (d := .int _ _) Tryz.call143 Z Z Z Z) (k1 _ _ _ ((Mono.mono exq h)) ((Owned.read hO1))) ?_; rintro _ w3 ⟨u2, rfl, E3, hO2⟩; refine Un u2 Z<|Xv Z<|Yr u2 Z<|Zz Z<|Zn<|Zy ?_; refine Ve (v := .tuple #[u2, .bool _]) Z ?_
       exact ⟨_, rfl, exq, hO2.toB.o.mono Ka⟩; contradiction; contradiction
  ·have hm:M=none:=hM.trans (by simp only [madeV];rw [if_neg (fun h=>absurd h.1 Kc),if_neg (fun h=>absurd h.1 Kc),if_neg (fun h=>en h.2),if_neg (fun h=>absurd h.1 Kc)])
   rw [hm,show og none=[] from rfl,show (none:Option (List (List Int))).isSome=false from rfl]
   cases B
   ·focus
     refine Zp<|Yl Z Z Z ?_;rintro b1 w1 hb1 E1 hB1;have hlb1:=hB1.lt;refine Ys Z<|Zz Z<|Zn<|Zp<|Vn Kq Ku Z<|Ul Kv hB1 Z<|Zr Z (Vx (a:=.string _) Jm Z) (k0 _) ?_;rintro _ w2 ⟨u1,rfl,E2,hO1⟩;have hs2:=E2.size;refine Xl Z<|Un u1 Z<|Xv Z<|Yr u1 Z<|Zz Z<|Zn<|Zq<|Zw<|Zp<|Vn Kq Kl Z<|Yk Km (hB1.ext E2) Z<|Vm Z<|Yw Z fun h1=>?_;refine Zo Z<|Zo Z<|Zo Z<|Vp Z<|Yi Z<|Zo Z<|Zo Z<|Zo Z<|Vp Z<|Zz Z<|Zn<|Zx Z ?_;refine Zp<|Vn Kq Kl Z<|Yk Km (hB1.ext E2) Z<|Vm Z<|Yw Z fun h2=>?_
     refine Zo Z<|Vp Z<|Yi Z<|Zo Z<|Zo Z<|Zo Z<|Vp Z<|Zz Z<|Zn<|Zx Z ?_;refine Zp<|Vn Kq Kl Z<|Yk Km (hB1.ext E2) Z<|Vm Z<|Yf Z (fun h3=>?_) (fun h3=>?_);refine Yi Z<|Yq Z<|Yi Z<|Zo Z<|Zo Z<|Zo Z<|Vp Z<|Zz Z<|Zn<|Zx Z ?_;refine Zq<|Xx Xr Kb Z ?_;refine Uw Kq Kl Z<|Xs (v:=.int _ _) Z (fun w' hw'=>Vt Km Z (((hB1.ext E2).ext hw').cell Z)) ?_;refine Rg Z<|Uy Z (fun h4=>?_) (fun h4=>?_);contradiction
     refine Va Z<|Va Z<|Va Z<|Rc Z<|Rv Z<|Va Z<|Va Z<|Va Z<|Va Z<|Va Z<|Va Z<|Rc Z<|Rv Z<|Va Z<|Va Z<|Va Z<|Va Z<|Va Z<|Va Z<|Va Z<|Va Z<|Rc Z<|Tp Z<|Xu (fun w3 E3=>?_);have hs3:=E3.size;refine Zx Z ?_;refine Zv<|Zp<|Yz (XSl 3 XInt) Z Ra Kt ?_;rintro b2 w4 hb2 b2lt E4 hO2;refine Ys Z<|Zz Z<|Zn<|Zy ?_;refine Ve (v:=.tuple #[.slice _ _ _,.bool _]) Z ?_;exact ⟨_,rfl,exq,hO2.toB.o.mono Ka⟩;contradiction
   ·focus
     refine Zp<|Yl Z Z Z ?_;rintro b1 w1 hb1 E1 hB1;have hlb1:=hB1.lt;refine Ys Z<|Zz Z<|Zn<|Zp<|Vn Kq Ku Z<|Ul Kv hB1 Z<|Zr Z (Vx (a:=.string _) Jm Z) (k0 _) ?_;rintro _ w2 ⟨u1,rfl,E2,hO1⟩;have hs2:=E2.size;refine Xl Z<|Un u1 Z<|Xv Z<|Yr u1 Z<|Zz Z<|Zn<|Zq<|Zw<|Zp<|Vn Kq Kl Z<|Yk Km (hB1.ext E2) Z<|Vm Z<|Yw Z fun h1=>?_;refine Zo Z<|Zo Z<|Zo Z<|Vp Z<|Yi Z<|Zo Z<|Zo Z<|Zo Z<|Vp Z<|Zz Z<|Zn<|Zx Z ?_;refine Zp<|Vn Kq Kl Z<|Yk Km (hB1.ext E2) Z<|Vm Z<|Yw Z fun h2=>?_
     refine Zo Z<|Vp Z<|Yi Z<|Zo Z<|Zo Z<|Zo Z<|Vp Z<|Zz Z<|Zn<|Zx Z ?_;refine Zp<|Vn Kq Kl Z<|Yk Km (hB1.ext E2) Z<|Vm Z<|Yf Z (fun h3=>?_) (fun h3=>?_);refine Yi Z<|Yq Z<|Yi Z<|Vn Kq Kl Z<|Yk Km (hB1.ext E2) Z<|Vm Z<|Yq Z<|Zz Z<|Zn<|Vj Z fun h4=>?_;refine Zq<|Xx Xr Kb Z ?_;refine Uw Kq Kl Z<|Xs (v:=.int _ _) Z (fun w' hw'=>Vt Km Z (((hB1.ext E2).ext hw').cell Z)) ?_;refine Rg Z<|Uy Z (fun h5=>?_) (fun h5=>?_);contradiction
     refine Va Z<|Va Z<|Va Z<|Rc Z<|Rv Z<|Va Z<|Va Z<|Va Z<|Va Z<|Va Z<|Va Z<|Rc Z<|Rv Z<|Va Z<|Va Z<|Va Z<|Va Z<|Va Z<|Va Z<|Va Z<|Va Z<|Rc Z<|Tp Z<|Xu (fun w3 E3=>?_);have hs3:=E3.size;refine Zx Z ?_;refine Zv<|Zp<|Yz (XSl 3 XInt) Z Ra Kt ?_;rintro b2 w4 hb2 b2lt E4 hO2;refine Ys Z<|Zz Z<|Zn<|Zy ?_;refine Ve (v:=.tuple #[.slice _ _ _,.bool _]) Z ?_;exact ⟨_,rfl,exq,hO2.toB.o.mono Ka⟩;contradiction
 by_cases e3:k=3
 ·subst e3
  by_cases et:t=[]
  ·subst et
   by_cases en:0≤n∧n≤(p.length:Int) - 1
   ·have k2 : ∀ w,Does Tryz.prog 116 [.int .i64 n,.int .i64 0,.int .i64 ((p.length:Int) - 1)] w (Ret w (.bool true)):=fun w=>by
     have:=Uz n 0 ((p.length:Int) - 1) w;rwa [decide_eq_true en] at this
    have hrow:p[0].length=p.length:=hp.row hp1
    obtain ⟨i,rfl⟩ : ∃ i:Nat,n=i:=⟨n.toNat,Ka⟩
    have hbit:bit p 0 i=p[0][i]:=by unfold bit;rw [Ya hp1,Ya (show i < p[0].length by omega)]
    by_cases eb:p[0][i]=1
    ·have hm:M=some (lst p i):=hM.trans (by simp only [madeV];rw [if_neg (fun h=>absurd h.1 Kc),if_neg (fun h=>absurd h.1 Kc),if_neg (fun h=>absurd h.1 Kc),if_pos ⟨trivial,trivial,Ka,Ka,by rw [Int.toNat_natCast,hbit,eb]⟩,Int.toNat_natCast])
     have hNi:Nod p (i:Int):=⟨hp,Ka,Ka⟩
     have k3 : ∀ (w:World) (v:Value),ESl Ints w v p→Does Tryz.prog 126 [v,.int .i64 (i:Int)] w (RetO w XR (lst p i)):=fun w v h=>by
      have:=Sz w v p h (i:Int);rw [if_pos hNi] at this;exact this
     rw [hm,show og (some (lst p i))=lst p i from rfl,show (some (lst p i)).isSome=true from rfl]
     focus
      refine Zp<|Yl Z Z Z ?_;rintro b1 w1 hb1 E1 hB1;have hlb1:=hB1.lt;refine Ys Z<|Zz Z<|Zn<|Zp<|Vn Kq Ku Z<|Ul Kv hB1 Z<|Zr Z (Vx (a:=.string _) Jm Z) (k0 _) ?_;rintro _ w2 ⟨u1,rfl,E2,hO1⟩;have hs2:=E2.size;refine Xl Z<|Un u1 Z<|Xv Z<|Yr u1 Z<|Zz Z<|Zn<|Zq<|Zw<|Zp<|Vn Kq Kl Z<|Yk Km (hB1.ext E2) Z<|Vm Z<|Yw Z fun h1=>?_;refine Zo Z<|Zo Z<|Zo Z<|Vp Z<|Yi Z<|Zo Z<|Zo Z<|Zo Z<|Vp Z<|Zz Z<|Zn<|Zx Z ?_;refine Zp<|Vn Kq Kl Z<|Yk Km (hB1.ext E2) Z<|Vm Z<|Yw Z fun h2=>?_
      refine Zo Z<|Vp Z<|Yi Z<|Zo Z<|Zo Z<|Zo Z<|Vp Z<|Zz Z<|Zn<|Zx Z ?_;refine Zp<|Vn Kq Kl Z<|Yk Km (hB1.ext E2) Z<|Vm Z<|Yw Z fun h3=>?_;refine Zo Z<|Vp Z<|Yi Z<|Zo Z<|Zo Z<|Zo Z<|Vp Z<|Zz Z<|Zn<|Zx Z ?_;refine Zq<|Xx Xr Kb Z ?_;refine Uw Kq Kl Z<|Xs (v:=.int _ _) Z (fun w' hw'=>Vt Km Z (((hB1.ext E2).ext hw').cell Z)) ?_;refine Rg Z<|Uy Z (fun h4=>?_) (fun h4=>?_);refine Uw Kq Ku Z<|Xs (v:=.string _) Z (fun w' hw'=>Vt Kv Z (((hB1.ext E2).ext hw').cell Z)) ?_
      refine Xs Z (fun _ _=>Vc Z Z) ?_;refine Nt Z<|Uy Z (fun h5=>?_) (fun h5=>?_);refine Uw Kq Kl Z<|Xs (v:=.int _ _) Z (fun w' hw'=>Vt Km Z (((hB1.ext E2).ext hw').cell Z)) ?_;refine Qj v Z<|Xs Z (fun _ _=>Rx Kp Z h) ?_;refine Xs Z (fun _ _=>opv_sub Z Z Ka) ?_;refine Ut Z (fun _ _=>Ud (a:=.int _ _) (b:=.int _ _) (c:=.int _ _) Jl Z Z Z) (fun w' hw'=>(k2 _)) ?_;refine Nt Z<|Rv Z<|Qj v Z<|Xn (k:=0) Kp Kt Kz Z (fun _=>Z) Z h exq Z Kf ?_;rintro _ u2 hu1;refine Uw Kq Kl Z<|Xs (v:=.int _ _) Z (fun w' hw'=>Vt Km Z (((hB1.ext E2).ext hw').cell Z)) ?_
      refine Xn Kn Kl Km Z (fun _=>Z) Z hu1 exq Z Kf ?_;rintro _ _ rfl;refine Rg Z<|Nt Z<|Tp Z<|Xu (fun w3 E3=>?_);have hs3:=E3.size;refine Zs Z (fun h6=>?_) (fun h6=>?_);refine Zp<|Vb v Z<|Vn Kq Kl Z<|Yk Km (hB1.ext exq) Z<|Zr Z (Yg (a:=v) (b:=.int _ _) Za Z Z) (k3 _ _ ((Mono.mono exq h))) ?_;rintro u3 w4 ⟨E4,hO2⟩;refine Yr u3 Z<|Zz Z<|Zn<|Zy ?_;refine Ve (v:=.tuple #[u3,.bool _]) Z ?_;exact ⟨_,rfl,exq,hO2.toB.o.mono Ka⟩;contradiction;contradiction;contradiction
    ·have hm:M=none:=hM.trans (by simp only [madeV];rw [if_neg (fun h=>absurd h.1 Kc),if_neg (fun h=>absurd h.1 Kc),if_neg (fun h=>absurd h.1 Kc),if_neg (fun h=>eb (by have:=h.2.2.2.2;rwa [Int.toNat_natCast,hbit] at this))])
     rw [hm,show og none=[] from rfl,show (none:Option (List (List Int))).isSome=false from rfl]
     focus
      refine Zp<|Yl Z Z Z ?_;rintro b1 w1 hb1 E1 hB1;have hlb1:=hB1.lt;refine Ys Z<|Zz Z<|Zn<|Zp<|Vn Kq Ku Z<|Ul Kv hB1 Z<|Zr Z (Vx (a:=.string _) Jm Z) (k0 _) ?_;rintro _ w2 ⟨u1,rfl,E2,hO1⟩;have hs2:=E2.size;refine Xl Z<|Un u1 Z<|Xv Z<|Yr u1 Z<|Zz Z<|Zn<|Zq<|Zw<|Zp<|Vn Kq Kl Z<|Yk Km (hB1.ext E2) Z<|Vm Z<|Yw Z fun h1=>?_;refine Zo Z<|Zo Z<|Zo Z<|Vp Z<|Yi Z<|Zo Z<|Zo Z<|Zo Z<|Vp Z<|Zz Z<|Zn<|Zx Z ?_;refine Zp<|Vn Kq Kl Z<|Yk Km (hB1.ext E2) Z<|Vm Z<|Yw Z fun h2=>?_
      refine Zo Z<|Vp Z<|Yi Z<|Zo Z<|Zo Z<|Zo Z<|Vp Z<|Zz Z<|Zn<|Zx Z ?_;refine Zp<|Vn Kq Kl Z<|Yk Km (hB1.ext E2) Z<|Vm Z<|Yw Z fun h3=>?_;refine Zo Z<|Vp Z<|Yi Z<|Zo Z<|Zo Z<|Zo Z<|Vp Z<|Zz Z<|Zn<|Zx Z ?_;refine Zq<|Xx Xr Kb Z ?_;refine Uw Kq Kl Z<|Xs (v:=.int _ _) Z (fun w' hw'=>Vt Km Z (((hB1.ext E2).ext hw').cell Z)) ?_;refine Rg Z<|Uy Z (fun h4=>?_) (fun h4=>?_);refine Uw Kq Ku Z<|Xs (v:=.string _) Z (fun w' hw'=>Vt Kv Z (((hB1.ext E2).ext hw').cell Z)) ?_
      refine Xs Z (fun _ _=>Vc Z Z) ?_;refine Nt Z<|Uy Z (fun h5=>?_) (fun h5=>?_);refine Uw Kq Kl Z<|Xs (v:=.int _ _) Z (fun w' hw'=>Vt Km Z (((hB1.ext E2).ext hw').cell Z)) ?_;refine Qj v Z<|Xs Z (fun _ _=>Rx Kp Z h) ?_;refine Xs Z (fun _ _=>opv_sub Z Z Ka) ?_;refine Ut Z (fun _ _=>Ud (a:=.int _ _) (b:=.int _ _) (c:=.int _ _) Jl Z Z Z) (fun w' hw'=>(k2 _)) ?_;refine Nt Z<|Rv Z<|Qj v Z<|Xn (k:=0) Kp Kt Kz Z (fun _=>Z) Z h exq Z Kf ?_;rintro _ u2 hu1;refine Uw Kq Kl Z<|Xs (v:=.int _ _) Z (fun w' hw'=>Vt Km Z (((hB1.ext E2).ext hw').cell Z)) ?_
      refine Xn Kn Kl Km Z (fun _=>Z) Z hu1 exq Z Kf ?_;rintro _ _ rfl;refine Rg Z<|Nt Z<|Tp Z<|Xu (fun w3 E3=>?_);have hs3:=E3.size;refine Vj Z fun h6=>?_;refine Zv<|Zp<|Yz (XSl 3 XInt) Z Ra Kt ?_;rintro b2 w4 hb2 b2lt E4 hO2;refine Ys Z<|Zz Z<|Zn<|Zy ?_;refine Ve (v:=.tuple #[.slice _ _ _,.bool _]) Z ?_;exact ⟨_,rfl,exq,hO2.toB.o.mono Ka⟩;contradiction;contradiction
   ·have k2 : ∀ w,Does Tryz.prog 116 [.int .i64 n,.int .i64 0,.int .i64 ((p.length:Int) - 1)] w (Ret w (.bool false)):=fun w=>by
     have:=Uz n 0 ((p.length:Int) - 1) w;rwa [decide_eq_false en] at this
    have hm:M=none:=hM.trans (by simp only [madeV];rw [if_neg (fun h=>absurd h.1 Kc),if_neg (fun h=>absurd h.1 Kc),if_neg (fun h=>absurd h.1 Kc),if_neg (fun h=>en ⟨h.2.2.1,by have:=h.2.2.2.1;omega⟩)])
    rw [hm,show og none=[] from rfl,show (none:Option (List (List Int))).isSome=false from rfl]
    focus
     refine Zp<|Yl Z Z Z ?_;rintro b1 w1 hb1 E1 hB1;have hlb1:=hB1.lt;refine Ys Z<|Zz Z<|Zn<|Zp<|Vn Kq Ku Z<|Ul Kv hB1 Z<|Zr Z (Vx (a:=.string _) Jm Z) (k0 _) ?_;rintro _ w2 ⟨u1,rfl,E2,hO1⟩;have hs2:=E2.size;refine Xl Z<|Un u1 Z<|Xv Z<|Yr u1 Z<|Zz Z<|Zn<|Zq<|Zw<|Zp<|Vn Kq Kl Z<|Yk Km (hB1.ext E2) Z<|Vm Z<|Yw Z fun h1=>?_;refine Zo Z<|Zo Z<|Zo Z<|Vp Z<|Yi Z<|Zo Z<|Zo Z<|Zo Z<|Vp Z<|Zz Z<|Zn<|Zx Z ?_;refine Zp<|Vn Kq Kl Z<|Yk Km (hB1.ext E2) Z<|Vm Z<|Yw Z fun h2=>?_
     refine Zo Z<|Vp Z<|Yi Z<|Zo Z<|Zo Z<|Zo Z<|Vp Z<|Zz Z<|Zn<|Zx Z ?_;refine Zp<|Vn Kq Kl Z<|Yk Km (hB1.ext E2) Z<|Vm Z<|Yw Z fun h3=>?_;refine Zo Z<|Vp Z<|Yi Z<|Zo Z<|Zo Z<|Zo Z<|Vp Z<|Zz Z<|Zn<|Zx Z ?_;refine Zq<|Xx Xr Kb Z ?_;refine Uw Kq Kl Z<|Xs (v:=.int _ _) Z (fun w' hw'=>Vt Km Z (((hB1.ext E2).ext hw').cell Z)) ?_;refine Rg Z<|Uy Z (fun h4=>?_) (fun h4=>?_);refine Uw Kq Ku Z<|Xs (v:=.string _) Z (fun w' hw'=>Vt Kv Z (((hB1.ext E2).ext hw').cell Z)) ?_
     refine Xs Z (fun _ _=>Vc Z Z) ?_;refine Nt Z<|Uy Z (fun h5=>?_) (fun h5=>?_);refine Uw Kq Kl Z<|Xs (v:=.int _ _) Z (fun w' hw'=>Vt Km Z (((hB1.ext E2).ext hw').cell Z)) ?_;refine Qj v Z<|Xs Z (fun _ _=>Rx Kp Z h) ?_;refine Xs Z (fun _ _=>opv_sub Z Z Ka) ?_;refine Ut Z (fun _ _=>Ud (a:=.int _ _) (b:=.int _ _) (c:=.int _ _) Jl Z Z Z) (fun w' hw'=>(k2 _)) ?_;refine Nt Z<|Rv Z<|Va Z<|Va Z<|Va Z<|Va Z<|Va Z<|Va Z<|Va Z<|Va Z<|Rc Z<|Tp Z<|Xu (fun w3 E3=>?_);have hs3:=E3.size;refine Zx Z ?_;refine Zv<|Zp<|Yz (XSl 3 XInt) Z Ra Kt ?_;rintro b2 w4 hb2 b2lt E4 hO2
     refine Ys Z<|Zz Z<|Zn<|Zy ?_;refine Ve (v:=.tuple #[.slice _ _ _,.bool _]) Z ?_;exact ⟨_,rfl,exq,hO2.toB.o.mono Ka⟩;contradiction;contradiction
  ·have hm:M=none:=hM.trans (by simp only [madeV];rw [if_neg (fun h=>absurd h.1 Kc),if_neg (fun h=>absurd h.1 Kc),if_neg (fun h=>absurd h.1 Kc),if_neg (fun h=>et h.2.1)])
   rw [hm,show og none=[] from rfl,show (none:Option (List (List Int))).isSome=false from rfl]
   focus
    refine Zp<|Yl Z Z Z ?_;rintro b1 w1 hb1 E1 hB1;have hlb1:=hB1.lt;refine Ys Z<|Zz Z<|Zn<|Zp<|Vn Kq Ku Z<|Ul Kv hB1 Z<|Zr Z (Vx (a:=.string _) Jm Z) (k0 _) ?_;rintro _ w2 ⟨u1,rfl,E2,hO1⟩;have hs2:=E2.size;refine Xl Z<|Un u1 Z<|Xv Z<|Yr u1 Z<|Zz Z<|Zn<|Zq<|Zw<|Zp<|Vn Kq Kl Z<|Yk Km (hB1.ext E2) Z<|Vm Z<|Yw Z fun h1=>?_;refine Zo Z<|Zo Z<|Zo Z<|Vp Z<|Yi Z<|Zo Z<|Zo Z<|Zo Z<|Vp Z<|Zz Z<|Zn<|Zx Z ?_;refine Zp<|Vn Kq Kl Z<|Yk Km (hB1.ext E2) Z<|Vm Z<|Yw Z fun h2=>?_
    refine Zo Z<|Vp Z<|Yi Z<|Zo Z<|Zo Z<|Zo Z<|Vp Z<|Zz Z<|Zn<|Zx Z ?_;refine Zp<|Vn Kq Kl Z<|Yk Km (hB1.ext E2) Z<|Vm Z<|Yw Z fun h3=>?_;refine Zo Z<|Vp Z<|Yi Z<|Zo Z<|Zo Z<|Zo Z<|Vp Z<|Zz Z<|Zn<|Zx Z ?_;refine Zq<|Xx Xr Kb Z ?_;refine Uw Kq Kl Z<|Xs (v:=.int _ _) Z (fun w' hw'=>Vt Km Z (((hB1.ext E2).ext hw').cell Z)) ?_;refine Rg Z<|Uy Z (fun h4=>?_) (fun h4=>?_);refine Uw Kq Ku Z<|Xs (v:=.string _) Z (fun w' hw'=>Vt Kv Z (((hB1.ext E2).ext hw').cell Z)) ?_
    refine Xs Z (fun _ _=>Vc Z Z) ?_;refine Nt Z<|Uy Z (fun h5=>?_) (fun h5=>?_);contradiction;refine Va Z<|Va Z<|Va Z<|Va Z<|Va Z<|Va Z<|Rc Z<|Rv Z<|Va Z<|Va Z<|Va Z<|Va Z<|Va Z<|Va Z<|Va Z<|Va Z<|Rc Z<|Tp Z<|Xu (fun w3 E3=>?_);have hs3:=E3.size;refine Zx Z ?_;refine Zv<|Zp<|Yz (XSl 3 XInt) Z Ra Kt ?_;rintro b2 w4 hb2 b2lt E4 hO2;refine Ys Z<|Zz Z<|Zn<|Zy ?_;refine Ve (v:=.tuple #[.slice _ _ _,.bool _]) Z ?_;exact ⟨_,rfl,exq,hO2.toB.o.mono Ka⟩;contradiction
 have hm:M=none:=hM.trans (by simp only [madeV];rw [if_neg (fun h=>e0 h.1),if_neg (fun h=>e1 h.1),if_neg (fun h=>e2 h.1),if_neg (fun h=>e3 h.1)])
 rw [hm,show og none=[] from rfl,show (none:Option (List (List Int))).isSome=false from rfl]
 focus
  refine Zp<|Yl Z Z Z ?_;rintro b1 w1 hb1 E1 hB1;have hlb1:=hB1.lt;refine Ys Z<|Zz Z<|Zn<|Zp<|Vn Kq Ku Z<|Ul Kv hB1 Z<|Zr Z (Vx (a:=.string _) Jm Z) (k0 _) ?_;rintro _ w2 ⟨u1,rfl,E2,hO1⟩;have hs2:=E2.size;refine Xl Z<|Un u1 Z<|Xv Z<|Yr u1 Z<|Zz Z<|Zn<|Zq<|Zw<|Zp<|Vn Kq Kl Z<|Yk Km (hB1.ext E2) Z<|Vm Z<|Yw Z fun h1=>?_;refine Zo Z<|Zo Z<|Zo Z<|Vp Z<|Yi Z<|Zo Z<|Zo Z<|Zo Z<|Vp Z<|Zz Z<|Zn<|Zx Z ?_;refine Zp<|Vn Kq Kl Z<|Yk Km (hB1.ext E2) Z<|Vm Z<|Yw Z fun h2=>?_
  refine Zo Z<|Vp Z<|Yi Z<|Zo Z<|Zo Z<|Zo Z<|Vp Z<|Zz Z<|Zn<|Zx Z ?_;refine Zp<|Vn Kq Kl Z<|Yk Km (hB1.ext E2) Z<|Vm Z<|Yw Z fun h3=>?_;refine Zo Z<|Vp Z<|Yi Z<|Zo Z<|Zo Z<|Zo Z<|Vp Z<|Zz Z<|Zn<|Zx Z ?_;refine Zq<|Xx Xr Kb Z ?_;refine Uw Kq Kl Z<|Xs (v:=.int _ _) Z (fun w' hw'=>Vt Km Z (((hB1.ext E2).ext hw').cell Z)) ?_;refine Rg Z<|Uy Z (fun h4=>?_) (fun h4=>?_);contradiction
  refine Va Z<|Va Z<|Va Z<|Rc Z<|Rv Z<|Va Z<|Va Z<|Va Z<|Va Z<|Va Z<|Va Z<|Rc Z<|Rv Z<|Va Z<|Va Z<|Va Z<|Va Z<|Va Z<|Va Z<|Va Z<|Va Z<|Rc Z<|Tp Z<|Xu (fun w3 E3=>?_);have hs3:=E3.size;refine Zx Z ?_;refine Zv<|Zp<|Yz (XSl 3 XInt) Z Ra Kt ?_;rintro b2 w4 hb2 b2lt E4 hO2;refine Ys Z<|Zz Z<|Zn<|Zy ?_;refine Ve (v:=.tuple #[.slice _ _ _,.bool _]) Z ?_;exact ⟨_,rfl,exq,hO2.toB.o.mono Ka⟩
open Classical in
theorem spec_DeskDo_ok (w:World) (u1 u2:Value) (d:Dsk) (h1:ESl Ints w u1 d.now) (h2:ESl (ESl Ints) w u2 d.past) (k n:Int) (t:List UInt8) (ht:t.length≤1048576) :
  Does Tryz.prog 37 [.agg #[u1,u2],.agg #[.int .i64 k,str t,.int .i64 n]] w (RetDkAB w (if DkOk d then (doV d ⟨k,t,n⟩).1.now else []) (if DkOk d then (doV d ⟨k,t,n⟩).1.past else []) (decide (DkOk d) && (doV d ⟨k,t,n⟩).2)):=by
 obtain ⟨p,pp⟩:=d
 have hle:=h2.le
 have i1:isCell u1=true:=Uu h1
 have i2:isCell u2=true:=Uu h2
 simp only at h1 h2 hle
 refine Su Tryz.func37 Z Tryz.results37 Tryz.ntmps37 Z Ks Ko ?_
 by_cases hd:DkOk ⟨p,pp⟩
 ·have k0 : ∀ w,ESl Ints w u1 p→ESl (ESl Ints) w u2 pp→Does Tryz.prog 16 [.agg #[u1,u2]] w (Ret w (.bool true)):=fun w h1 h2=>by
   have:=Rd w u1 u2 ⟨p,pp⟩ h1 h2;rwa [decide_eq_true hd] at this
  have hpp:Pic p:=hd.1.1
  have hppl:pp.length≤8:=hd.2.1
  have hb1:p.length≤100∧∀ r ∈ p,r.length≤100:=⟨by have:=hpp.2.1;omega,fun r hr=>by rw [(hpp.2.2 r hr).1];have:=hpp.2.1;omega⟩
  have hb2 : ∀ q ∈ pp,q.length≤100∧∀ r ∈ q,r.length≤100:=fun q hq=>by
   have hq:=(hd.2.2 q hq).1
   exact ⟨by have:=hq.2.1;omega,fun r hr=>by rw [(hq.2.2 r hr).1];have:=hq.2.1;omega⟩
  have k1 : ∀ w,ESl Ints w u1 p→ESl (ESl Ints) w u2 pp→Does Tryz.prog 60 [.agg #[u1,u2]] w (RetDk w 23 88 3 p pp):=fun w h1 h2=>l11Copy_ok w u1 u2 p pp h1 h2 hb1 Ka hb2
  rw [if_pos hd,if_pos hd,decide_eq_true hd,Bool.true_and]
  by_cases hb:isBack ⟨p,pp⟩ ⟨k,t,n⟩
  ·obtain ⟨e,hne⟩:=hb
   cases e
   have hpl:0 < pp.length:=List.length_pos_iff.2 hne
   have hdo:doV ⟨p,pp⟩ ⟨4,[],0⟩=(⟨pp.getLastD [],pp.dropLast⟩,true):=by unfold doV;rw [if_pos ⟨rfl,hne⟩]
   rw [hdo]
   simp only
   have stop6:True:=trivial
   focus
    refine Zp<|Yl Z Z Z ?_;rintro b1 w1 hb3 E1 hB1;have hlb1:=hB1.lt;have hs1:=E1.size;refine Yl Z Z Z ?_;rintro b2 w2 hb4 E2 hB2;have hlb2:=hB2.lt;refine Yp Z Xf ?_;rintro b3 w3 hb5 E3 hB3;have hlb3:=hB3.lt;refine Zz Z<|Zn<|Zq<|Zq<|Vf<|Xc Ks Ko (hB1.ext exq) Z<|Zr Z (Vx (a:=.agg _) Gc Z) (k0 _ ((Mono.mono exq h1)) ((Mono.mono exq h2))) ?_;rintro _ w4 ⟨rfl,E4⟩;have hs4:=E4.size;refine Ym Z<|Zn<|Xa Z fun h3=>?_;refine Zv<|Zp<|Xc Ks Ko (hB1.ext exq) Z<|Zr Z (Vx (a:=.agg _) Gp Z) (k1 _ ((Mono.mono exq h1)) ((Mono.mono exq h2))) ?_;rintro _ w5 ⟨u3,q1,m1,rfl,E5,hO1,hQ1,hm1,hn1⟩;have icu3:=OwnedB.isC hO1;have icq1:=OwnedB.isC (Owned.toB hQ1)
    have cpq1:=OwnedB.capOk (Owned.toB hQ1);have hs5:=E5.size;refine Yp Z Xf ?_;rintro b4 w6 hb6 E6 hB4;refine Xj Z Ko Z Z Ke Ke hB4 Ka (((((E1.trans E2).trans E3).trans E4).trans E5).trans E6) ?_;rintro w7 E7 hB4 K1 hz1;have E8:=((((E2.trans E3).trans E4).trans E5).trans E6).wroteAt exq E7 K1 hz1 Ka;have szE8:=E8.size;have E9:=(((E3.trans E4).trans E5).trans E6).wroteAt exq E7 K1 hz1 Ka;have E10:=((E4.trans E5).trans E6).wroteAt exq E7 K1 hz1 Ka;have E11:=(E5.trans E6).wroteAt exq E7 K1 hz1 Ka;have E12:=E6.wroteAt exq E7 K1 hz1 Ka;have hB1:=(hB1.ext exq).of_heap (K1 _ Ka);have hB2:=(hB2.ext exq).of_heap (K1 _ Ka);have hB3:=(hB3.ext exq).of_heap (K1 _ Ka);have hO1:=(hO1.ext E6).wrote K1 Ka
    have hQ1:=(hQ1.toB.ext E6).wrote K1 Ka;refine Zn<|Zq<|Zp<|Qt Je Kx hB2 Z<|Wo Z (Vs (ps:=[(0,.int _ _)]) (cs:=[_,_,_]) Yx Z Z)<|Wo Z (Mc Z Z)<|Yf Z (fun h4=>?_) (fun h4=>?_);refine Vn Ky Jb Z<|Yu u2 Jf hB1 Z<|Vk Jc Z h2<|Qe Z<|Yq Z<|Zn<|Zs Z (fun h5=>?_) (fun h5=>?_);refine Zp<|Vn Ky Jb Z<|Yu q1 Jf hB4 Z<|Vk Jc Z (OwnedB.read hQ1)<|Qm Z<|Vg Z<|Zn<|Zq ?_;rotate_left;(exfalso;omega);contradiction
   clear stop6
   obtain ⟨qb,qc,ur,rfl,hqc,hcl,hel,hqb,hqb2,icr⟩:=hQ1.elem (i:=pp.length - 1) Ka
   have hcl:w7.cell? ⟨qb,0+((pp.length:Int) - 1).toNat,none⟩=some ur:=by rw [Nat.zero_add,show ((pp.length:Int) - 1).toNat=pp.length - 1 by omega];exact hcl
   focus
    have szE7:=E7.size;refine Vf<|Vn Ky Jb Z<|Ql Jf hB4 Z<|Zu Z<|Wo Z (Ur Jc Ja Z Z Ka) ?_;refine Wo Z (Vt Kw Z Kd) ?_;refine Vn Ky Ja Z<|Xk (v:=ur) Z Ja Z Z (OwnedB.isC hel) hB4 Ki Ka E7 ?_;rintro w8 E13 hB4 K2 hz2;have E14:=E8.wroteAt E7 E13 K2 hz2 Ka;have E15:=E9.wroteAt E7 E13 K2 hz2 Ka;simp only [List.set] at hB4;have hB3:=hB3.of_heap (K2 _ Ka);have hQ1:=hQ1.wrote K2 Ka;have hel:=hel.wrote K2 Ka;refine Zn<|Zq<|Vf<|Vn Ky Jb Z<|Ql Jf hB4 Z<|Zu Z<|Wo Z (Sf Jc Ja Z Z Ka) ?_
    refine Vn Ky Jb Z<|Xk (v:=.slice _ _ _) Z Jb Z Z Z hB4 Ki Ka E13 ?_;rintro w9 E19 hB4 K3 hz3;simp only [List.set] at hB4;have hB3:=hB3.of_heap (K3 _ Ka);have hQ1:=hQ1.wrote K3 Ka;have hel:=hel.wrote K3 Ka;refine Zn<|Zp<|Xc Ks Ko hB4 Z<|Ui Ko hB3 Z E19 ?_;rintro w10 E25 hB3 K4 hz4;have hQ1:=hQ1.wrote K4 Ka;have hel:=hel.wrote K4 Ka;refine Zz Z<|Zn<|Zy ?_
   have hlast:pp.getLastD []=pp[pp.length - 1]:=by rw [List.getLastD_eq_getLast?,List.getLast?_eq_getElem?,List.getElem?_eq_getElem Ka];rfl
   rw [hlast,List.dropLast_eq_take]
   refine ⟨b3,ur,_,Z,hB3,ur,_,Z,E25,hel.above.mono Ka,?_,icr,Z,Ka⟩
   rw [show ((pp.length:Int) - 1).toNat=pp.length - 1 by omega]
   exact (hQ1.above.mono Ka).takeS Ka
  ·have hdo:doV ⟨p,pp⟩ ⟨k,t,n⟩=match nextV p ⟨k,t,n⟩ with
    | some c=>(⟨c,last8 (pp++[p])⟩,true)
    | none=>(⟨p,pp⟩,false):=by unfold doV;rw [if_neg hb];rfl
   rw [hdo]
   have hback:(⟨k,t,n⟩:Deed)=⟨4,[],0⟩→pp.length=0:=fun e=>Classical.byContradiction fun h=>hb ⟨e,fun h'=>h (by rw [show pp=[] from h'];rfl)⟩
   have k2 : ∀ w,ESl Ints w u1 p→Does Tryz.prog 93 [u1,.agg #[.int .i64 k,str t,.int .i64 n]] w (RetOB w XR (og (madeV p ⟨k,t,n⟩)) (madeV p ⟨k,t,n⟩).isSome):=fun w h=>l11Made_ok w u1 p h hpp k n t ht
   have litown:True:=trivial
   by_cases ha:(⟨k,t,n⟩:Deed)=⟨4,[],0⟩
   ·have hpl0:=hback ha
    cases ha
    have hmv:madeV p ⟨4,[],0⟩=none:=by simp [madeV]
    have hnx:nextV p ⟨4,[],0⟩=none:=by unfold nextV;rw [hmv]
    rw [hmv,show og none=[] from rfl,show (none:Option (List (List Int))).isSome=false from rfl] at k2
    rw [hnx]
    simp only
    focus
     refine Zp<|Yl Z Z Z ?_;rintro b1 w1 hb3 E1 hB1;have hlb1:=hB1.lt;refine Yl Z Z Z ?_;rintro b2 w2 hb4 E2 hB2;have hlb2:=hB2.lt;refine Yp Z Xf ?_;rintro b3 w3 hb5 E3 hB3;have hlb3:=hB3.lt;refine Zz Z<|Zn<|Zq<|Zq<|Vf<|Xc Ks Ko (hB1.ext exq) Z<|Zr Z (Vx (a:=.agg _) Gc Z) (k0 _ ((Mono.mono exq h1)) ((Mono.mono exq h2))) ?_;rintro _ w4 ⟨rfl,E4⟩;have hs4:=E4.size;refine Ym Z<|Zn<|Xa Z fun h3=>?_;refine Zv<|Zp<|Xc Ks Ko (hB1.ext exq) Z<|Zr Z (Vx (a:=.agg _) Gp Z) (k1 _ ((Mono.mono exq h1)) ((Mono.mono exq h2))) ?_;rintro _ w5 ⟨u3,q1,m1,rfl,E5,hO1,hQ1,hm1,hn1⟩;have icu3:=OwnedB.isC hO1;have icq1:=OwnedB.isC (Owned.toB hQ1);have hs5:=E5.size
     refine Yp Z Xf ?_;rintro b4 w6 hb6 E6 hB4;refine Xj Z Ko Z Z Ke Ke hB4 Ka (((((E1.trans E2).trans E3).trans E4).trans E5).trans E6) ?_;rintro w7 E7 hB4 K1 hz1;have E8:=((((E2.trans E3).trans E4).trans E5).trans E6).wroteAt exq E7 K1 hz1 Ka;have hB1:=(hB1.ext exq).of_heap (K1 _ Ka);have hB2:=(hB2.ext exq).of_heap (K1 _ Ka);have hB3:=(hB3.ext exq).of_heap (K1 _ Ka);have hO1:=(hO1.ext E6).wrote K1 Ka;have hQ1:=(hQ1.toB.ext E6).wrote K1 Ka;refine Zn<|Zq<|Zp<|Qt Je Kx hB2 Z<|Wo Z (Vs (ps:=[(0,.int _ _)]) (cs:=[_,_,_]) Yx Z Z)<|Wo Z (Mc Z Z)<|Yf Z (fun h4=>?_) (fun h4=>?_)
     refine Vn Ky Jb Z<|Yu u2 Jf hB1 Z<|Vk Jc Z h2<|Qe Z<|Yq Z<|Zn<|Zt Z fun h5=>?_;refine Zv<|Zq<|Vf<|Vn Ky Ja Z<|Yu u1 Kw hB1 Z<|Qt Je Kx hB2 Z<|Zr Z (Yg (a:=u1) (b:=.agg _) Tryz.call93 Z Z) (k2 _ ((Mono.mono E7 h1))) ?_;rintro _ w8 ⟨u4,rfl,E13,hO2⟩;refine Xl Z<|Un u4 Z<|Xv Z<|Yr u4 Z<|Zz Z<|Zn<|Zq<|Zq<|Xx Xr Kb Z ?_;refine Rv Z<|Wqnot Z<|Sb Z (fun _ _=>Vq (v:=.bool _) Z) (fun h6=>?_) (fun h6=>?_)
     refine Va Z<|Va Z<|Va Z<|Va Z<|Va Z<|Va Z<|Va Z<|Va Z<|Va Z<|Va Z<|Va Z<|Va Z<|Va Z<|Va Z<|Nt Z<|Xu (fun w9 E14=>?_);refine Vv Z ?_;refine Zp<|Xc Ks Ko (hB4.ext exq) Z<|Ui Ko (hB3.ext (E13.trans E14)) Z ((E7.trans E13).trans E14) ?_;rintro w10 E15 hB3 K2 hz2;have E16:=((E8.trans E13).trans E14).wroteAt exq E15 K2 hz2 Ka;have szE16:=E16.size;have hO1:=(hO1.ext exq).wrote K2 Ka;have hQ1:=(hQ1.ext exq).wrote K2 Ka;refine Zz Z<|Zn<|Zy ?_;rotate_left;contradiction;contradiction
    exact ⟨b3,u3,q1,rfl,hB3,u3,q1,rfl,by exact E15,hO1.above.mono Ka,hQ1.above.mono Ka,icu3,icq1,Ka⟩
   ·cases hmv:madeV p ⟨k,t,n⟩ with
    | none =>
      have hnx : nextV p ⟨k, t, n⟩ = none := by unfold nextV; rw [hmv]
      rw [hmv, show og none = [] from rfl, show (none : Option (List (List Int))).isSome = false from rfl] at k2
      rw [hnx]
      simp only
      focus
        refine Zp<|Yl Z Z Z ?_; rintro b1 w1 hb3 E1 hB1; have hlb1 := hB1.lt; refine Yl Z Z Z ?_; rintro b2 w2 hb4 E2 hB2; have hlb2 := hB2.lt; refine Yp Z Xf ?_; rintro b3 w3 hb5 E3 hB3; have hlb3 := hB3.lt; refine Zz Z<|Zn<|Zq<|Zq<|Vf<|Xc Ks Ko (hB1.ext exq) Z<|Zr Z (Vx (a := .agg _) Gc Z) (k0 _ ((Mono.mono exq h1)) ((Mono.mono exq h2))) ?_; rintro _ w4 ⟨rfl, E4⟩; have hs4 := E4.size; refine Ym Z<|Zn<|Xa Z fun h3 => ?_; refine Zv<|Zp<|Xc Ks Ko (hB1.ext exq) Z<|Zr Z (Vx (a := .agg _) Gp Z) (k1 _ ((Mono.mono exq h1)) ((Mono.mono exq h2))) ?_; rintro _ w5 ⟨u3, q1, m1, rfl, E5, hO1, hQ1, hm1, hn1⟩; have icu3 := OwnedB.isC hO1; have icq1 := OwnedB.isC (Owned.toB hQ1); have hs5 := E5.size
        refine Yp Z Xf ?_; rintro b4 w6 hb6 E6 hB4; refine Xj Z Ko Z Z Ke Ke hB4 Ka (((((E1.trans E2).trans E3).trans E4).trans E5).trans E6) ?_; rintro w7 E7 hB4 K1 hz1; have E8 := ((((E2.trans E3).trans E4).trans E5).trans E6).wroteAt exq E7 K1 hz1 Ka; have hB1 := (hB1.ext exq).of_heap (K1 _ Ka); have hB2 := (hB2.ext exq).of_heap (K1 _ Ka); have hB3 := (hB3.ext exq).of_heap (K1 _ Ka); have hO1 := (hO1.ext E6).wrote K1 Ka; have hQ1 := (hQ1.toB.ext E6).wrote K1 Ka; refine Zn<|Zq<|Zp<|Qt Je Kx hB2 Z<|Wo Z (Vs (ps := [(0, .int _ _)]) (cs := [_, _, _]) Yx Z Z)<|Wo Z (Mc Z Z)<|Yw Z fun h4 => ?_
        refine Zo Z<|Zo Z<|Zo Z<|Zo Z<|Vp Z<|Zn<|Zx Z ?_; refine Zv<|Zq<|Vf<|Vn Ky Ja Z<|Yu u1 Kw hB1 Z<|Qt Je Kx hB2 Z<|Zr Z (Yg (a := u1) (b := .agg _) Tryz.call93 Z Z) (k2 _ ((Mono.mono E7 h1))) ?_; rintro _ w8 ⟨u4, rfl, E13, hO2⟩; refine Xl Z<|Un u4 Z<|Xv Z<|Yr u4 Z<|Zz Z<|Zn<|Zq<|Zq<|Xx Xr Kb Z ?_; refine Rv Z<|Wqnot Z<|Sb Z (fun _ _ => Vq (v := .bool _) Z) (fun h5 => ?_) (fun h5 => ?_); refine Va Z<|Va Z<|Va Z<|Va Z<|Va Z<|Va Z<|Va Z<|Va Z<|Va Z<|Va Z<|Va Z<|Va Z<|Va Z<|Va Z<|Nt Z<|Xu (fun w9 E14 => ?_)
        refine Vv Z ?_; refine Zp<|Xc Ks Ko (hB4.ext exq) Z<|Ui Ko (hB3.ext (E13.trans E14)) Z ((E7.trans E13).trans E14) ?_; rintro w10 E15 hB3 K2 hz2; have E16 := ((E8.trans E13).trans E14).wroteAt exq E15 K2 hz2 Ka; have szE16 := E16.size; have hO1 := (hO1.ext exq).wrote K2 Ka; have hQ1 := (hQ1.ext exq).wrote K2 Ka; refine Zz Z<|Zn<|Zy ?_; rotate_left; contradiction
      exact ⟨b3, u3, q1, rfl, hB3, u3, q1, rfl, by exact E15, hO1.above.mono Ka, hQ1.above.mono Ka, icu3, icq1, Ka⟩
    | some c =>
      rw [hmv, show og (some c) = c from rfl, show (some c).isSome = true from rfl] at k2
      have hc : LeastP c := madeV_least hpp hmv
      have hcp := hc.1
      have k3 : ∀ (w : World) (v : Value), ESl Ints w v c → Does Tryz.prog 62 [v] w (Ret w (str (txt c))) := fun w v h => by
        have := Uk w v _ h
        rwa [if_pos hcp] at this
      by_cases hcq : c = p
      · subst hcq
        have hnx : nextV c ⟨k, t, n⟩ = none := by unfold nextV; rw [hmv]; simp
        rw [hnx]
        simp only
        focus
          refine Zp<|Yl Z Z Z ?_; rintro b1 w1 hb3 E1 hB1; have hlb1 := hB1.lt; refine Yl Z Z Z ?_; rintro b2 w2 hb4 E2 hB2; have hlb2 := hB2.lt; refine Yp Z Xf ?_; rintro b3 w3 hb5 E3 hB3; have hlb3 := hB3.lt; refine Zz Z<|Zn<|Zq<|Zq<|Vf<|Xc Ks Ko (hB1.ext exq) Z<|Zr Z (Vx (a := .agg _) Gc Z) (k0 _ ((Mono.mono exq h1)) ((Mono.mono exq h2))) ?_; rintro _ w4 ⟨rfl, E4⟩; have hs4 := E4.size; refine Ym Z<|Zn<|Xa Z fun h3 => ?_; refine Zv<|Zp<|Xc Ks Ko (hB1.ext exq) Z<|Zr Z (Vx (a := .agg _) Gp Z) (k1 _ ((Mono.mono exq h1)) ((Mono.mono exq h2))) ?_; rintro _ w5 ⟨u3, q1, m1, rfl, E5, hO1, hQ1, hm1, hn1⟩; have icu3 := OwnedB.isC hO1; have icq1 := OwnedB.isC (Owned.toB hQ1); have hs5 := E5.size
          refine Yp Z Xf ?_; rintro b4 w6 hb6 E6 hB4; refine Xj Z Ko Z Z Ke Ke hB4 Ka (((((E1.trans E2).trans E3).trans E4).trans E5).trans E6) ?_; rintro w7 E7 hB4 K1 hz1; have E8 := ((((E2.trans E3).trans E4).trans E5).trans E6).wroteAt exq E7 K1 hz1 Ka; have hB1 := (hB1.ext exq).of_heap (K1 _ Ka); have hB2 := (hB2.ext exq).of_heap (K1 _ Ka); have hB3 := (hB3.ext exq).of_heap (K1 _ Ka); have hO1 := (hO1.ext E6).wrote K1 Ka; have hQ1 := (hQ1.toB.ext E6).wrote K1 Ka; refine Zn<|Zq<|Zp<|Qt Je Kx hB2 Z<|Wo Z (Vs (ps := [(0, .int _ _)]) (cs := [_, _, _]) Yx Z Z)<|Wo Z (Mc Z Z)<|Yw Z fun h4 => ?_
          refine Zo Z<|Zo Z<|Zo Z<|Zo Z<|Vp Z<|Zn<|Zx Z ?_; refine Zv<|Zq<|Vf<|Vn Ky Ja Z<|Yu u1 Kw hB1 Z<|Qt Je Kx hB2 Z<|Zr Z (Yg (a := u1) (b := .agg _) Tryz.call93 Z Z) (k2 _ ((Mono.mono E7 h1))) ?_; rintro _ w8 ⟨u4, rfl, E13, hO2⟩; refine Xl Z<|Un u4 Z<|Xv Z<|Yr u4 Z<|Zz Z<|Zn<|Zq<|Zq<|Xx Xr Kb Z ?_; refine Rv Z<|Wqnot Z<|Sb Z (fun _ _ => Vq (v := .bool _) Z) (fun h5 => ?_) (fun h5 => ?_); contradiction; refine Qj u4 Z<|Xs Z (fun _ _ => Rx Kp Z (Owned.read hO2)) ?_
          refine Uw Ky Ja Z<|Xs (v := u1) Z (fun w' hw' => Vt Kw Z (((hB1.ext E13).ext hw').cell Z)) ?_; refine Xs Z (fun _ _ => Rx Kp Z h1) ?_; refine Rg Z<|Uy Z (fun h6 => ?_) (fun h6 => ?_); refine Qj u4 Z<|Ut Z (fun _ _ => Vx (a := u4) Jy Z) (fun w' hw' => (k3 _ _ ((Mono.mono hw' (Owned.read hO2))))) ?_; refine Uw Ky Ja Z<|Xs (v := u1) Z (fun w' hw' => Vt Kw Z (((hB1.ext E13).ext hw').cell Z)) ?_; refine Ut Z (fun _ _ => Vx (a := u1) Jy Z) (fun w' hw' => (k3 _ _ ((Mono.mono exq h1)))) ?_; refine Xs Z (fun _ _ => Vc Z Z) ?_; refine Nt Z<|Rc Z<|Xu (fun w9 E14 => ?_); refine Zs Z (fun h7 => ?_) (fun h7 => ?_)
          refine Zp<|Xc Ks Ko (hB4.ext exq) Z<|Ui Ko (hB3.ext (E13.trans E14)) Z ((E7.trans E13).trans E14) ?_; rintro w10 E15 hB3 K2 hz2; have E16 := ((E8.trans E13).trans E14).wroteAt exq E15 K2 hz2 Ka; have szE16 := E16.size; have hO1 := (hO1.ext exq).wrote K2 Ka; have hQ1 := (hQ1.ext exq).wrote K2 Ka; refine Zz Z<|Zn<|Zy ?_; rotate_left; contradiction; contradiction
        exact ⟨b3, u3, q1, rfl, hB3, u3, q1, rfl, by exact E15, hO1.above.mono Ka, hQ1.above.mono Ka, icu3, icq1, Ka⟩
      · have hnx : nextV p ⟨k, t, n⟩ = some c := by unfold nextV; rw [hmv]; simp [hcq]
        rw [hnx]
        simp only
        have k4 : ∀ (w : World) (v : Value), ESl Ints w v p → Does Tryz.prog 62 [v] w (Ret w (str (txt p))) := fun w v h => by
          have := Uk w v _ h
          rwa [if_pos hpp] at this
        have htx : txt c ≠ txt p := fun e => hcq (txt_inj hcp.gr hpp.gr e)
        have stop12 : True := trivial
        focus
          refine Zp<|Yl Z Z Z ?_; rintro b1 w1 hb3 E1 hB1; have hlb1 := hB1.lt; have hs1 := E1.size; refine Yl Z Z Z ?_; rintro b2 w2 hb4 E2 hB2; have hlb2 := hB2.lt; refine Yp Z Xf ?_; rintro b3 w3 hb5 E3 hB3; have hlb3 := hB3.lt; refine Zz Z<|Zn<|Zq<|Zq<|Vf<|Xc Ks Ko (hB1.ext exq) Z<|Zr Z (Vx (a := .agg _) Gc Z) (k0 _ ((Mono.mono exq h1)) ((Mono.mono exq h2))) ?_; rintro _ w4 ⟨rfl, E4⟩; have hs4 := E4.size; refine Ym Z<|Zn<|Xa Z fun h3 => ?_; refine Zv<|Zp<|Xc Ks Ko (hB1.ext exq) Z<|Zr Z (Vx (a := .agg _) Gp Z) (k1 _ ((Mono.mono exq h1)) ((Mono.mono exq h2))) ?_; rintro _ w5 ⟨u3, q1, m1, rfl, E5, hO1, hQ1, hm1, hn1⟩; have icu3 := OwnedB.isC hO1; have icq1 := OwnedB.isC (Owned.toB hQ1); have hs5 := E5.size
          refine Yp Z Xf ?_; rintro b4 w6 hb6 E6 hB4; have hlb4 := hB4.lt; have hs6 := E6.size; refine Xj Z Ko Z Z Ke Ke hB4 Ka (((((E1.trans E2).trans E3).trans E4).trans E5).trans E6) ?_; rintro w7 E7 hB4 K1 hz1; have E8 := ((((E2.trans E3).trans E4).trans E5).trans E6).wroteAt exq E7 K1 hz1 Ka; have E9 := (((E3.trans E4).trans E5).trans E6).wroteAt exq E7 K1 hz1 Ka; have E10 := ((E4.trans E5).trans E6).wroteAt exq E7 K1 hz1 Ka; have E11 := (E5.trans E6).wroteAt exq E7 K1 hz1 Ka; have hB1 := (hB1.ext exq).of_heap (K1 _ Ka); have hB2 := (hB2.ext exq).of_heap (K1 _ Ka); have hB3 := (hB3.ext exq).of_heap (K1 _ Ka); have hO1 := (hO1.ext E6).wrote K1 Ka; have hQ1 := (hQ1.toB.ext E6).wrote K1 Ka
          refine Zn<|Zq<|Zp<|Qt Je Kx hB2 Z<|Wo Z (Vs (ps := [(0, .int _ _)]) (cs := [_, _, _]) Yx Z Z)<|Wo Z (Mc Z Z)<|Yw Z fun h4 => ?_; refine Zo Z<|Zo Z<|Zo Z<|Zo Z<|Vp Z<|Zn<|Zx Z ?_; refine Zv<|Zq<|Vf<|Vn Ky Ja Z<|Yu u1 Kw hB1 Z<|Qt Je Kx hB2 Z<|Zr Z (Yg (a := u1) (b := .agg _) Tryz.call93 Z Z) (k2 _ ((Mono.mono E7 h1))) ?_; rintro _ w8 ⟨u4, rfl, E13, hO2⟩; have ichO2 := OwnedB.isC (Owned.toB hO2); have hs7 := E13.size; refine Xl Z<|Un u4 Z<|Xv Z<|Yr u4 Z<|Zz Z<|Zn<|Zq<|Zq<|Xx Xr Kb Z ?_
          refine Rv Z<|Wqnot Z<|Sb Z (fun _ _ => Vq (v := .bool _) Z) (fun h5 => ?_) (fun h5 => ?_); contradiction; refine Qj u4 Z<|Xs Z (fun _ _ => Rx Kp Z (Owned.read hO2)) ?_; refine Uw Ky Ja Z<|Xs (v := u1) Z (fun w' hw' => Vt Kw Z (((hB1.ext E13).ext hw').cell Z)) ?_; refine Xs Z (fun _ _ => Rx Kp Z h1) ?_; refine Rg Z<|Uy Z (fun h6 => ?_) (fun h6 => ?_); refine Qj u4 Z<|Ut Z (fun _ _ => Vx (a := u4) Jy Z) (fun w' hw' => (k3 _ _ ((Mono.mono hw' (Owned.read hO2))))) ?_; refine Uw Ky Ja Z<|Xs (v := u1) Z (fun w' hw' => Vt Kw Z (((hB1.ext E13).ext hw').cell Z)) ?_
          refine Ut Z (fun _ _ => Vx (a := u1) Jy Z) (fun w' hw' => (k4 _ _ ((Mono.mono exq h1)))) ?_; refine Xs Z (fun _ _ => Vc Z Z) ?_; refine Nt Z<|Rc Z<|Xu (fun w9 E14 => ?_); have hs8 := E14.size; refine Vj Z fun h7 => ?_; refine Zv<|Zq ?_; rotate_left; refine Va Z<|Va Z<|Va Z<|Va Z<|Va Z<|Va Z<|Rc Z<|Rc Z<|Xu (fun w9 E14 => ?_); have hs8 := E14.size; refine Zx Z ?_; refine Zv<|Zq ?_; rotate_left
        · clear stop12
          have stop13 : True := trivial
          have hQ0 := hQ1
          focus
            refine Vf<|Vn Ky Jb Z<|Yu q1 Jf (hB4.ext exq) Z<|Vn Ky Ja Z<|Yu u3 Kw (hB4.ext exq) Z<|Ua Z Jc Ja Ge Z (OwnedB.isC (hO1.ext exq)) Z ?_; rintro b5 w10 hb7 E15 hB5 hHb5; have hs9 := E15.size; refine Wo_app1r Z el24 Z Z hB5 (hQ0.ext ((E13.trans E14).trans E15)) (hO1.ext ((E13.trans E14).trans E15)) Kf Ka Ka (((E7.trans E13).trans E14).trans E15) Ka ?_; have hT1 := (hQ0.ext ((E13.trans E14).trans E15)); rintro v1 w11 hQ0 E16 M1; have E17 := M1.ext hT1 (((E8.trans E13).trans E14).trans E15) Ka; have szE17 := E17.size; have E18 := M1.ext hT1 (((E9.trans E13).trans E14).trans E15) Ka; have E19 := M1.ext hT1 (((E10.trans E13).trans E14).trans E15) Ka
            have E20 := M1.ext hT1 (((E11.trans E13).trans E14).trans E15) Ka; have hB4 := (hB4.ext exq).moves M1 hT1 Ka; have hB1 := (hB1.ext exq).moves M1 hT1 Ka; have hB2 := (hB2.ext exq).moves M1 hT1 Ka; have hB3 := (hB3.ext exq).moves M1 hT1 Ka; have hO1 := (hO1.ext exq).moves M1 hT1 Ka; have hO2 := (hO2.toB.ext exq).moves M1 hT1 Ka; have hB5 := hB5.moves M1 hT1 Ka; have hs10 := E16.size; have icv1 := OwnedB.isC (Owned.toB hQ0); refine Vn Ky Jb Z<|Xk (v := v1) Z Jb Z Z (OwnedB.isC hQ0.toB) hB4 Ki Ka E16 ?_; rintro w12 E21 hB4 K2 hz2; have E22 := E17.wroteAt E16 E21 K2 hz2 Ka; have E23 := E18.wroteAt E16 E21 K2 hz2 Ka; have E24 := E19.wroteAt E16 E21 K2 hz2 Ka; have E25 := E20.wroteAt E16 E21 K2 hz2 Ka; simp only [List.set] at hB4
            have hB1 := hB1.of_heap (K2 _ Ka); have hB2 := hB2.of_heap (K2 _ Ka); have hB3 := hB3.of_heap (K2 _ Ka); have hO1 := hO1.wrote K2 Ka; have hO2 := hO2.wrote K2 Ka; have hB5 := hB5.of_heap (K2 _ Ka); refine Zn<|Zq<|Zq ?_
          clear stop13
          have hM : Moves w10 q1 w11 v1 := M1
          have hne := hM.ne hQ1 (b := b4) Ka Ka
          clear hQ1
          obtain ⟨nb, nc, rfl, hnc⟩ := hQ0.lit Ki
          have hnl : (pp ++ [p]).length = pp.length + 1 := Ki
          rw [hnl] at hB4 hQ0 hne hnc
          focus
            have szE7 := E7.size; refine Vf<|Vn Ky Jb Z<|Ql Jf hB4 Z<|Vk Jc Z (Owned.read hQ0)<|Qe Z<|Zn<|Zs Z (fun h8 => ?_) (fun h8 => ?_); refine Vf<|Vn Ky Jb Z<|Ql Jf hB4 Z<|Wo Z (Rm Jc Ja Z Z Ka) ?_; refine Vn Ky Jb Z<|Xk (v := .slice _ _ _) Z Jb Z Z Z hB4 Ki Ka E21 ?_; rintro w13 E26 hB4 K3 hz3; have E27 := E22.wroteAt E21 E26 K3 hz3 Ka; have E28 := E23.wroteAt E21 E26 K3 hz3 Ka; simp only [List.set] at hB4; have hB3 := hB3.of_heap (K3 _ Ka); have hO2 := hO2.wrote K3 Ka
            refine Zn<|Zp<|Vb u4 Z<|Vn Ky Ja Z<|Xk (v := u4) Z Ja Z Z (OwnedB.isC hO2) hB4 Ki Ka E26 ?_; rintro w14 E31 hB4 K4 hz4; simp only [List.set] at hB4; have hB3 := hB3.of_heap (K4 _ Ka); have hO2 := hO2.wrote K4 Ka; refine Zn<|Zp<|Xc Ks Ko hB4 Z<|Ui Ko hB3 Z E31 ?_; rintro w15 E36 hB3 K5 hz5; have hO2 := hO2.wrote K5 Ka; refine Zz Z<|Zn<|Zy ?_; rotate_left; refine Zv<|Zp<|Vb u4 Z<|Vn Ky Ja Z<|Xk (v := u4) Z Ja Z Z (OwnedB.isC hO2) hB4 Ki Ka E21 ?_; rintro w13 E26 hB4 K3 hz3; simp only [List.set] at hB4; have hB3 := hB3.of_heap (K3 _ Ka); have hO2 := hO2.wrote K3 Ka
            refine Zn<|Zp<|Xc Ks Ko hB4 Z<|Ui Ko hB3 Z E26 ?_; rintro w14 E31 hB3 K4 hz4; have hO2 := hO2.wrote K4 Ka; refine Zz Z<|Zn<|Zy ?_; rotate_left
          · have hQ3 := (hQ0.wroteLt (w' := w15) (fun k h1 h2 => (K5 k Ka).trans ((K4 k h2).trans ((K3 k h2).trans (K2 k h2)))) Ka hne).above.mono (show w.heap.size ≤ w4.heap.size by omega)
            refine ⟨b3, u4, _, Z, hB3, u4, _, Z, by exact E36, hO2.above.mono Ka, ?_, Kd, Z, Ka⟩
            rw [show last8 (pp ++ [p]) = (pp ++ [p]).drop 1 from if_pos Ka]
            exact hQ3.dropS Ka
          · have hQ3 := (hQ0.wroteLt (w' := w14) (fun k h1 h2 => (K4 k Ka).trans ((K3 k h2).trans (K2 k h2))) Ka hne).above.mono (show w.heap.size ≤ w4.heap.size by omega)
            refine ⟨b3, u4, _, Z, hB3, u4, _, Z, by exact E31, hO2.above.mono Ka, ?_, Kd, Z, Ka⟩
            rw [show last8 (pp ++ [p]) = pp ++ [p] from if_neg Ka]
            exact hQ3
        · clear stop12
          have stop13 : True := trivial
          have hQ0 := hQ1
          focus
            refine Vf<|Vn Ky Jb Z<|Yu q1 Jf (hB4.ext exq) Z<|Vn Ky Ja Z<|Yu u3 Kw (hB4.ext exq) Z<|Ua Z Jc Ja Ge Z (OwnedB.isC (hO1.ext exq)) Z ?_; rintro b5 w10 hb7 E15 hB5 hHb5; have hs9 := E15.size; refine Wo_app1r Z el24 Z Z hB5 (hQ0.ext ((E13.trans E14).trans E15)) (hO1.ext ((E13.trans E14).trans E15)) Kf Ka Ka (((E7.trans E13).trans E14).trans E15) Ka ?_; have hT1 := (hQ0.ext ((E13.trans E14).trans E15)); rintro v1 w11 hQ0 E16 M1; have E17 := M1.ext hT1 (((E8.trans E13).trans E14).trans E15) Ka; have szE17 := E17.size; have E18 := M1.ext hT1 (((E9.trans E13).trans E14).trans E15) Ka; have E19 := M1.ext hT1 (((E10.trans E13).trans E14).trans E15) Ka
            have E20 := M1.ext hT1 (((E11.trans E13).trans E14).trans E15) Ka; have hB4 := (hB4.ext exq).moves M1 hT1 Ka; have hB1 := (hB1.ext exq).moves M1 hT1 Ka; have hB2 := (hB2.ext exq).moves M1 hT1 Ka; have hB3 := (hB3.ext exq).moves M1 hT1 Ka; have hO1 := (hO1.ext exq).moves M1 hT1 Ka; have hO2 := (hO2.toB.ext exq).moves M1 hT1 Ka; have hB5 := hB5.moves M1 hT1 Ka; have hs10 := E16.size; have icv1 := OwnedB.isC (Owned.toB hQ0); refine Vn Ky Jb Z<|Xk (v := v1) Z Jb Z Z (OwnedB.isC hQ0.toB) hB4 Ki Ka E16 ?_; rintro w12 E21 hB4 K2 hz2; have E22 := E17.wroteAt E16 E21 K2 hz2 Ka; have E23 := E18.wroteAt E16 E21 K2 hz2 Ka; have E24 := E19.wroteAt E16 E21 K2 hz2 Ka; have E25 := E20.wroteAt E16 E21 K2 hz2 Ka; simp only [List.set] at hB4
            have hB1 := hB1.of_heap (K2 _ Ka); have hB2 := hB2.of_heap (K2 _ Ka); have hB3 := hB3.of_heap (K2 _ Ka); have hO1 := hO1.wrote K2 Ka; have hO2 := hO2.wrote K2 Ka; have hB5 := hB5.of_heap (K2 _ Ka); refine Zn<|Zq<|Zq ?_
          clear stop13
          have hM : Moves w10 q1 w11 v1 := M1
          have hne := hM.ne hQ1 (b := b4) Ka Ka
          clear hQ1
          obtain ⟨nb, nc, rfl, hnc⟩ := hQ0.lit Ki
          have hnl : (pp ++ [p]).length = pp.length + 1 := Ki
          rw [hnl] at hB4 hQ0 hne hnc
          focus
            have szE7 := E7.size; refine Vf<|Vn Ky Jb Z<|Ql Jf hB4 Z<|Vk Jc Z (Owned.read hQ0)<|Qe Z<|Zn<|Zs Z (fun h7 => ?_) (fun h7 => ?_); refine Vf<|Vn Ky Jb Z<|Ql Jf hB4 Z<|Wo Z (Rm Jc Ja Z Z Ka) ?_; refine Vn Ky Jb Z<|Xk (v := .slice _ _ _) Z Jb Z Z Z hB4 Ki Ka E21 ?_; rintro w13 E26 hB4 K3 hz3; have E27 := E22.wroteAt E21 E26 K3 hz3 Ka; have E28 := E23.wroteAt E21 E26 K3 hz3 Ka; simp only [List.set] at hB4; have hB3 := hB3.of_heap (K3 _ Ka); have hO2 := hO2.wrote K3 Ka
            refine Zn<|Zp<|Vb u4 Z<|Vn Ky Ja Z<|Xk (v := u4) Z Ja Z Z (OwnedB.isC hO2) hB4 Ki Ka E26 ?_; rintro w14 E31 hB4 K4 hz4; simp only [List.set] at hB4; have hB3 := hB3.of_heap (K4 _ Ka); have hO2 := hO2.wrote K4 Ka; refine Zn<|Zp<|Xc Ks Ko hB4 Z<|Ui Ko hB3 Z E31 ?_; rintro w15 E36 hB3 K5 hz5; have hO2 := hO2.wrote K5 Ka; refine Zz Z<|Zn<|Zy ?_; rotate_left; refine Zv<|Zp<|Vb u4 Z<|Vn Ky Ja Z<|Xk (v := u4) Z Ja Z Z (OwnedB.isC hO2) hB4 Ki Ka E21 ?_; rintro w13 E26 hB4 K3 hz3; simp only [List.set] at hB4; have hB3 := hB3.of_heap (K3 _ Ka); have hO2 := hO2.wrote K3 Ka
            refine Zn<|Zp<|Xc Ks Ko hB4 Z<|Ui Ko hB3 Z E26 ?_; rintro w14 E31 hB3 K4 hz4; have hO2 := hO2.wrote K4 Ka; refine Zz Z<|Zn<|Zy ?_; rotate_left
          · have hQ3 := (hQ0.wroteLt (w' := w15) (fun k h1 h2 => (K5 k Ka).trans ((K4 k h2).trans ((K3 k h2).trans (K2 k h2)))) Ka hne).above.mono (show w.heap.size ≤ w4.heap.size by omega)
            refine ⟨b3, u4, _, Z, hB3, u4, _, Z, by exact E36, hO2.above.mono Ka, ?_, Kd, Z, Ka⟩
            rw [show last8 (pp ++ [p]) = (pp ++ [p]).drop 1 from if_pos Ka]
            exact hQ3.dropS Ka
          · have hQ3 := (hQ0.wroteLt (w' := w14) (fun k h1 h2 => (K4 k Ka).trans ((K3 k h2).trans (K2 k h2))) Ka hne).above.mono (show w.heap.size ≤ w4.heap.size by omega)
            refine ⟨b3, u4, _, Z, hB3, u4, _, Z, by exact E31, hO2.above.mono Ka, ?_, Kd, Z, Ka⟩
            rw [show last8 (pp ++ [p]) = pp ++ [p] from if_neg Ka]
            exact hQ3
 ·have k0 : ∀ w,ESl Ints w u1 p→ESl (ESl Ints) w u2 pp→Does Tryz.prog 16 [.agg #[u1,u2]] w (Ret w (.bool false)):=fun w h1 h2=>by
   have:=Rd w u1 u2 ⟨p,pp⟩ h1 h2;rwa [decide_eq_false hd] at this
  rw [if_neg hd,if_neg hd,decide_eq_false hd,Bool.false_and]
  focus
   refine Zp<|Yl Z Z Z ?_;rintro b1 w1 hb1 E1 hB1;have hlb1:=hB1.lt;refine Yl Z Z Z ?_;rintro b2 w2 hb2 E2 hB2;have hlb2:=hB2.lt;refine Yp Z Xf ?_;rintro b3 w3 hb3 E3 hB3;refine Zz Z<|Zn<|Zq<|Zq<|Vf<|Xc Ks Ko (hB1.ext exq) Z<|Zr Z (Vx (a:=.agg _) Gc Z) (k0 _ ((Mono.mono exq h1)) ((Mono.mono exq h2))) ?_;rintro _ w4 ⟨rfl,E4⟩;refine Ym Z<|Zn<|Xg Z (fun h3=>?_) (fun h3=>?_);refine Zp<|Wo Z (Vs (ps:=[]) (cs:=[_,_]) Xf Z Z)<|Xj Z Ko Z Z Ke Ke (hB3.ext E4) Ka (((E1.trans E2).trans E3).trans E4) ?_;rintro w5 E5 hB3 K1 hz1;have E6:=((E2.trans E3).trans E4).wroteAt exq E5 K1 hz1 Ka;have szE6:=E6.size
   refine Zz Z<|Zn<|Zy ?_;rotate_left;contradiction
  exact ⟨b3,_,_,rfl,hB3,_,_,rfl,by exact E5,(Owned.nil (e:=0) (X:=XSl 0 XInt)).above,(Owned.nil (e:=0) (X:=XSl 0 (XSl 0 XInt))).above,rfl,rfl,Ka⟩
end Go.Proofs.YtbgpppaljpngmaaGreatDoor
