/- Lemmas for FnDeskLine. -/
import Derived.Test.YtbgpppaljpngmaaGreatDoorMFnDeskLine6
namespace Go.Proofs.YtbgpppaljpngmaaGreatDoor
open Go.Hs
set_option maxRecDepth 10000
set_option maxHeartbeats 4000000
set_option linter.unusedVariables false
set_option linter.unusedSimpArgs false
open Go.Lib (decDigits)
def ynV (b:Bool):List UInt8:=if b then [121,101,115] else [110,111]
noncomputable def ask2 (p:List (List Int)) (wd r:List UInt8):List UInt8 :=
 if wd=[104,111,108,100,115]∧okF r=true then ynV (holdsV r p 0)
 else if wd=[104,97,115]∧(rdP r).isSome=true then ynV (hasV p 0 ((rdP r).getD []) 0)
 else if wd=[105,115]∧(rdP r).isSome=true then ynV (ssetV p 0 ((rdP r).getD []) 0)
 else [119,104,97,116]
noncomputable def askV (p:List (List Int)) (s:List UInt8):List UInt8 :=
 if s=[112,105,99,116,117,114,101] then 58::txt p
 else if s=[99,111,100,101] then (if (codeV p 0).2 then decDigits (codeV p 0).1.toNat else [110,111,110,101])
 else if s=[109,97,110,121] then decDigits (manyV p 0)
 else if s=[111,119,110] then ynV (hasV p 0 p 0)
 else if s=[100,101,101,112] then (if 0≤deepAtV p 0 then decDigits (deepAtV p 0).toNat else [110,111,110,101])
 else if s=[102,111,117,110,100,101,100] then decDigits (faV p).length
 else if (cutF 32 s).2.2 then ask2 p (cutF 32 s).1 (cutF 32 s).2.1
 else [119,104,97,116]
theorem codeV_nat (p:List (List Int)) (z:Int):(∃ c:Nat,c < 65536∧codeV p z=((c:Int),true))∨codeV p z=(-1,false):=by
 unfold codeV
 split
 ·cases h:cod p p.length z.toNat with
  | none=>exact .inr rfl
  | some c=>exact .inl ⟨c,cod_lt h,rfl⟩
 ·exact .inr rfl
theorem deepAtV_nat {p:List (List Int)} (hp:Pic p) (z:Int):(∃ c:Nat,c < 10∧deepAtV p z=(c:Int))∨deepAtV p z = -1:=by
 unfold deepAtV
 split
 ·rename_i h
  have h2:=h.1.2
  have h5:=hp.2.1
  have:=dpt_lt hp (r:=p.length) (k:=z.toNat) Kh Lq h.2
  exact .inl ⟨_,Kh,rfl⟩
 ·exact .inr rfl
theorem faV_le (p:List (List Int)):(ints (faV p)).length≤p.length:=by
 rw [Ul];unfold faV
 split
 ·exact Jd (List.length_filter_le _ _) Kp
 ·simp
theorem manyV_le (p:List (List Int)) (a:Nat):manyV p a≤p.length:=by
 unfold manyV
 exact Jd (List.length_filter_le _ _) Kp
theorem yesNo_ok (w:World) (b:Bool):Dz 156 [.bool b] w (Ret w (str (ynV b))):=by
 cases b with
 | true =>
   refine Yr Tryz.func156 Z Tryz.results156 Tryz.ntmps156 Z ?_
   focus
     refine Vr<|Xr Z<|Vp<|Vt<|Vr<|Xp Z<|Vp<|Xe Z ?_; refine Vr<|Xr Z<|Vp<|Vy ?_; exact ⟨rfl, (Jf _)⟩
 | false =>
   refine Yr Tryz.func156 Z Tryz.results156 Tryz.ntmps156 Z ?_
   focus
     refine Vr<|Xr Z<|Vp<|Vt<|Vr<|Xp Z<|Vp<|Vx Z ?_; refine Vw<|Vr<|Xr Z<|Vp<|Vy ?_; exact ⟨rfl, (Jf _)⟩
theorem CodeAtN_ok (w:World) (v:Value) (p:List (List Int)) (h:ESl Ints w v p) (hp:Pic p):Dz 155 [v,.int .i64 0] w (Ret w (.tuple #[.int .i64 (codeV p 0).1,.bool (codeV p 0).2])):=by
 have hz:Nod p 0:=⟨hp,by have:=hp.1;omega⟩
 cases hc:cback p (0:Int).toNat with
 | false=>exact CodeAt_ok w v p h 0 hz hc
 | true =>
   have e : codeV p 0 = (-1, false) := if_neg fun h => by rw [hc] at h; exact absurd h.2 Kj
   have k1 : ∀ (w : World) (pv : Value), ESl Ints w pv p → Dz 94 [pv, .int .i64 0] w (Ret w (.bool true)) := fun w pv h => by
     have := Sj w pv p h 0
     rw [decide_eq_true hz] at this; exact this
   have k2 : ∀ (w : World) (pv : Value), ESl Ints w pv p → Dz 187 [pv, .int .i64 0] w (Ret w (.bool true)) := fun w pv h => by
     have := Mc w pv p h hp 0 (by have := hp.1; omega)
     rw [show cback p 0 = true from hc] at this; exact this
   rw [e]
   refine Uy Tryz.func155 Z Tryz.results155 Tryz.ntmps155 Z ?_
   focus
     refine Vr<|Yx Z<|Ya Z<|Vp<|Vt<|Vr<|Yj v Z<|Vz Z<|Vs Z (Xa (a := v) (b := .int _ _) Zf Z Z) (k1 _ _ (h)) ?_; rintro _ w1 ⟨rfl, E1⟩; refine Xz Z<|Uf Z (Xj (v := .bool _) Z) (fun h1 => ?_) (fun h1 => ?_); exact Ks; refine Yj v Z<|Vz Z<|Vs Z (Xa (a := v) (b := .int _ _) Vk Z Z) (k2 _ _ (Ku E1 h)) ?_; rintro _ w2 ⟨rfl, E2⟩; refine Xb Z<|Vp<|Xe Z ?_; refine Vr<|Yx Z<|Ya Z<|Vp<|Vy ?_; exact ⟨rfl, exq⟩
open Classical in
theorem asked_ok (w:World) (hM:EMx gMx w (.bool true) ()) (hT:ETb w (.bool true) ()) (v:Value) (p:List (List Int)) (h:ESl Ints w v p) (hp:Pic p) (s:List UInt8) (hs:s.length≤1048576):Dz 112 [v,str s] w (Ret w (str (askV p s))):=by
 have I1:=hp.1
 have I5:=hp.2.1
 have hfl:=faV_le p
 have hml:=manyV_le p 0
 have c1 : ∀ (w:World) (v:Value),ESl Ints w v p→Dz 79 [v] w (Ret w (str (txt p))):=fun w v h=>Nf w v p h hp
 have c3 : ∀ (w:World) (v:Value),ESl Ints w v p→Dz 95 [v,.int .i64 0] w (Ret w (.int .i64 (manyV p 0:Int))):=fun w v h=>manyIn_ok w v p h hp 0 Kh
 have c4 : ∀ (w:World) (v u:Value),ESl Ints w v p→ESl Ints w u p→Dz 96 [v,.int .i64 0,u,.int .i64 0] w (Ret w (.bool (hasV p 0 p 0))):=fun w v u h h'=>hasSet_ok w v u p p h h' hp hp 0 0 Kh Kh
 have c6 : ∀ (w:World) (v:Value),ESl Ints w v p→Dz 158 [v] w (RetO w XI (ints (faV p))):=fun w v h=>foundedAll_ok w v p h hp
 have cI : ∀ (w:World) (n:Nat),n≤1000000→ETb w (.bool true) ()→Dz 131 [.int .i64 (n:Int)] w (Ret w (str (decDigits n))):=fun w n hn hT=>ItoaN_ok w hT n hn
 have cF : ∀ (w:World),ETb w (.bool true) ()→Dz 131 [.int .i64 ((ints (faV p)).length:Int)] w (Ret w (str (decDigits (faV p).length))):=fun w hT=>by
  rw [Ul] at hfl ⊢
  exact ItoaN_ok w hT _ Kh
 have cM : ∀ (w:World),ETb w (.bool true) ()→Dz 131 [.int .i64 (manyV p 0:Int)] w (Ret w (str (decDigits (manyV p 0)))):=fun w hT=>cI w _ Kh hT
 have htx:=Lk hp.gr
 refine Yr Tryz.func112 Z Tryz.results112 Tryz.ntmps112 Z ?_
 have stop5:True:=trivial
 have stop14:True:=trivial
 have stop20:True:=trivial
 focus
  refine Vr<|Xr Z<|Vp<|Vt<|Vr<|Yv Z<|Vp<|Yb<|Vr<|Wo Z (Yi Z Z)<|Ya Z<|Vp<|Vu Z (fun h1=>?_) (fun h1=>?_);refine Vr<|Yj v Z<|Vs Z (Xh (a:=v) Tryz.call79 Z) (c1 _ _ (h)) ?_;rintro _ w1 ⟨rfl,E1⟩;refine Wo Z (Yz Z Z Kf) ?_;refine Xr Z<|Vp<|Vy ?_;refine Yh (v:=.string _) Z ?_;refine ⟨congrArg str ?_,E1⟩;rotate_left;refine Vr<|Wo Z (Yi Z Z)<|Ya Z<|Vp<|Vu Z (fun h2=>?_) (fun h2=>?_);refine Vt<|Vt ?_;rotate_left;refine Vr<|Wo Z (Yi Z Z)<|Ya Z<|Vp<|Vu Z (fun h3=>?_) (fun h3=>?_);refine Vr<|Yj v Z<|Vs Z (Xa (a:=v) (b:=.int _ _) Tryz.call95 Z Z) (c3 _ _ (h)) ?_;rintro _ w1 ⟨rfl,E1⟩
  refine Vs Z (Xh (a:=.int _ _) Vj Z) (cM _ (Ku E1 hT)) ?_;rintro _ w2 ⟨rfl,E2⟩;refine Xr Z<|Vp<|Vy ?_;refine Yh (v:=.string _) Z ?_;refine ⟨congrArg str ?_,exq⟩;rotate_left;refine Vr<|Wo Z (Yi Z Z)<|Ya Z<|Vp<|Vu Z (fun h4=>?_) (fun h4=>?_);refine Vt<|Ym<|Yj v Z<|Yj v Z<|Vs Z (Ss (a:=v) (b:=.int _ _) (c:=v) (d:=.int _ _) Tryz.call96 Z Z Z Z) (c4 _ _ _ (h) (h)) ?_;rintro _ w1 ⟨rfl,E1⟩;refine Vs Z (Xh (a:=.bool _) Zy Z) (yesNo_ok _ _) ?_;rintro _ w2 ⟨rfl,E2⟩;refine Xr Z<|Vp<|Vy ?_;refine Yh (v:=.string _) Z ?_;refine ⟨congrArg str ?_,exq⟩;rotate_left;refine Vr<|Wo Z (Yi Z Z)<|Ya Z<|Vp<|Vu Z (fun h5=>?_) (fun h5=>?_)
  refine Vt<|Vt ?_;rotate_left;refine Vr<|Wo Z (Yi Z Z)<|Ya Z<|Vp<|Vu Z (fun h6=>?_) (fun h6=>?_);refine Vr<|Yj v Z<|Vs Z (Xh (a:=v) Tryz.call158 Z) (c6 _ _ (h)) ?_;rintro u1 w1 ⟨E1,O1⟩;refine Ys Jl Z (Kv O1)<|Vs Z (Xh (a:=.int _ _) Vj Z) (cF _ (Ku E1 hT)) ?_;rintro _ w2 ⟨rfl,E2⟩;refine Xr Z<|Vp<|Vy ?_;refine Yh (v:=.string _) Z ?_;refine ⟨congrArg str ?_,exq⟩;rotate_left;refine Vw<|Vt ?_;rotate_left
 ·unfold askV;rw [if_pos Kk];rfl
 ·clear stop5 stop14 stop20
  have ea:askV p s=if (codeV p 0).2 then decDigits (codeV p 0).1.toNat else [110,111,110,101]:=by
   unfold askV;rw [if_neg Kk,if_pos Kk]
  rw [ea]
  have c2 : ∀ (w:World) (v:Value),ESl Ints w v p→Dz 155 [v,.int .i64 0] w (Ret w (.tuple #[.int .i64 (codeV p 0).1,.bool (codeV p 0).2])):=fun w v h=>CodeAtN_ok w v p h hp
  rcases codeV_nat p 0 with ⟨c,hc,e⟩ | e
  ·rw [e] at c2 ⊢
   have cC:=fun w hT=>cI w c Kh hT
   focus
    refine Ym<|Yj v Z<|Vs Z (Xa (a:=v) (b:=.int _ _) Tryz.call155 Z Z) (c2 _ _ (h)) ?_;rintro _ w1 ⟨rfl,E1⟩;refine Ut Z<|WsxI Z<|Uz Z<|Yx Z<|Ya Z<|Vp<|Vr<|Xp Z<|Vp<|Xe Z ?_;refine Vt<|Ym<|Vz Z<|Vs Z (Xh (a:=.int _ _) Vj Z) (cC _ (Ku E1 hT)) ?_;rintro _ w2 ⟨rfl,E2⟩;refine Xr Z<|Vp<|Vy ?_;exact ⟨rfl,exq⟩
  ·rw [e] at c2 ⊢
   focus
    refine Ym<|Yj v Z<|Vs Z (Xa (a:=v) (b:=.int _ _) Tryz.call155 Z Z) (c2 _ _ (h)) ?_;rintro _ w1 ⟨rfl,E1⟩;refine Ut Z<|WsxI Z<|Uz Z<|Yx Z<|Ya Z<|Vp<|Vr<|Xp Z<|Vp<|Vx Z ?_;refine Vw<|Vr<|Xr Z<|Vp<|Vy ?_;exact ⟨rfl,E1⟩
 ·unfold askV;rw [if_neg Kk,if_neg Kk,if_pos Kk]
 ·unfold askV;rw [if_neg Kk,if_neg Kk,if_neg Kk,if_pos Kk]
 ·clear stop5 stop14 stop20
  have ea:askV p s=if 0≤deepAtV p 0 then decDigits (deepAtV p 0).toNat else [110,111,110,101]:=by
   unfold askV;rw [if_neg Kk,if_neg Kk,if_neg Kk,if_neg Kk,if_pos Kk]
  rw [ea]
  have c5 : ∀ (w:World) (v:Value),ESl Ints w v p→Dz 157 [v,.int .i64 0] w (Ret w (.int .i64 (deepAtV p 0))):=fun w v h=>impl_DeepAt_ok w v p h 0
  rcases deepAtV_nat hp 0 with ⟨c,hc,e⟩ | e
  ·rw [e] at c5 ⊢
   rw [if_pos Kh]
   have cC:=fun w hT=>cI w c Kh hT
   focus
    refine Ym<|Yj v Z<|Vs Z (Xa (a:=v) (b:=.int _ _) Tryz.call157 Z Z) (c5 _ _ (h)) ?_;rintro _ w1 ⟨rfl,E1⟩;refine Yx Z<|Vp<|Vr<|Vz Z<|Rs Z<|Vp<|Vu Z (fun h6=>?_) (fun h6=>?_);refine Vr<|Vz Z<|Vs Z (Xh (a:=.int _ _) Vj Z) (cC _ (Ku E1 hT)) ?_;rintro _ w2 ⟨rfl,E2⟩;refine Xr Z<|Vp<|Vy ?_;exact ⟨rfl,exq⟩;exact Kt
  ·rw [e] at c5 ⊢
   rw [if_neg Kh]
   focus
    refine Ym<|Yj v Z<|Vs Z (Xa (a:=v) (b:=.int _ _) Tryz.call157 Z Z) (c5 _ _ (h)) ?_;rintro _ w1 ⟨rfl,E1⟩;refine Yx Z<|Vp<|Vr<|Vz Z<|Rs Z<|Vp<|Yt Z fun h6=>?_;refine Vw<|Vr<|Xr Z<|Vp<|Vy ?_;exact ⟨rfl,E1⟩
 ·unfold askV;rw [if_neg Kk,if_neg Kk,if_neg Kk,if_neg Kk,if_neg Kk,if_pos Kk]
 clear stop5 stop14 stop20
 have ea:askV p s=if (cutF 32 s).2.2 then ask2 p (cutF 32 s).1 (cutF 32 s).2.1 else [119,104,97,116]:=by
  unfold askV;rw [if_neg Kk,if_neg Kk,if_neg Kk,if_neg Kk,if_neg Kk,if_neg Kk]
 rw [ea]
 have hRl:(cutF 32 s).2.1.length≤1048576:=by have:=(cutF_len 32 s).2;omega
 have c7 : ∀ w,EMx gMx w (.bool true) ()→Dz 102 [str s,str [32]] w (Ret w (.tuple #[str (cutF 32 s).1,str (cutF 32 s).2.1,.bool (cutF 32 s).2.2])):=fun w hM=>Cut_ok w s 32 hM hs
 clear ea c1 c3 c4 c6 cF cM
 generalize (cutF 32 s).1=wd at *
 generalize (cutF 32 s).2.1=R at *
 generalize (cutF 32 s).2.2=H at *
 cases H with
 | false => focus
              refine W_region Z ?_; refine Wo Z (Xj (v := .string _) Z) ?_; refine Vs Z (Xa (a := .string _) (b := .string _) Vl Z Z) (c7 _ (hM)) ?_; rintro _ w1 ⟨rfl, E1⟩
              refine Wo Z (Xj (v := .tuple _) Z) ?_; refine Wo Z (Rx (v := .string _) Z Z) ?_; refine Wo Z (Rx (v := .string _) Z Z) ?_; refine Wo Z (Rx (v := .bool _) Z Z) ?_
              refine Wo Z (Re (v := .string _) Z) ?_; refine Wo Z (Re (v := .string _) Z) ?_; refine Wo Z (Re (v := .bool _) Z) ?_; refine Vp ?_; refine Vt ?_; refine Vt ?_; refine W_region Z ?_
              refine Wo Z (Xj (v := .bool _) Z) ?_; refine Wo Z (opv_not Z) ?_; refine Vp ?_; refine Up Z (fun h7 => ?_) (fun h7 => ?_); refine Vt ?_; refine W_region Z ?_
              refine Wo Z (Re (v := .string _) Z) ?_; refine Vp ?_; refine Vy ?_; exact ⟨rfl, E1⟩; exact Ks
 | true =>
   have hRl' : R.length ≤ lim := by unfold lim; omega
   have c8 : ∀ w, EMx gMx w (.bool true) () → Dz 150 [str R] w (RetOB w XR ((rdP R).getD []) (rdP R).isSome) := fun w hM => Mk w R hM hRl
   have yn := yesNo_ok
   cases hq : rdP R with
   | none =>
     rw [hq] at c8
     cases hf : theF R with
     | none =>
       have c9 : ∀ w, Dz 159 [str R] w (Ret w (.pointer none)) := fun w => La R w hRl' hf
       have ho : okF R = false := by unfold okF; rw [hf]; rfl
       have ea : ask2 p wd R = [119, 104, 97, 116] := by unfold ask2; rw [ho, hq]; simp
       rw [if_pos rfl, ea]
       focus
         refine Ym<|Yv Z<|Vs Z (Xa (a := .string _) (b := .string _) Vl Z Z) (c7 _ (hM)) ?_; rintro _ w1 ⟨rfl, E1⟩; refine Ut Z<|Sr Z<|Sr Z<|Uz Z<|Xr Z<|Xr Z<|Ya Z<|Vp<|Vt<|Vr<|Xp Z<|Xz Z<|Vp<|Uk Z fun h7 => ?_; refine Vw<|Vr<|Yv Z<|Vs Z (Xh (a := .string _) Za Z) (c8 _ (Ku E1 hM)) ?_; rintro _ w2 ⟨u1, rfl, E2, O1⟩; refine Ut Z<|Ra u1 Z<|Uz Z<|Uc u1 Z<|Ya Z<|Vp<|Vr<|Yv Z<|Vs Z (Xh (a := .string _) Tryz.call159 Z) (c9 _) ?_; rintro _ w3 ⟨rfl, E3⟩; refine Qn Z<|Vp<|Vt<|Yb<|Vr<|Yv Z<|Wo Z (Yi Z Z)<|Xi Z (fun h8 => ?_) (fun h8 => ?_)
         refine Uv Z<|Wo Z (opv_neq_nil Gj Z Z)<|Xy Z<|Ya Z<|Vp<|Vx Z ?_; refine Vt<|Ym<|Yv Z<|Wo Z (Yi Z Z)<|Xi Z (fun h9 => ?_) (fun h9 => ?_); refine Xp Z<|Xy Z<|Ya Z<|Vp<|Uk Z fun h10 => ?_; refine Vr<|Yv Z<|Wo Z (Yi Z Z)<|Xi Z (fun h11 => ?_) (fun h11 => ?_); refine Xp Z<|Xy Z<|Ya Z<|Vp<|Uk Z fun h12 => ?_; refine Vw<|Vr<|Xr Z<|Vp<|Vy ?_; exact ⟨rfl, exq⟩; refine Vq Z<|Xb Z<|Ya Z<|Vp<|Vx Z ?_; refine Vw<|Vr<|Xr Z<|Vp<|Vy ?_; exact ⟨rfl, exq⟩; refine Vq Z<|Xb Z<|Ya Z<|Vp<|Vx Z ?_
         refine Vr<|Yv Z<|Wo Z (Yi Z Z)<|Xi Z (fun h10 => ?_) (fun h10 => ?_); refine Xp Z<|Xy Z<|Ya Z<|Vp<|Uk Z fun h11 => ?_; refine Vw<|Vr<|Xr Z<|Vp<|Vy ?_; exact ⟨rfl, exq⟩; refine Vq Z<|Xb Z<|Ya Z<|Vp<|Vx Z ?_; refine Vw<|Vr<|Xr Z<|Vp<|Vy ?_; exact ⟨rfl, exq⟩; refine Vq Z<|Vq Z<|Xb Z<|Ya Z<|Vp<|Vx Z ?_; refine Vr<|Yv Z<|Wo Z (Yi Z Z)<|Xi Z (fun h9 => ?_) (fun h9 => ?_); refine Xp Z<|Xy Z<|Ya Z<|Vp<|Uk Z fun h10 => ?_; refine Vr<|Yv Z<|Wo Z (Yi Z Z)<|Xi Z (fun h11 => ?_) (fun h11 => ?_); refine Xp Z<|Xy Z<|Ya Z<|Vp<|Uk Z fun h12 => ?_
         refine Vw<|Vr<|Xr Z<|Vp<|Vy ?_; exact ⟨rfl, exq⟩; refine Vq Z<|Xb Z<|Ya Z<|Vp<|Vx Z ?_; refine Vw<|Vr<|Xr Z<|Vp<|Vy ?_; exact ⟨rfl, exq⟩; refine Vq Z<|Xb Z<|Ya Z<|Vp<|Vx Z ?_; refine Vr<|Yv Z<|Wo Z (Yi Z Z)<|Xi Z (fun h10 => ?_) (fun h10 => ?_); refine Xp Z<|Xy Z<|Ya Z<|Vp<|Uk Z fun h11 => ?_; refine Vw<|Vr<|Xr Z<|Vp<|Vy ?_; exact ⟨rfl, exq⟩; refine Vq Z<|Xb Z<|Ya Z<|Vp<|Vx Z ?_; refine Vw<|Vr<|Xr Z<|Vp<|Vy ?_; exact ⟨rfl, exq⟩
     | some f =>
       have c9 := fun w => Mx R w f hf
       have ho : okF R = true := by unfold okF; rw [hf]; rfl
       have c10 : ∀ (w : World) (v pv : Value), EFm w v f → ESl Ints w pv p → Dz 160 [v, pv, .int .i64 0] w (Ret w (.bool (holdsV R p 0))) := fun w v pv h1 h2 => by
         have := holds_ok p hp f w v pv 0 h1 h2 ⟨Kh, Kh⟩ (by have := theF_some.1 hf; rw [← this.1]; omega)
         rwa [show holdsV R p 0 = f.holds p (0 : Int).toNat by unfold holdsV; rw [hf]; simp [show Nod p 0 from ⟨hp, Kh⟩]]
       have ea : ask2 p wd R = if wd = [104, 111, 108, 100, 115] then ynV (holdsV R p 0) else [119, 104, 97, 116] := by unfold ask2; rw [ho, hq]; simp
       rw [if_pos rfl, ea]
       focus
         refine Ym<|Yv Z<|Vs Z (Xa (a := .string _) (b := .string _) Vl Z Z) (c7 _ (hM)) ?_; rintro _ w1 ⟨rfl, E1⟩; refine Ut Z<|Sr Z<|Sr Z<|Uz Z<|Xr Z<|Xr Z<|Ya Z<|Vp<|Vt<|Vr<|Xp Z<|Xz Z<|Vp<|Uk Z fun h7 => ?_; refine Vw<|Vr<|Yv Z<|Vs Z (Xh (a := .string _) Za Z) (c8 _ (Ku E1 hM)) ?_; rintro _ w2 ⟨u1, rfl, E2, O1⟩; refine Ut Z<|Ra u1 Z<|Uz Z<|Uc u1 Z<|Ya Z<|Vp<|Vr<|Yv Z<|Vs Z (Xh (a := .string _) Tryz.call159 Z) (c9 _) ?_; rintro _ w3 ⟨E3, y1, rfl, L1⟩; refine Qn Z<|Vp<|Vt<|Yb<|Vr<|Yv Z<|Wo Z (Yi Z Z)<|Xi Z (fun h8 => ?_) (fun h8 => ?_)
         refine Uv Z<|Wo Z (opv_neq_some Gj Z Z)<|Xy Z<|Ya Z<|Vp<|Xe Z ?_; refine Vt<|Ym<|Uv Z<|Yj v Z<|Vs Z (Qq (a := .pointer _) (b := v) (c := .int _ _) Zx Z Z Z) (c10 _ _ _ (Above.here L1) (Ku exq h)) ?_; rintro _ w4 ⟨rfl, E4⟩; refine Vs Z (Xh (a := .bool _) Zy Z) (yn _ _) ?_; rintro _ w5 ⟨rfl, E5⟩; refine Xr Z<|Vp<|Vy ?_; refine Yh (v := .string _) Z ?_; refine ⟨congrArg str ?_, exq⟩; rotate_left; refine Vq Z<|Vq Z<|Xb Z<|Ya Z<|Vp<|Vx Z ?_; refine Vr<|Yv Z<|Wo Z (Yi Z Z)<|Xi Z (fun h9 => ?_) (fun h9 => ?_); refine Xp Z<|Xy Z<|Ya Z<|Vp<|Uk Z fun h10 => ?_
         refine Vr<|Yv Z<|Wo Z (Yi Z Z)<|Xi Z (fun h11 => ?_) (fun h11 => ?_); refine Xp Z<|Xy Z<|Ya Z<|Vp<|Uk Z fun h12 => ?_; refine Vw<|Vr<|Xr Z<|Vp<|Vy ?_; refine Yh (v := .string _) Z ?_; refine ⟨congrArg str ?_, exq⟩; rotate_left; refine Vq Z<|Xb Z<|Ya Z<|Vp<|Vx Z ?_; refine Vw<|Vr<|Xr Z<|Vp<|Vy ?_; refine Yh (v := .string _) Z ?_; refine ⟨congrArg str ?_, exq⟩; rotate_left; refine Vq Z<|Xb Z<|Ya Z<|Vp<|Vx Z ?_; refine Vr<|Yv Z<|Wo Z (Yi Z Z)<|Xi Z (fun h10 => ?_) (fun h10 => ?_); refine Xp Z<|Xy Z<|Ya Z<|Vp<|Uk Z fun h11 => ?_; refine Vw<|Vt<|Ym<|Xr Z<|Vp<|Vy ?_
         refine Yh (v := .string _) Z ?_; refine ⟨congrArg str ?_, exq⟩; rotate_left; refine Vq Z<|Xb Z<|Ya Z<|Vp<|Vx Z ?_; refine Vw<|Vr<|Xr Z<|Vp<|Vy ?_; refine Yh (v := .string _) Z ?_; refine ⟨congrArg str ?_, exq⟩; rotate_left
       all_goals first | rw [if_pos Kk] | rw [if_neg Kk]
   | some q =>
     rw [hq] at c8
     have hqp := (Tn hq).1
     have hq1 := hqp.1
     have c11 : ∀ (w : World) (v u : Value), ESl Ints w v p → ESl Ints w u q → Dz 96 [v, .int .i64 0, u, .int .i64 0] w (Ret w (.bool (hasV p 0 q 0))) := fun w v u h h' => hasSet_ok w v u p q h h' hp hqp 0 0 Kh Kh
     have c12 : ∀ (w : World) (v u : Value), ESl Ints w v p → ESl Ints w u q → Dz 148 [v, .int .i64 0, u, .int .i64 0] w (Ret w (.bool (ssetV p 0 q 0))) := fun w v u h h' => by
       have := sameSet_ok w v u p q h h' hp hqp 0 0 Kh Kh
       rwa [show ssetV p 0 q 0 = decide (Bis p (0 : Int).toNat q (0 : Int).toNat) from decide_eq_decide.2 ⟨fun h => h.2.2, fun h => ⟨⟨hp, Kh⟩, ⟨hqp, Kh⟩, h⟩⟩]
     cases hf : theF R with
     | none =>
       have c9 : ∀ w, Dz 159 [str R] w (Ret w (.pointer none)) := fun w => La R w hRl' hf
       have ho : okF R = false := by unfold okF; rw [hf]; rfl
       have ea : ask2 p wd R = if wd = [104, 97, 115] then ynV (hasV p 0 q 0) else if wd = [105, 115] then ynV (ssetV p 0 q 0) else [119, 104, 97, 116] := by unfold ask2; rw [ho, hq]; simp
       rw [if_pos rfl, ea]
       focus
         refine Ym<|Yv Z<|Vs Z (Xa (a := .string _) (b := .string _) Vl Z Z) (c7 _ (hM)) ?_; rintro _ w1 ⟨rfl, E1⟩; refine Ut Z<|Sr Z<|Sr Z<|Uz Z<|Xr Z<|Xr Z<|Ya Z<|Vp<|Vt<|Vr<|Xp Z<|Xz Z<|Vp<|Uk Z fun h7 => ?_; refine Vw<|Vr<|Yv Z<|Vs Z (Xh (a := .string _) Za Z) (c8 _ (Ku E1 hM)) ?_; rintro _ w2 ⟨u1, rfl, E2, O1⟩; refine Ut Z<|Ra u1 Z<|Uz Z<|Uc u1 Z<|Ya Z<|Vp<|Vr<|Yv Z<|Vs Z (Xh (a := .string _) Tryz.call159 Z) (c9 _) ?_; rintro _ w3 ⟨rfl, E3⟩; refine Qn Z<|Vp<|Vt<|Yb<|Vr<|Yv Z<|Wo Z (Yi Z Z)<|Xi Z (fun h8 => ?_) (fun h8 => ?_)
         refine Uv Z<|Wo Z (opv_neq_nil Gj Z Z)<|Xy Z<|Ya Z<|Vp<|Vx Z ?_; refine Vt<|Ym<|Yv Z<|Wo Z (Yi Z Z)<|Xi Z (fun h9 => ?_) (fun h9 => ?_); refine Xp Z<|Xy Z<|Ya Z<|Vp<|Up Z (fun h10 => ?_) (fun h10 => ?_); refine Vr<|Yj v Z<|Yj u1 Z<|Vs Z (Ss (a := v) (b := .int _ _) (c := u1) (d := .int _ _) Tryz.call96 Z Z Z Z) (c11 _ _ _ (Ku exq h) ((Ku E3 (Kv O1)))) ?_; rintro _ w4 ⟨rfl, E4⟩; refine Vs Z (Xh (a := .bool _) Zy Z) (yn _ _) ?_; rintro _ w5 ⟨rfl, E5⟩; refine Xr Z<|Vp<|Vy ?_; refine Yh (v := .string _) Z ?_; refine ⟨congrArg str ?_, exq⟩; rotate_left; exact Ks; refine Vq Z<|Xb Z<|Ya Z<|Vp<|Vx Z ?_
         refine Vr<|Yv Z<|Wo Z (Yi Z Z)<|Xi Z (fun h10 => ?_) (fun h10 => ?_); refine Xp Z<|Xy Z<|Ya Z<|Vp<|Up Z (fun h11 => ?_) (fun h11 => ?_); refine Vr<|Yj v Z<|Yj u1 Z<|Vs Z (Ss (a := v) (b := .int _ _) (c := u1) (d := .int _ _) Tryz.call148 Z Z Z Z) (c12 _ _ _ (Ku exq h) ((Ku E3 (Kv O1)))) ?_; rintro _ w4 ⟨rfl, E4⟩; refine Vs Z (Xh (a := .bool _) Zy Z) (yn _ _) ?_; rintro _ w5 ⟨rfl, E5⟩; refine Xr Z<|Vp<|Vy ?_; refine Yh (v := .string _) Z ?_; refine ⟨congrArg str ?_, exq⟩; rotate_left; exact Ks; refine Vq Z<|Xb Z<|Ya Z<|Vp<|Vx Z ?_; refine Vw<|Vr<|Xr Z<|Vp<|Vy ?_; refine Yh (v := .string _) Z ?_; refine ⟨congrArg str ?_, exq⟩; rotate_left
         refine Vq Z<|Vq Z<|Xb Z<|Ya Z<|Vp<|Vx Z ?_; refine Vr<|Yv Z<|Wo Z (Yi Z Z)<|Xi Z (fun h9 => ?_) (fun h9 => ?_); refine Xp Z<|Xy Z<|Ya Z<|Vp<|Up Z (fun h10 => ?_) (fun h10 => ?_); refine Vr<|Yj v Z<|Yj u1 Z<|Vs Z (Ss (a := v) (b := .int _ _) (c := u1) (d := .int _ _) Tryz.call96 Z Z Z Z) (c11 _ _ _ (Ku exq h) ((Ku E3 (Kv O1)))) ?_; rintro _ w4 ⟨rfl, E4⟩; refine Vs Z (Xh (a := .bool _) Zy Z) (yn _ _) ?_; rintro _ w5 ⟨rfl, E5⟩; refine Xr Z<|Vp<|Vy ?_; refine Yh (v := .string _) Z ?_; refine ⟨congrArg str ?_, exq⟩; rotate_left; exact Ks; refine Vq Z<|Xb Z<|Ya Z<|Vp<|Vx Z ?_
         refine Vr<|Yv Z<|Wo Z (Yi Z Z)<|Xi Z (fun h10 => ?_) (fun h10 => ?_); refine Xp Z<|Xy Z<|Ya Z<|Vp<|Up Z (fun h11 => ?_) (fun h11 => ?_); refine Vr<|Yj v Z<|Yj u1 Z<|Vs Z (Ss (a := v) (b := .int _ _) (c := u1) (d := .int _ _) Tryz.call148 Z Z Z Z) (c12 _ _ _ (Ku exq h) ((Ku E3 (Kv O1)))) ?_; rintro _ w4 ⟨rfl, E4⟩; refine Vs Z (Xh (a := .bool _) Zy Z) (yn _ _) ?_; rintro _ w5 ⟨rfl, E5⟩; refine Xr Z<|Vp<|Vy ?_; refine Yh (v := .string _) Z ?_; refine ⟨congrArg str ?_, exq⟩; rotate_left; exact Ks; refine Vq Z<|Xb Z<|Ya Z<|Vp<|Vx Z ?_; refine Vw<|Vr<|Xr Z<|Vp<|Vy ?_; refine Yh (v := .string _) Z ?_; refine ⟨congrArg str ?_, exq⟩; rotate_left
       all_goals first | rw [if_pos Kk] | (rw [if_neg Kk]; first | rw [if_pos Kk] | rw [if_neg Kk])
     | some f =>
       have c9 := fun w => Mx R w f hf
       have ho : okF R = true := by unfold okF; rw [hf]; rfl
       have c10 : ∀ (w : World) (v pv : Value), EFm w v f → ESl Ints w pv p → Dz 160 [v, pv, .int .i64 0] w (Ret w (.bool (holdsV R p 0))) := fun w v pv h1 h2 => by
         have := holds_ok p hp f w v pv 0 h1 h2 ⟨Kh, Kh⟩ (by have := theF_some.1 hf; rw [← this.1]; omega)
         rwa [show holdsV R p 0 = f.holds p (0 : Int).toNat by unfold holdsV; rw [hf]; simp [show Nod p 0 from ⟨hp, Kh⟩]]
       have ea : ask2 p wd R = if wd = [104, 111, 108, 100, 115] then ynV (holdsV R p 0) else if wd = [104, 97, 115] then ynV (hasV p 0 q 0) else if wd = [105, 115] then ynV (ssetV p 0 q 0) else [119, 104, 97, 116] := by unfold ask2; rw [ho, hq]; simp
       rw [if_pos rfl, ea]
       focus
         refine Ym<|Yv Z<|Vs Z (Xa (a := .string _) (b := .string _) Vl Z Z) (c7 _ (hM)) ?_; rintro _ w1 ⟨rfl, E1⟩; refine Ut Z<|Sr Z<|Sr Z<|Uz Z<|Xr Z<|Xr Z<|Ya Z<|Vp<|Vt<|Vr<|Xp Z<|Xz Z<|Vp<|Uk Z fun h7 => ?_; refine Vw<|Vr<|Yv Z<|Vs Z (Xh (a := .string _) Za Z) (c8 _ (Ku E1 hM)) ?_; rintro _ w2 ⟨u1, rfl, E2, O1⟩; refine Ut Z<|Ra u1 Z<|Uz Z<|Uc u1 Z<|Ya Z<|Vp<|Vr<|Yv Z<|Vs Z (Xh (a := .string _) Tryz.call159 Z) (c9 _) ?_; rintro _ w3 ⟨E3, y1, rfl, L1⟩; refine Qn Z<|Vp<|Vt<|Yb<|Vr<|Yv Z<|Wo Z (Yi Z Z)<|Xi Z (fun h8 => ?_) (fun h8 => ?_)
         refine Uv Z<|Wo Z (opv_neq_some Gj Z Z)<|Xy Z<|Ya Z<|Vp<|Xe Z ?_; refine Vt<|Ym<|Uv Z<|Yj v Z<|Vs Z (Qq (a := .pointer _) (b := v) (c := .int _ _) Zx Z Z Z) (c10 _ _ _ (Above.here L1) (Ku exq h)) ?_; rintro _ w4 ⟨rfl, E4⟩; refine Vs Z (Xh (a := .bool _) Zy Z) (yn _ _) ?_; rintro _ w5 ⟨rfl, E5⟩; refine Xr Z<|Vp<|Vy ?_; refine Yh (v := .string _) Z ?_; refine ⟨congrArg str ?_, exq⟩; rotate_left; refine Vq Z<|Vq Z<|Xb Z<|Ya Z<|Vp<|Vx Z ?_; refine Vr<|Yv Z<|Wo Z (Yi Z Z)<|Xi Z (fun h9 => ?_) (fun h9 => ?_); refine Xp Z<|Xy Z<|Ya Z<|Vp<|Up Z (fun h10 => ?_) (fun h10 => ?_)
         refine Vr<|Yj v Z<|Yj u1 Z<|Vs Z (Ss (a := v) (b := .int _ _) (c := u1) (d := .int _ _) Tryz.call96 Z Z Z Z) (c11 _ _ _ (Ku exq h) ((Ku E3 (Kv O1)))) ?_; rintro _ w4 ⟨rfl, E4⟩; refine Vs Z (Xh (a := .bool _) Zy Z) (yn _ _) ?_; rintro _ w5 ⟨rfl, E5⟩; refine Xr Z<|Vp<|Vy ?_; refine Yh (v := .string _) Z ?_; refine ⟨congrArg str ?_, exq⟩; rotate_left; exact Ks; refine Vq Z<|Xb Z<|Ya Z<|Vp<|Vx Z ?_; refine Vr<|Yv Z<|Wo Z (Yi Z Z)<|Xi Z (fun h10 => ?_) (fun h10 => ?_); refine Xp Z<|Xy Z<|Ya Z<|Vp<|Up Z (fun h11 => ?_) (fun h11 => ?_)
         refine Vr<|Yj v Z<|Yj u1 Z<|Vs Z (Ss (a := v) (b := .int _ _) (c := u1) (d := .int _ _) Tryz.call148 Z Z Z Z) (c12 _ _ _ (Ku exq h) ((Ku E3 (Kv O1)))) ?_; rintro _ w4 ⟨rfl, E4⟩; refine Vs Z (Xh (a := .bool _) Zy Z) (yn _ _) ?_; rintro _ w5 ⟨rfl, E5⟩; refine Xr Z<|Vp<|Vy ?_; refine Yh (v := .string _) Z ?_; refine ⟨congrArg str ?_, exq⟩; rotate_left; exact Ks; refine Vq Z<|Xb Z<|Ya Z<|Vp<|Vx Z ?_; refine Vw<|Vr<|Xr Z<|Vp<|Vy ?_; refine Yh (v := .string _) Z ?_; refine ⟨congrArg str ?_, exq⟩; rotate_left
       all_goals first | rw [if_pos Kk] | (rw [if_neg Kk]; first | rw [if_pos Kk] | (rw [if_neg Kk]; first | rw [if_pos Kk] | rw [if_neg Kk]))
noncomputable def lnV (d:Dsk) (s:List UInt8):Dsk × List UInt8:=match rdD s with
 | some a=>((doV d a).1,okV (doV d a).2)
 | none=>(d,askV d.now s)
open Classical in
theorem deskLine_ok (w:World) (hM:EMx gMx w (.bool true) ()) (hT:ETb w (.bool true) ()) (u1 u2:Value) (d:Dsk) (h1:ESl Ints w u1 d.now) (h2:ESl (ESl Ints) w u2 d.past) (hd:DkOk d) (s:List UInt8) (hs:s.length≤1048576) :
  Dz 59 [.agg #[u1,u2],str s] w (RetDkT w 23 88 3 (lnV d s).1.now (lnV d s).1.past (lnV d s).2):=by
 cases ha:rdD s with
 | some a =>
   have := deskLineD_ok w hM u1 u2 d h1 h2 hd s hs a ha
   unfold lnV; rw [ha]; exact this
 | none =>
   rw [show lnV d s = (d, askV d.now s) by unfold lnV; rw [ha]]
   have V1 : isCell u1 = true := Qy h1
   have V2 : isCell u2 = true := Qy h2
   have bnd : ∀ q, Pic q → q.length ≤ 100 ∧ ∀ r ∈ q, r.length ≤ 100 := fun q hq => ⟨by have := hq.2.1; omega, fun r hr => by rw [(hq.2.2 r hr).1]; have := hq.2.1; omega⟩
   have hppl := hd.2.1
   have k0 : ∀ (w : World), EMx gMx w (.bool true) () → Dz 103 [str s] w (Ret w (.tuple #[.agg #[.int .i64 0, str [], .int .i64 0], .bool false])) := fun w hM => by
     have := Ld w s hM hs
     rw [ha] at this; exact this
   have k1 : ∀ w, ESl Ints w u1 d.now → ESl (ESl Ints) w u2 d.past → Dz 77 [.agg #[u1, u2]] w (RetDk w 23 88 3 d.now d.past) := fun w h1 h2 => Np w u1 u2 d.now d.past h1 h2 (bnd _ hd.1.1) Kh (fun q hq => bnd q (hd.2.2 q hq).1)
   have k2 : ∀ w, EMx gMx w (.bool true) () → ETb w (.bool true) () → ESl Ints w u1 d.now → Dz 112 [u1, str s] w (Ret w (str (askV d.now s))) := fun w hM hT h => asked_ok w hM hT u1 d.now h hd.1.1 s hs
   refine Tj Tryz.func59 Z Tryz.results59 Tryz.ntmps59 Z Jq Jj ?_
   have heldS : w = w := rfl
   focus
     refine Vr<|Xu Z Z Z ?_; rintro b1 w1 H1 E1 B1; have := B1.lt; refine Xk Z Ug ?_; rintro b2 w2 H2 E2 B2; have := B2.lt; refine Xr Z<|Vp<|Vt<|Vr<|Yv Z<|Vs Z (Xh (a := .string _) Tryz.call103 Z) (k0 _ (Ku exq hM)) ?_; rintro _ w3 ⟨rfl, E3⟩; have := E3.Z; refine Ut Z<|Mu Z<|Uz Z<|Qd Z Xq ?_; rintro b3 w4 H3 E4 B3; have := B3.lt; refine Wo_st3 Z Js Z Z Kl Kl Kl B3 Kh (((E1.K E2).K E3).K E4) ?_; rintro w5 E5 B3 K1 Z1; have E6 := ((E2.K E3).K E4).A exq E5 K1 Z1 Kh; have := E6.Z; have B1 := (B1.J exq).Y (K1 _ Kh); have B2 := (B2.J exq).Y (K1 _ Kh)
     refine Ya Z<|Vp<|Vr<|Xp Z<|Vp<|Vx Z ?_; refine Vw<|Vt<|Rm (fun w' => Ext w w') mixed Z Ki ?_; intro w6 E9 K2 Z2; refine Sw 2 Jt Jx Z Z exq<|WtmT 4 Z Z exq<|Wha [0, 3]<|Yg Z ?_ ?_; refine Uh Jq Jj (B1.J E9) Z<|Wnx exq<|Wha [1, 3]<|Yg Z ?_ ?_; refine Vs Z (Xh (a := .agg _) Zp Z) (k1 _ (Ku exq h1) (Ku exq h2)) ?_; rintro _ w7 ⟨u3, q1, m1, rfl, E10, O1, R1, J1, hn1⟩; have V3 := Kx O1; have N1 := Kx (Je R1); refine Wnx exq<|Wha [3]<|Wh1 Z<|Xw u1 Ju (B1.J exq) Z<|Wnx exq<|Wha [5]<|Wh1 Z<|Vs Z (Xa (a := u1) (b := .string _) Tryz.call112 Z Z) (k2 _ (Ku exq hM) (Ku exq hT) (Ku exq h1)) ?_
     rintro _ w8 ⟨rfl, E11⟩; have := E11.Z; refine Wnx exq<|Wha [6]<|Wh1 Z<|Uu Z Jj Z Z Kl Kl (B2.J ((E9.K E10).K E11)) Kh (((E5.K E9).K E10).K E11) ?_; rintro w9 E12 B2 K3 Z3; have O1 := (O1.J E11).W K3 Kh; have R1 := (R1.toB.J E11).W K3 Kh; refine Wnx E12<|Us 7 Z Z E12<|Yp Ki ?_; refine Vy ?_; rotate_left; refine Wh1 Z<|Xw u1 Ju (B1.J E9) Z<|Wnx exq<|Wha [1]<|Wh1 Z<|Vs Z (Xh (a := .agg _) Zp Z) (k1 _ (Ku exq h1) (Ku exq h2)) ?_; rintro _ w7 ⟨u3, q1, m1, rfl, E10, O1, R1, J1, hn1⟩; have V3 := Kx O1; have N1 := Kx (Je R1)
     refine Wnx exq<|Wha [5]<|Wh1 Z<|Vs Z (Xa (a := u1) (b := .string _) Tryz.call112 Z Z) (k2 _ (Ku exq hM) (Ku exq hT) (Ku exq h1)) ?_; rintro _ w8 ⟨rfl, E11⟩; have := E11.Z; refine Wnx exq<|Wha [6]<|Wh1 Z<|Uu Z Jj Z Z Kl Kl (B2.J ((E9.K E10).K E11)) Kh (((E5.K E9).K E10).K E11) ?_; rintro w9 E12 B2 K3 Z3; have O1 := (O1.J E11).W K3 Kh; have R1 := (R1.toB.J E11).W K3 Kh; refine Wnx E12<|Us 7 Z Z E12<|Yp Ki ?_; refine Vy ?_; rotate_left
     refine Wh1 Z<|Xw u1 Ju (B1.J E9) Z<|Wnx exq<|Wha [0]<|Wh1 Z<|Uh Jq Jj (B1.J E9) Z<|Wnx exq<|Wha [1]<|Wh1 Z<|Vs Z (Xh (a := .agg _) Zp Z) (k1 _ (Ku exq h1) (Ku exq h2)) ?_; rintro _ w7 ⟨u3, q1, m1, rfl, E10, O1, R1, J1, hn1⟩; have V3 := Kx O1; have N1 := Kx (Je R1); refine Wnx exq<|Wha [5]<|Wh1 Z<|Vs Z (Xa (a := u1) (b := .string _) Tryz.call112 Z Z) (k2 _ (Ku exq hM) (Ku exq hT) (Ku exq h1)) ?_; rintro _ w8 ⟨rfl, E11⟩; have := E11.Z; refine Wnx exq<|Wha [6]<|Wh1 Z<|Uu Z Jj Z Z Kl Kl (B2.J ((E9.K E10).K E11)) Kh (((E5.K E9).K E10).K E11) ?_; rintro w9 E12 B2 K3 Z3
     have O1 := (O1.J E11).W K3 Kh; have R1 := (R1.toB.J E11).W K3 Kh; refine Wnx E12<|Us 7 Z Z E12<|Yp Ki ?_; refine Vy ?_; rotate_left
   all_goals exact ⟨b2, u3, q1, rfl, B2, u3, q1, m1, rfl, by repeat (first | assumption | refine Ext.trans Kk ?_), O1.wide Kh (Kz _), R1.o, Kh, Kh⟩
open Classical in
noncomputable def dlV (d:Dsk) (s:List UInt8):Dsk × List UInt8:=if DkOk d then lnV d s else (⟨[],[]⟩,[])
open Classical in
theorem impl_DeskLine_ok (w:World) (hM:EMx gMx w (.bool true) ()) (hT:ETb w (.bool true) ()) (u1 u2:Value) (d:Dsk) (h1:ESl Ints w u1 d.now) (h2:ESl (ESl Ints) w u2 d.past) (s:List UInt8) (hs:s.length≤1048576) :
  Dz 13 [.agg #[u1,u2],str s] w (RetDkT w 23 88 3 (dlV d s).1.now (dlV d s).1.past (dlV d s).2):=by
 have V1:isCell u1=true:=Qy h1
 have V2:isCell u2=true:=Qy h2
 refine Tj Tryz.func13 Z Tryz.results13 Tryz.ntmps13 Z Jq Jj ?_
 by_cases hd:DkOk d
 ·rw [show dlV d s=lnV d s from if_pos hd]
  have k0 : ∀ w,ESl Ints w u1 d.now→ESl (ESl Ints) w u2 d.past→Dz 58 [.agg #[u1,u2]] w (Ret w (.bool true)):=fun w h1 h2=>by
   have:=isDesk_ok w u1 u2 d h1 h2;rwa [decide_eq_true hd] at this
  have k1 : ∀ w,EMx gMx w (.bool true) ()→ETb w (.bool true) ()→ESl Ints w u1 d.now→ESl (ESl Ints) w u2 d.past→Dz 59 [.agg #[u1,u2],str s] w (RetDkT w 23 88 3 (lnV d s).1.now (lnV d s).1.past (lnV d s).2):=fun w hM hT h1 h2=>deskLine_ok w hM hT u1 u2 d h1 h2 hd s hs
  focus
   refine Vr<|Xu Z Z Z ?_;rintro b1 w1 H1 E1 B1;have:=B1.lt;refine Xk Z Ug ?_;rintro b2 w2 H2 E2 B2;have:=B2.lt;refine Xr Z<|Vp<|Vt<|Vr<|Uh Jq Jj (B1.J E2) Z<|Vs Z (Xh (a:=.agg _) Tryz.call58 Z) (k0 _ (Ku exq h1) (Ku exq h2)) ?_;rintro _ w3 ⟨rfl,E3⟩;have:=E3.Z;refine Xz Z<|Vp<|Uk Z fun h3=>?_;refine Vw<|Vr<|Uh Jq Jj (B1.J exq) Z<|Yv Z<|Vs Z (Xa (a:=.agg _) (b:=.string _) Tryz.call59 Z Z) (k1 _ (Ku exq hM) (Ku exq hT) (Ku exq h1) (Ku exq h2)) ?_;rintro _ w4 ⟨u3,q1,m1,rfl,E4,O1,R1,J1,hn1⟩;have V3:=Kx O1;have N1:=Kx (Je R1)
   refine Mu Z<|Sr Z<|Uu Z Jj Z Z Kl Kl (B2.J (E3.K E4)) Kh (((E1.K E2).K E3).K E4) ?_;rintro w5 E5 B2 K1 Z1;have O1:=O1.W K1 Kh;have R1:=R1.toB.W K1 Kh;refine Xr Z<|Vp<|Vy ?_
  exact ⟨b2,u3,q1,rfl,B2,u3,q1,m1,rfl,by exact E5,O1.wide Kh (Kz _),R1.o,Kh,Kh⟩
 ·rw [show dlV d s=(⟨[],[]⟩,[]) from if_neg hd]
  have k0 : ∀ w,ESl Ints w u1 d.now→ESl (ESl Ints) w u2 d.past→Dz 58 [.agg #[u1,u2]] w (Ret w (.bool false)):=fun w h1 h2=>by
   have:=isDesk_ok w u1 u2 d h1 h2;rwa [decide_eq_false hd] at this
  focus
   refine Vr<|Xu Z Z Z ?_;rintro b1 w1 H1 E1 B1;have:=B1.lt;refine Xk Z Ug ?_;rintro b2 w2 H2 E2 B2;refine Xr Z<|Vp<|Vt<|Vr<|Uh Jq Jj (B1.J E2) Z<|Vs Z (Xh (a:=.agg _) Tryz.call58 Z) (k0 _ (Ku exq h1) (Ku exq h2)) ?_;rintro _ w3 ⟨rfl,E3⟩;refine Xz Z<|Vp<|Up Z (fun h3=>?_) (fun h3=>?_);refine Vr<|Wo Z (Yu (ps:=[]) (cs:=[_,_]) Ug Z Z)<|Uw Jj (B2.J E3) Z ((E1.K E2).K E3) ?_;rintro w4 E4 B2 K1 Z1;have E5:=(E2.K E3).A exq E4 K1 Z1 Kh;have:=E5.Z;refine Xr Z<|Vp<|Vy ?_;rotate_left;exact Ks
  exact ⟨b2,_,_,rfl,B2,_,_,w.heap.size,rfl,by exact E4,OwnedB.nil,Owned.nil,Kz _,Kh⟩
def codM:Option Nat→Int × Bool
 | some c=>((c:Int),true)
 | none=>(-1,false)
theorem specCode_back (p:List (List Int)) (hp:Pic p) (w:World) (v:Value) (k:Nat) (h:ESl Ints w v p) (hk:k < p.length) (hc:cback p k=true) :
  Dz 63 [v,.int .i64 (k:Int)] w (Ret w (.tuple #[.int .i64 (-1),.bool false])):=by
 have hle:=h.le
 have k1 : ∀ (w:World) (pv:Value),ESl Ints w pv p→Dz 115 [pv] w (Ret w (.bool true)):=fun w pv h=>by
  have:=Ql w pv p h;rwa [decide_eq_true hp] at this
 have k2 : ∀ w,Dz 116 [.int .i64 (k:Int),.int .i64 0,.int .i64 ((p.length:Int) - 1)] w (Ret w (.bool true)):=fun w=>by
  have:=Rn (k:Int) 0 ((p.length:Int) - 1) w
  rwa [decide_eq_true Kh] at this
 have k3 : ∀ (w:World) (pv:Value),ESl Ints w pv p→Dz 117 [pv,.int .i64 (k:Int)] w (Ret w (.bool true)):=fun w pv h=>by
  have:=Nb w pv p h hp k hk;rwa [hc] at this
 refine Uy Tryz.func63 Z Tryz.results63 Tryz.ntmps63 Z ?_
 focus
  refine Vr<|Yx Z<|Ya Z<|Vp<|Vt<|Vr<|Yj v Z<|Vs Z (Xh (a:=v) Gu Z) (k1 _ _ (h)) ?_;rintro _ w1 ⟨rfl,E1⟩;refine Xz Z<|Uf Z (Xj (v:=.bool _) Z) (fun h1=>?_) (fun h1=>?_);exact Ks;refine Vz Z<|Yj v Z<|Ys Jm Z h<|Sc Z<|Vs Z (Qq (a:=.int _ _) (b:=.int _ _) (c:=.int _ _) Gl Z Z Z) (k2 _) ?_;rintro _ w2 ⟨rfl,E2⟩;refine Xz Z<|Xb Z<|Uf Z (Xj (v:=.bool _) Z) (fun h2=>?_) (fun h2=>?_);exact Ks;refine Yj v Z<|Vz Z<|Vs Z (Xa (a:=v) (b:=.int _ _) Tryz.call117 Z Z) (k3 _ _ (Ku exq h)) ?_;rintro _ w3 ⟨rfl,E3⟩;refine Xb Z<|Vp<|Xe Z ?_;refine Vr<|Yx Z<|Ya Z<|Vp<|Vy ?_;exact ⟨rfl,exq⟩
theorem specCode_ok (p:List (List Int)) (hp:Pic p) : ∀ (r:Nat) (w:World) (v:Value) (k:Nat),ESl Ints w v p→k < p.length→cback p k=false→(rf p k).length≤r →
  Dz 63 [v,.int .i64 (k:Int)] w (Ret w (.tuple #[.int .i64 (codM (cod p r k)).1,.bool (codM (cod p r k)).2])):=by
 have I5:=hp.2.1
 intro r
 induction r with
 | zero =>
   intro w v k h hk hc hr
   have hm := (Sd hp hk).2 (.refl k)
   rw [List.length_eq_zero_iff.1 (Nat.le_zero.1 hr)] at hm; cases hm
 | succ r ih =>
   intro w v k h hk hc hr
   have hrow := hp.row hk
   have k1 : ∀ (w : World) (pv : Value), ESl Ints w pv p → Dz 115 [pv] w (Ret w (.bool true)) := fun w pv h => by
     have := Ql w pv p h; rwa [decide_eq_true hp] at this
   have k2 : ∀ w, Dz 116 [.int .i64 (k : Int), .int .i64 0, .int .i64 ((p.length : Int) - 1)] w (Ret w (.bool true)) := fun w => by
     have := Rn (k : Int) 0 ((p.length : Int) - 1) w
     rwa [decide_eq_true Kh] at this
   have k3 : ∀ (w : World) (pv : Value), ESl Ints w pv p → Dz 117 [pv, .int .i64 (k : Int)] w (Ret w (.bool false)) := fun w pv h => by
     have := Nb w pv p h hp k hk; rwa [hc] at this
   have harr : arr p k = (List.range p.length).filter fun j => decide (p[k].getD j 0 = 1) := by
     unfold arr; rw [Xl hk]; unfold arrR; rw [hrow]
   refine Uy Tryz.func63 Z Tryz.results63 Tryz.ntmps63 Z ?_
   focus
     refine Vr<|Yx Z<|Ya Z<|Vp<|Vt<|Vr<|Yj v Z<|Vs Z (Xh (a := v) Gu Z) (k1 _ _ (h)) ?_; rintro _ w1 ⟨rfl, E1⟩; refine Xz Z<|Uf Z (Xj (v := .bool _) Z) (fun h1 => ?_) (fun h1 => ?_); exact Ks; refine Vz Z<|Yj v Z<|Ys Jm Z h<|Sc Z<|Vs Z (Qq (a := .int _ _) (b := .int _ _) (c := .int _ _) Gl Z Z Z) (k2 _) ?_; rintro _ w2 ⟨rfl, E2⟩; refine Xz Z<|Xb Z<|Uf Z (Xj (v := .bool _) Z) (fun h2 => ?_) (fun h2 => ?_); exact Ks; refine Yj v Z<|Vz Z<|Vs Z (Xa (a := v) (b := .int _ _) Tryz.call117 Z Z) (k3 _ _ (Ku exq h)) ?_; rintro _ w3 ⟨rfl, E3⟩; refine Xb Z<|Vp<|Vx Z ?_; refine Vw<|Vr<|Yx Z<|Vp<|Vt<|Vr<|Yx Z<|Vp<|Yb ?_
   refine Xt [4, 5, 6, 7, 8, 9, 26, 27, 28, 29, 30, 31, 32, 33, 34, 35, 36, 37, 38, 39, 40, 41, 42, 43, 44, 45, 46, 47, 48, 49, 50, 51, 52, 53, 54, 55] (fun ((j, s) : Nat × Nat) => [(7, .int .i64 (j : Nat)), (6, .int .i64 (s : Nat))]) (fun (j, s) w' => Ext w w' ∧ j ≤ p.length ∧ s < 65536 ∧ ((List.range j).filter fun j => decide (p[k].getD j 0 = 1)).foldl (fun o j => codS o (cod p r j)) (some 0) = some s) (fun x => p.length - x.1) (0, 0) Kn ?_ ?_
   · exact ⟨by exact ((E1.K E2).K E3), Ja _, Kh, Kp⟩
   rintro ⟨j, s⟩ ρj w2 ⟨E2, hj, hs, hf⟩
   by_cases hjl : j < p.length
   · have hfs := Qb (fun j => decide (p[k].getD j 0 = 1)) j
     have hgd : p[k].getD j 0 = p[k][j]'Kh := Xl Kh
     by_cases hb : p[k][j]'Kh = 1
     · rw [if_pos (by rw [hgd, hb]; rfl)] at hfs
       have hmm : j ∈ arr p k := by rw [harr, List.mem_filter]; exact ⟨List.mem_range.2 hjl, by rw [hgd, hb]; rfl⟩
       have hrl := rf_lt hp hk hc hmm
       have hcb := Ng hp hk hc hmm
       have k4 : ∀ y, cod p r j = y → ∀ (w : World) (pv : Value), ESl Ints w pv p → Dz 63 [pv, .int .i64 (j : Int)] w (Ret w (.tuple #[.int .i64 (codM y).1, .bool (codM y).2])) := fun y e w pv h => e ▸ ih w pv j h hjl hcb Kh
       have hstep : ((List.range (j + 1)).filter fun j => decide (p[k].getD j 0 = 1)).foldl (fun o j => codS o (cod p r j)) (some 0) = codS (some s) (cod p r j) := by rw [hfs, List.foldl_append, hf]; rfl
       have hdead : codS (some s) (cod p r j) = none → cod p (r + 1) k = none := fun e => by
         show (arr p k).foldl (fun o j => codS o (cod p r j)) (some 0) = none
         have er : List.range p.length = List.range (j + 1) ++ (List.range p.length).drop (j + 1) := by
           conv => lhs; rw [← List.take_append_drop (j + 1) (List.range p.length)]
           rw [List.take_range, Nat.min_eq_left Kh]
         rw [harr, er, List.filter_append, List.foldl_append, hstep, e, cod_none]
       cases hy : cod p r j with
       | none =>
         have k5 : ∀ (w : World) (pv : Value), ESl Ints w pv p → Dz 63 [pv, .int .i64 (j : Int)] w (Ret w (.tuple #[.int .i64 (-1), .bool false])) := k4 none hy
         have hn := hdead (by rw [hy]; rfl)
         simp only [hn, codM]
         clear k4
         focus
           refine Vt<|Vr<|Vz Z<|Yj v Z<|Ys Jm Z h<|Yy Z<|Vp<|Vu Z (fun h3 => ?_) (fun h3 => ?_); refine Vw<|Vt<|Yb<|Vr<|Yj v Z<|Vz Z<|Xv Jm Jw Jz Z (fun _ => Z) Z h E2 Z Km ?_; rintro _ u1 C1; refine Vz Z<|Xv Jl Ji Jk Z (fun _ => Z) Z C1 E2 Z Km ?_; rintro _ _ rfl; refine Yo Z<|Vp<|Vu Z (fun h4 => ?_) (fun h4 => ?_); refine Vr<|Yj v Z<|Vz Z<|Vs Z (Xa (a := v) (b := .int _ _) Tryz.call63 Z Z) (k5 _ _ (Ku E2 h)) ?_; rintro _ w4 ⟨rfl, E4⟩
           refine Ut Z<|WsxI Z<|Uz Z<|Yx Z<|Ya Z<|Vp<|Vt<|Vr<|Xp Z<|Xz Z<|Uf Z (Xj (v := .bool _) Z) (fun h5 => ?_) (fun h5 => ?_); refine Vq Z<|Vq Z<|Xy Z<|Vp<|Xe Z ?_; refine Vr<|Yx Z<|Ya Z<|Vp<|Vy ?_; exact ⟨rfl, exq⟩; exact Ks; exact Ks; exact Kt
       | some m =>
         have k5 : ∀ (w : World) (pv : Value), ESl Ints w pv p → Dz 63 [pv, .int .i64 (j : Int)] w (Ret w (.tuple #[.int .i64 (m : Int), .bool true])) := k4 (some m) hy
         have J6 := cod_lt hy
         clear k4
         by_cases J15 : m ≤ 15
         · rw [hy, show codS (some s) (some m) = some (s ||| 1 <<< m) from if_pos J15] at hstep
           have hsh : (1 : Int).toNat <<< ((m : Nat) : Int).toNat ≤ 32768 := by
             show 1 <<< m ≤ 32768
             rw [Nat.one_shiftLeft]; exact Nat.pow_le_pow_right (show 2 > 0 by omega) J15
           have hns : s ||| 1 <<< m < 65536 := Nat.or_lt_two_pow (n := 16) hs (by have : 1 <<< m ≤ 32768 := hsh; omega)
           focus
             refine Vt<|Vr<|Vz Z<|Yj v Z<|Ys Jm Z h<|Yy Z<|Vp<|Vu Z (fun h3 => ?_) (fun h3 => ?_); refine Vw<|Vt<|Yb<|Vr<|Yj v Z<|Vz Z<|Xv Jm Jw Jz Z (fun _ => Z) Z h E2 Z Km ?_; rintro _ u1 C1; refine Vz Z<|Xv Jl Ji Jk Z (fun _ => Z) Z C1 E2 Z Km ?_; rintro _ _ rfl; refine Yo Z<|Vp<|Vu Z (fun h4 => ?_) (fun h4 => ?_); refine Vr<|Yj v Z<|Vz Z<|Vs Z (Xa (a := v) (b := .int _ _) Tryz.call63 Z Z) (k5 _ _ (Ku E2 h)) ?_; rintro _ w4 ⟨rfl, E4⟩
             refine Ut Z<|WsxI Z<|Uz Z<|Yx Z<|Ya Z<|Vp<|Vt<|Vr<|Xp Z<|Xz Z<|Uf Z (Xj (v := .bool _) Z) (fun h5 => ?_) (fun h5 => ?_); exact Ks; refine Vz Z<|Qo Z<|Xb Z<|Vp<|Vv Z fun h6 => ?_; refine Vw<|Ym<|Vz Z<|Vz Z<|Wo Z (opv_shl Z Z Kh) ?_; rotate_left; exact Ks; exact Kt
           refine Wo Z (opv_or Z Z ⟨Int.natCast_nonneg _, Kh, Int.natCast_nonneg _, Int.le_trans (Int.ofNat_le.2 (show _ ≤ 32768 by assumption)) Kj⟩) ?_
           focus
             refine Yx Z<|Vp<|Ym<|Vz Z<|Xf Z<|Yx Z<|Vp ?_
           refine ⟨(j + 1, s ||| 1 <<< m), Kn, Ko, ?_, ?_⟩
           · exact ⟨by exact (E2.K E4), Kh, hns, hstep⟩
           · simp only; omega
         · have hn := hdead (by rw [hy]; exact if_neg J15)
           simp only [hn, codM]
           focus
             refine Vt<|Vr<|Vz Z<|Yj v Z<|Ys Jm Z h<|Yy Z<|Vp<|Vu Z (fun h3 => ?_) (fun h3 => ?_); refine Vw<|Vt<|Yb<|Vr<|Yj v Z<|Vz Z<|Xv Jm Jw Jz Z (fun _ => Z) Z h E2 Z Km ?_; rintro _ u1 C1; refine Vz Z<|Xv Jl Ji Jk Z (fun _ => Z) Z C1 E2 Z Km ?_; rintro _ _ rfl; refine Yo Z<|Vp<|Vu Z (fun h4 => ?_) (fun h4 => ?_); refine Vr<|Yj v Z<|Vz Z<|Vs Z (Xa (a := v) (b := .int _ _) Tryz.call63 Z Z) (k5 _ _ (Ku E2 h)) ?_; rintro _ w4 ⟨rfl, E4⟩
             refine Ut Z<|WsxI Z<|Uz Z<|Yx Z<|Ya Z<|Vp<|Vt<|Vr<|Xp Z<|Xz Z<|Uf Z (Xj (v := .bool _) Z) (fun h5 => ?_) (fun h5 => ?_); exact Ks; refine Vz Z<|Qo Z<|Xb Z<|Vp<|Vu Z (fun h6 => ?_) (fun h6 => ?_); refine Vt<|Ym<|Yx Z<|Ya Z<|Vp<|Vy ?_; exact ⟨rfl, exq⟩; exact Kt; exact Ks; exact Kt
     · rw [if_neg (by rw [hgd]; simpa using hb), List.append_nil] at hfs
       focus
         refine Vt<|Vr<|Vz Z<|Yj v Z<|Ys Jm Z h<|Yy Z<|Vp<|Vu Z (fun h3 => ?_) (fun h3 => ?_); refine Vw<|Vt<|Yb<|Vr<|Yj v Z<|Vz Z<|Xv Jm Jw Jz Z (fun _ => Z) Z h E2 Z Km ?_; rintro _ u1 C1; refine Vz Z<|Xv Jl Ji Jk Z (fun _ => Z) Z C1 E2 Z Km ?_; rintro _ _ rfl; refine Yo Z<|Vp<|Yt Z fun h4 => ?_; refine Vw<|Ym<|Vz Z<|Xf Z<|Yx Z<|Vp ?_; rotate_left; exact Kt
       refine ⟨(j + 1, s), Kn, Ko, ?_, ?_⟩
       · exact ⟨by exact E2, Kh, hs, by rw [hfs]; exact hf⟩
       · simp only; omega
   · obtain rfl : j = p.length := by omega
     rw [← harr] at hf
     have hfin : cod p (r + 1) k = some s := hf
     simp only [hfin, codM]
     focus
       refine Vt<|Vr<|Vz Z<|Yj v Z<|Ys Jm Z h<|Yy Z<|Vp<|Vv Z fun h3 => ?_; refine Xm ?_; refine Yn ?_; refine Vr<|Vz Z<|Yx Z<|Ya Z<|Vp<|Vy ?_; exact ⟨rfl, E2⟩
theorem spec_CodeAt_ok (w:World) (v:Value) (p:List (List Int)) (h:ESl Ints w v p) (hp:Pic p):Dz 63 [v,.int .i64 0] w (Ret w (.tuple #[.int .i64 (codeV p 0).1,.bool (codeV p 0).2])):=by
 have hz:Nod p 0:=⟨hp,by have:=hp.1;omega⟩
 cases hc:cback p (0:Int).toNat with
 | false =>
   have eM : ∀ o : Option Nat, (match o with | some c => ((c : Int), true) | none => (-1, false)) = codM o := fun o => by cases o <;> rfl
   have := specCode_ok p hp p.length w v 0 h (by have := hp.1; omega) hc Lq
   rw [show codeV p 0 = codM (cod p p.length 0) by unfold codeV; rw [if_pos ⟨hz, hc⟩]; exact eM _]
   exact this
 | true =>
   rw [show codeV p 0 = (-1, false) from if_neg fun h => by rw [hc] at h; exact absurd h.2 Kj]
   exact specCode_back p hp w v 0 h (by have := hp.1; omega) hc
theorem arr_any {p:List (List Int)} (hp:Pic p) {i:Nat} (hi:i < p.length) (g:Nat→Bool):(arr p i).any g=(List.range p.length).any fun j=>decide (p[i].getD j 0=1) && g j:=by
 unfold arr arrR
 rw [Xl hi,hp.row hi,List.any_filter]
theorem mid_end {h f g:Fm} {c:UInt8} (he:h.enc=40::(f.enc++c::(g.enc++[41]))):endV (h.enc.drop 1) h.enc.length=((f.enc.length+1:Nat):Int):=by
 rw [endV,Ts (l:=h.enc.drop 1) (f:=f) (r:=c::(g.enc++[41])) (by rw [he];rfl)]
 have hlen:h.enc.length=f.enc.length+g.enc.length+3:=by rw [he];simp;omega
 simp only [List.length_cons,List.length_append,List.length_nil]
 omega
theorem mid_right {h f g:Fm} {c:UInt8} (he:h.enc=40::(f.enc++c::(g.enc++[41]))):(h.enc.drop (((f.enc.length+1:Nat):Int)+1).toNat).take (((h.enc.length:Int) - 1).toNat - (((f.enc.length+1:Nat):Int)+1).toNat)=g.enc:=by
 have hlen:h.enc.length=f.enc.length+g.enc.length+3:=by rw [he];simp;omega
 have a1:(((f.enc.length+1:Nat):Int)+1).toNat=f.enc.length+2:=Kh
 have a2:((h.enc.length:Int) - 1).toNat=f.enc.length+g.enc.length+2:=Kh
 have a3:f.enc.length+g.enc.length+2 - (f.enc.length+2)=g.enc.length:=Kh
 rw [a1,a2,a3,he]
 have:f.enc.length+2=(f.enc.length+1)+1:=rfl
 rw [this,List.drop_succ_cons,List.drop_append,List.drop_eq_nil_of_le Kh]
 simp
theorem mid_sign {h f g:Fm} {c:UInt8} (he:h.enc=40::(f.enc++c::(g.enc++[41]))):(h.enc.getD (f.enc.length+1) 0).toNat=c.toNat:=by
 rw [he,List.getD_cons_succ,List.getD_eq_getElem?_getD,List.getElem?_append_right (Nat.le_refl _)];simp
theorem l10Holds_ok (p:List (List Int)) (hp:Pic p) : ∀ (f:Fm) (w:World) (pv:Value) (z:Int),ESl Ints w pv p→0≤z∧z < p.length→f.enc.length≤60 →
  Dz 164 [str f.enc,pv,.int .i64 z] w (Ret w (.bool (f.holds p z.toNat))):=by
 have I5:=hp.2.1
 have bin : ∀ (h f g:Fm) (c:UInt8),h.enc=40::(f.enc++c::(g.enc++[41]))→(c=38∧(∀ i,h.holds p i=(f.holds p i && g.holds p i))∨c=124∧(∀ i,h.holds p i=(f.holds p i || g.holds p i))) →
   (∀ (w:World) (pv:Value) (z:Int),ESl Ints w pv p→0≤z∧z < p.length→f.enc.length≤60→Dz 164 [str f.enc,pv,.int .i64 z] w (Ret w (.bool (f.holds p z.toNat)))) →
   (∀ (w:World) (pv:Value) (z:Int),ESl Ints w pv p→0≤z∧z < p.length→g.enc.length≤60→Dz 164 [str g.enc,pv,.int .i64 z] w (Ret w (.bool (g.holds p z.toNat)))) →
   ∀ (w:World) (pv:Value) (z:Int),ESl Ints w pv p→0≤z∧z < p.length→h.enc.length≤60→Dz 164 [str h.enc,pv,.int .i64 z] w (Ret w (.bool (h.holds p z.toNat))):=by
  intro h f g c he hcd ih1 ih2 w pv z hpv hz h60
  have hlen:h.enc.length=f.enc.length+g.enc.length+3:=by rw [he];simp;omega
  have hn:(h.enc.getD 0 0).toNat=40:=by rw [he];rfl
  have hend : ∀ w,Dz 163 [str h.enc,.int .i64 1] w (Ret w (.int .i64 ((f.enc.length+1:Nat):Int))):=fun w=>by
   have:=l10End_ok _ h.enc 1 w (by unfold lim;omega) (Kz _)
   rw [mid_end he] at this
   exact this
  have e1:(h.enc.drop 1).take (f.enc.length+1 - 1)=f.enc:=by rw [he];simp
  have hmid:=mid_sign he
  have i1 : ∀ (w:World) (pv:Value),ESl Ints w pv p→Dz 164 [str ((h.enc.drop 1).take (f.enc.length+1 - 1)),pv,.int .i64 z] w (Ret w (.bool (f.holds p z.toNat))):=fun w pv h9=>by rw [e1];exact ih1 w pv z h9 hz Kh
  have i2 : ∀ (w:World) (pv:Value),ESl Ints w pv p→Dz 164 [str ((h.enc.drop (((f.enc.length+1:Nat):Int)+1).toNat).take (((h.enc.length:Int) - 1).toNat - (((f.enc.length+1:Nat):Int)+1).toNat)),pv,.int .i64 z] w (Ret w (.bool (g.holds p z.toNat))) :=
   fun w pv h9=>by rw [mid_right he];exact ih2 w pv z h9 hz Kh
  clear e1 ih1 ih2 he
  generalize f.enc.length=m1 at *
  rcases hcd with ⟨rfl,hc⟩ | ⟨rfl,hc⟩
  ·rw [hc]
   have hm:(h.enc.getD (m1+1) 0).toNat=38:=hmid
   refine Yr Tryz.func164 Z Tryz.results164 Tryz.ntmps164 Z ?_
   focus
    refine Vr<|Ya Z<|Vp<|Vt<|Vr<|Yv Z<|Wo Z (Yq (k:=0) Jr Z Z Kh) ?_;refine Vp<|Yb<|Vr<|Yo Z<|Ya Z<|Vp<|Vv Z fun h1=>?_;refine Vr<|Yo Z<|Ya Z<|Vp<|Vv Z fun h2=>?_;refine Vr<|Yo Z<|Ya Z<|Vp<|Vv Z fun h3=>?_;refine Vr<|Yo Z<|Ya Z<|Vp<|Vv Z fun h4=>?_;refine Vw<|Vr<|Yv Z<|Vs Z (Xa (a:=.string _) (b:=.int _ _) Gp Z Z) (hend _) ?_;rintro _ w1 ⟨rfl,E1⟩;refine Yx Z<|Vp<|Vr<|Yv Z<|Vz Z<|Wo Z (Nm (l:=1) Jr Z Z Z Kh) ?_
    refine Yj pv Z<|Vz Z<|Vs Z (Qq (a:=.string _) (b:=pv) (c:=.int _ _) Va Z Z Z) (i1 _ _ (Ku E1 hpv)) ?_;rintro _ w2 ⟨rfl,E2⟩;refine Ya Z<|Vp<|Vr<|Yv Z<|Vz Z<|Xf Z<|Yv Z<|Wo Z (Xo Jr Z)<|Sc Z<|Wo Z (opv_slice_str_z Jr Z Z Z Kh) ?_;refine Yj pv Z<|Vz Z<|Vs Z (Qq (a:=.string _) (b:=pv) (c:=.int _ _) Va Z Z Z) (i2 _ _ (Ku exq hpv)) ?_;rintro _ w3 ⟨rfl,E3⟩;refine Ya Z<|Vp<|Vt<|Vr<|Yv Z<|Vz Z<|Wo Z (Yq Jr Z Z Kh) ?_;refine Yo Z<|Vp<|Vu Z (fun h5=>?_) (fun h5=>?_);refine Vr<|Xp Z<|Uf Z (Xj (v:=.bool _) Z) (fun h6=>?_) (fun h6=>?_)
    refine Xp Z<|Xy Z<|Ya Z<|Vp<|Vy ?_;refine Yh (v:=.bool _) Z ?_;refine ⟨congrArg Value.bool ?_,exq⟩;rotate_left;refine Vq Z<|Xb Z<|Ya Z<|Vp<|Vy ?_;refine Yh (v:=.bool _) Z ?_;refine ⟨congrArg Value.bool ?_,exq⟩;rotate_left;exact Kt
   all_goals first
    | (rw [show f.holds p z.toNat=true from by assumption];rfl)
    | (rw [show f.holds p z.toNat=false from by assumption];rfl)
  ·rw [hc]
   have hm:(h.enc.getD (m1+1) 0).toNat=124:=hmid
   refine Yr Tryz.func164 Z Tryz.results164 Tryz.ntmps164 Z ?_
   focus
    refine Vr<|Ya Z<|Vp<|Vt<|Vr<|Yv Z<|Wo Z (Yq (k:=0) Jr Z Z Kh) ?_;refine Vp<|Yb<|Vr<|Yo Z<|Ya Z<|Vp<|Vv Z fun h1=>?_;refine Vr<|Yo Z<|Ya Z<|Vp<|Vv Z fun h2=>?_;refine Vr<|Yo Z<|Ya Z<|Vp<|Vv Z fun h3=>?_;refine Vr<|Yo Z<|Ya Z<|Vp<|Vv Z fun h4=>?_;refine Vw<|Vr<|Yv Z<|Vs Z (Xa (a:=.string _) (b:=.int _ _) Gp Z Z) (hend _) ?_;rintro _ w1 ⟨rfl,E1⟩;refine Yx Z<|Vp<|Vr<|Yv Z<|Vz Z<|Wo Z (Nm (l:=1) Jr Z Z Z Kh) ?_
    refine Yj pv Z<|Vz Z<|Vs Z (Qq (a:=.string _) (b:=pv) (c:=.int _ _) Va Z Z Z) (i1 _ _ (Ku E1 hpv)) ?_;rintro _ w2 ⟨rfl,E2⟩;refine Ya Z<|Vp<|Vr<|Yv Z<|Vz Z<|Xf Z<|Yv Z<|Wo Z (Xo Jr Z)<|Sc Z<|Wo Z (opv_slice_str_z Jr Z Z Z Kh) ?_;refine Yj pv Z<|Vz Z<|Vs Z (Qq (a:=.string _) (b:=pv) (c:=.int _ _) Va Z Z Z) (i2 _ _ (Ku exq hpv)) ?_;rintro _ w3 ⟨rfl,E3⟩;refine Ya Z<|Vp<|Vt<|Vr<|Yv Z<|Vz Z<|Wo Z (Yq Jr Z Z Kh) ?_;refine Yo Z<|Vp<|Vv Z fun h5=>?_;refine Vw<|Vr<|Xp Z<|Uf Z (Xj (v:=.bool _) Z) (fun h6=>?_) (fun h6=>?_)
    refine Vq Z<|Xy Z<|Ya Z<|Vp<|Vy ?_;refine Yh (v:=.bool _) Z ?_;refine ⟨congrArg Value.bool ?_,exq⟩;rotate_left;refine Xp Z<|Xb Z<|Ya Z<|Vp<|Vy ?_;refine Yh (v:=.bool _) Z ?_;refine ⟨congrArg Value.bool ?_,exq⟩;rotate_left
   all_goals first
    | (rw [show f.holds p z.toNat=true from by assumption];rfl)
    | (rw [show f.holds p z.toNat=false from by assumption];rfl)
 intro f
 induction f with
 | t =>
   intro w pv z hpv hz h60
   have hn : ((Fm.enc .t).getD 0 0).toNat = 116 := rfl
   have hl : (Fm.enc .t).length = 1 := rfl
   refine Yr Tryz.func164 Z Tryz.results164 Tryz.ntmps164 Z ?_
   focus
     refine Vr<|Ya Z<|Vp<|Vt<|Vr<|Yv Z<|Wo Z (Yq (k := 0) Jr Z Z Kh) ?_; refine Vp<|Yb<|Vr<|Yo Z<|Ya Z<|Vp<|Vu Z (fun h1 => ?_) (fun h1 => ?_); refine Vr<|Ya Z<|Vp<|Vy ?_; exact ⟨rfl, (Jf _)⟩; exact Ks
 | neg f ih =>
   intro w pv z hpv hz h60
   have hn : ((Fm.enc (.neg f)).getD 0 0).toNat = 33 := rfl
   have hl : (Fm.enc (.neg f)).length = f.enc.length + 1 := rfl
   have i1 : ∀ (w : World) (pv : Value), ESl Ints w pv p → Dz 164 [str ((Fm.enc (.neg f)).drop 1), pv, .int .i64 z] w (Ret w (.bool (f.holds p z.toNat))) := fun w pv h9 => ih w pv z h9 hz Kh
   refine Yr Tryz.func164 Z Tryz.results164 Tryz.ntmps164 Z ?_
   focus
     refine Vr<|Ya Z<|Vp<|Vt<|Vr<|Yv Z<|Wo Z (Yq (k := 0) Jr Z Z Kh) ?_; refine Vp<|Yb<|Vr<|Yo Z<|Ya Z<|Vp<|Vv Z fun h1 => ?_; refine Vr<|Yo Z<|Ya Z<|Vp<|Vu Z (fun h2 => ?_) (fun h2 => ?_); refine Vr<|Yv Z<|Wo Z (Ue (l := 1) Jr Z Z Kh) ?_; refine Yj pv Z<|Vz Z<|Vs Z (Qq (a := .string _) (b := pv) (c := .int _ _) Va Z Z Z) (i1 _ _ (hpv)) ?_; rintro _ w1 ⟨rfl, E1⟩; refine Xz Z<|Ya Z<|Vp<|Vy ?_; exact ⟨rfl, E1⟩; exact Ks
 | S f ih =>
   intro w pv z hpv hz h60
   have hn : ((Fm.enc (.S f)).getD 0 0).toNat = 83 := rfl
   have hl : (Fm.enc (.S f)).length = f.enc.length + 1 := rfl
   have hzl : z.toNat < p.length := Kh
   have hrow := hp.row hzl
   have i1 : ∀ (w : World) (pv : Value) (y : Int), ESl Ints w pv p → 0 ≤ y ∧ y < p.length → Dz 164 [str ((Fm.enc (.S f)).drop 1), pv, .int .i64 y] w (Ret w (.bool (f.holds p y.toNat))) := fun w pv y h9 hy => ih w pv y h9 hy Kh
   have hval : Fm.holds p (.S f) z.toNat = (List.range p.length).any fun j => decide (p[z.toNat].getD j 0 = 1) && f.holds p j := arr_any hp hzl _
   rw [hval]
   refine Yr Tryz.func164 Z Tryz.results164 Tryz.ntmps164 Z ?_
   focus
     refine Vr<|Ya Z<|Vp<|Vt<|Vr<|Yv Z<|Wo Z (Yq (k := 0) Jr Z Z Kh) ?_; refine Vp<|Yb<|Vr<|Yo Z<|Ya Z<|Vp<|Vv Z fun h1 => ?_; refine Vr<|Yo Z<|Ya Z<|Vp<|Vv Z fun h2 => ?_; refine Vr<|Yo Z<|Ya Z<|Vp<|Vu Z (fun h3 => ?_) (fun h3 => ?_); refine Vt<|Vr<|Yx Z<|Vp<|Yb ?_; rotate_left; exact Ks
   refine Xt [6, 7, 26, 27, 28, 29, 30, 31, 32, 33, 34, 35, 36, 37, 38, 39, 40, 41, 42, 43, 44, 45, 46] (fun (k : Nat) => [(7, .int .i64 (k : Nat))]) (fun k w' => Ext w w' ∧ k ≤ p.length ∧ ((List.range k).any fun j => decide (p[z.toNat].getD j 0 = 1) && f.holds p j) = false) (fun x => p.length - x) 0 Kn ?_ ?_
   · exact ⟨Jf _, Ja _, Kp⟩
   rintro k ρj w1 ⟨E1, hk, hg⟩
   by_cases hlt : k < p.length
   · have hgd := Xl (l := p[z.toNat]) (i := k) (d := 0) Kh
     have hsu := Mp (fun j => decide (p[z.toNat].getD j 0 = 1) && f.holds p j) k
     rw [hg, hgd] at hsu
     focus
       have := E1.Z; refine Vt<|Vr<|Vz Z<|Yj pv Z<|Ys Jm Z hpv<|Yy Z<|Vp<|Vu Z (fun h4 => ?_) (fun h4 => ?_); refine Vw<|Vt<|Yb<|Vr<|Yj pv Z<|Vz Z<|Ry Jm Jw Jz Z (fun _ => Z) Z hpv E1 Z Km ?_; rintro _ u1 C1; refine Vz Z<|Xv Jl Ji Jk Z (fun _ => Z) Z C1 E1 Z Km ?_; rintro _ _ rfl; refine Yo Z<|Xi Z (fun h5 => ?_) (fun h5 => ?_); refine Yv Z<|Wo Z (Ue (l := 1) Jr Z Z Kh) ?_; refine Yj pv Z<|Vz Z<|Vs Z (Qq (a := .string _) (b := pv) (c := .int _ _) Va Z Z Z) (i1 _ _ _ (Ku E1 hpv) Kh) ?_; rintro _ w2 ⟨rfl, E2⟩
       have := E2.Z; refine Xy Z<|Vp<|Up Z (fun h6 => ?_) (fun h6 => ?_); refine Vr<|Ya Z<|Vp<|Vy ?_; refine Yh (v := .bool _) Z ?_; refine ⟨congrArg Value.bool ?_, exq⟩; rotate_left; refine Vw<|Ym<|Vz Z<|Xf Z<|Yx Z<|Vp ?_; rotate_left; refine Vq Z<|Vq Z<|Vq Z<|Vq Z<|Vq Z<|Xb Z<|Vp<|Vx Z ?_; refine Vw<|Ym<|Vz Z<|Xf Z<|Yx Z<|Vp ?_; rotate_left; exact Kt
     · refine (List.any_eq_true.2 ⟨k, List.mem_range.2 hlt, ?_⟩).symm
       rw [hgd, decide_eq_true Kk, Bool.true_and]
       have e : (k : Int).toNat = k := rfl
       rw [e] at *
       assumption
     · refine ⟨(k + 1), Kn, Ko, ?_, ?_⟩
       · refine ⟨E1.K E2, Kh, ?_⟩
         rw [hsu, decide_eq_true Kk, Bool.true_and, Bool.false_or]
         assumption
       · omega
     · refine ⟨(k + 1), Kn, Ko, ?_, ?_⟩
       · refine ⟨E1, Kh, ?_⟩
         rw [hsu, decide_eq_false Kk]; rfl
       · omega
   · obtain rfl : k = p.length := by omega
     focus
       refine Vt<|Vr<|Vz Z<|Yj pv Z<|Ys Jm Z hpv<|Yy Z<|Vp<|Vv Z fun h4 => ?_; refine Xm ?_; refine Yn ?_; refine Vr<|Ya Z<|Vp<|Vy ?_; refine Yh (v := .bool _) Z ?_; refine ⟨congrArg Value.bool ?_, E1⟩
     exact hg.symm
 | A f ih =>
   intro w pv z hpv hz h60
   have hn : ((Fm.enc (.A f)).getD 0 0).toNat = 65 := rfl
   have hl : (Fm.enc (.A f)).length = f.enc.length + 1 := rfl
   have hzl : z.toNat < p.length := Kh
   have hrow := hp.row hzl
   have i1 : ∀ (w : World) (pv : Value) (y : Int), ESl Ints w pv p → 0 ≤ y ∧ y < p.length → Dz 164 [str ((Fm.enc (.A f)).drop 1), pv, .int .i64 y] w (Ret w (.bool (f.holds p y.toNat))) := fun w pv y h9 hy => ih w pv y h9 hy Kh
   have hval : Fm.holds p (.A f) z.toNat = !((List.range p.length).any fun j => decide (p[z.toNat].getD j 0 = 1) && !(f.holds p j)) := congrArg not (arr_any hp hzl _)
   rw [hval]
   refine Yr Tryz.func164 Z Tryz.results164 Tryz.ntmps164 Z ?_
   focus
     refine Vr<|Ya Z<|Vp<|Vt<|Vr<|Yv Z<|Wo Z (Yq (k := 0) Jr Z Z Kh) ?_; refine Vp<|Yb<|Vr<|Yo Z<|Ya Z<|Vp<|Vv Z fun h1 => ?_; refine Vr<|Yo Z<|Ya Z<|Vp<|Vv Z fun h2 => ?_; refine Vr<|Yo Z<|Ya Z<|Vp<|Vv Z fun h3 => ?_; refine Vr<|Yo Z<|Ya Z<|Vp<|Vu Z (fun h4 => ?_) (fun h4 => ?_); refine Vt<|Vr<|Yx Z<|Vp<|Yb ?_; rotate_left; exact Ks
   refine Xt [6, 8, 49, 50, 51, 52, 53, 54, 55, 56, 57, 58, 59, 60, 61, 62, 63, 64, 65, 66, 67, 68, 69, 70] (fun (k : Nat) => [(8, .int .i64 (k : Nat))]) (fun k w' => Ext w w' ∧ k ≤ p.length ∧ ((List.range k).any fun j => decide (p[z.toNat].getD j 0 = 1) && !(f.holds p j)) = false) (fun x => p.length - x) 0 Kn ?_ ?_
   · exact ⟨Jf _, Ja _, Kp⟩
   rintro k ρj w1 ⟨E1, hk, hg⟩
   by_cases hlt : k < p.length
   · have hgd := Xl (l := p[z.toNat]) (i := k) (d := 0) Kh
     have hsu := Mp (fun j => decide (p[z.toNat].getD j 0 = 1) && !(f.holds p j)) k
     rw [hg, hgd] at hsu
     focus
       refine Vt<|Vr<|Vz Z<|Yj pv Z<|Ys Jm Z hpv<|Yy Z<|Vp<|Vu Z (fun h5 => ?_) (fun h5 => ?_); refine Vw<|Vt<|Yb<|Vr<|Yj pv Z<|Vz Z<|Ry Jm Jw Jz Z (fun _ => Z) Z hpv E1 Z Km ?_; rintro _ u1 C1; refine Vz Z<|Xv Jl Ji Jk Z (fun _ => Z) Z C1 E1 Z Km ?_; rintro _ _ rfl; refine Yo Z<|Xi Z (fun h6 => ?_) (fun h6 => ?_); refine Yv Z<|Wo Z (Ue (l := 1) Jr Z Z Kh) ?_; refine Yj pv Z<|Vz Z<|Vs Z (Qq (a := .string _) (b := pv) (c := .int _ _) Va Z Z Z) (i1 _ _ _ (Ku E1 hpv) Kh) ?_; rintro _ w2 ⟨rfl, E2⟩
       refine Xz Z<|Xy Z<|Vp<|Up Z (fun h7 => ?_) (fun h7 => ?_); refine Vr<|Ya Z<|Vp<|Vy ?_; refine Yh (v := .bool _) Z ?_; refine ⟨congrArg Value.bool ?_, exq⟩; rotate_left; refine Vw<|Ym<|Vz Z<|Xf Z<|Yx Z<|Vp ?_; rotate_left; refine Vq Z<|Vq Z<|Vq Z<|Vq Z<|Vq Z<|Vq Z<|Xb Z<|Vp<|Vx Z ?_; refine Vw<|Ym<|Vz Z<|Xf Z<|Yx Z<|Vp ?_; rotate_left; exact Kt
     · have hany : ((List.range p.length).any fun j => decide (p[z.toNat].getD j 0 = 1) && !(f.holds p j)) = true := by
         refine List.any_eq_true.2 ⟨k, List.mem_range.2 hlt, ?_⟩
         have e : (!(f.holds p k)) = true := Kk
         rw [hgd, decide_eq_true Kk, Bool.true_and, e]
       rw [hany]; rfl
     · refine ⟨(k + 1), Kn, Ko, ?_, ?_⟩
       · refine ⟨E1.K E2, Kh, ?_⟩
         have e : (!(f.holds p k)) = false := Kk
         rw [hsu, decide_eq_true Kk, Bool.true_and, e]; rfl
       · omega
     · refine ⟨(k + 1), Kn, Ko, ?_, ?_⟩
       · refine ⟨E1, Kh, ?_⟩
         rw [hsu, decide_eq_false Kk]; rfl
       · omega
   · obtain rfl : k = p.length := by omega
     focus
       refine Vt<|Vr<|Vz Z<|Yj pv Z<|Ys Jm Z hpv<|Yy Z<|Vp<|Vv Z fun h5 => ?_; refine Xm ?_; refine Yn ?_; refine Vr<|Ya Z<|Vp<|Vy ?_; refine Yh (v := .bool _) Z ?_; refine ⟨congrArg Value.bool ?_, E1⟩
     rw [hg]; rfl
 | and f g ih1 ih2=>exact bin (.and f g) f g 38 rfl (.inl ⟨rfl,fun _=>rfl⟩) ih1 ih2
 | or f g ih1 ih2=>exact bin (.or f g) f g 124 rfl (.inr ⟨rfl,fun _=>rfl⟩) ih1 ih2
theorem spec_HoldsAt_ok (s:List UInt8) (w:World) (pv:Value) (p:List (List Int)) (z:Int) (hl:s.length≤lim) (h:ESl Ints w pv p):Dz 124 [str s,pv,.int .i64 z] w (Ret w (.bool (holdsV s p z))):=by
 cases hs:theF s with
 | none =>
   have e : holdsV s p z = false := by unfold holdsV; rw [hs]
   rw [e]
   have h1 : ∀ w, Dz 123 [str s] w (Ret w (.bool false)) := fun w => by
     have := Ty s w hl
     rw [okF, hs] at this
     exact this
   refine Yr Tryz.func124 Z Tryz.results124 Tryz.ntmps124 Z ?_
   focus
     refine Vr<|Ya Z<|Vp<|Vr<|Yv Z<|Vs Z (Xh (a := .string _) Vg Z) (h1 _) ?_; rintro _ w1 ⟨rfl, E1⟩; refine Xp Z<|Vq Z<|Vq Z<|Vq Z<|Xb Z<|Xp Z<|Vq Z<|Vq Z<|Vq Z<|Vq Z<|Xb Z<|Ya Z<|Vp<|Vy ?_; exact ⟨rfl, E1⟩
 | some f =>
   have e : holdsV s p z = (decide (Nod p z) && f.holds p z.toNat) := by unfold holdsV; rw [hs]
   rw [e]
   obtain ⟨rfl, h60⟩ := theF_some.1 hs
   have h1 : ∀ w, Dz 123 [str f.enc] w (Ret w (.bool true)) := fun w => by
     have := Ty f.enc w hl
     rw [okF, hs] at this
     exact this
   by_cases hn : Nod p z
   · rw [decide_eq_true hn, Bool.true_and]
     have hh : ∀ (w : World) (pv : Value), ESl Ints w pv p → Dz 164 [str f.enc, pv, .int .i64 z] w (Ret w (.bool (f.holds p z.toNat))) := fun w pv h2 => l10Holds_ok p hn.1 f w pv z h2 hn.2 h60
     have hnd : ∀ (w : World) (pv : Value), ESl Ints w pv p → Dz 118 [pv, .int .i64 z] w (Ret w (.bool true)) := fun w pv h => by
       have := Rq w pv p h z
       rw [decide_eq_true hn] at this; exact this
     refine Yr Tryz.func124 Z Tryz.results124 Tryz.ntmps124 Z ?_
     focus
       refine Vr<|Ya Z<|Vp<|Vr<|Yv Z<|Vs Z (Xh (a := .string _) Vg Z) (h1 _) ?_; rintro _ w1 ⟨rfl, E1⟩; refine Xp Z<|Yj pv Z<|Vz Z<|Vs Z (Xa (a := pv) (b := .int _ _) Zd Z Z) (hnd _ _ (Ku E1 h)) ?_; rintro _ w2 ⟨rfl, E2⟩; refine Xy Z<|Xp Z<|Yv Z<|Yj pv Z<|Vz Z<|Vs Z (Qq (a := .string _) (b := pv) (c := .int _ _) Va Z Z Z) (hh _ _ (Ku exq h)) ?_; rintro _ w3 ⟨rfl, E3⟩; refine Xy Z<|Ya Z<|Vp<|Vy ?_; exact ⟨rfl, exq⟩
   · rw [decide_eq_false hn, Bool.false_and]
     have hnd : ∀ (w : World) (pv : Value), ESl Ints w pv p → Dz 118 [pv, .int .i64 z] w (Ret w (.bool false)) := fun w pv h => by
       have := Rq w pv p h z
       rw [decide_eq_false hn] at this; exact this
     refine Yr Tryz.func124 Z Tryz.results124 Tryz.ntmps124 Z ?_
     focus
       refine Vr<|Ya Z<|Vp<|Vr<|Yv Z<|Vs Z (Xh (a := .string _) Vg Z) (h1 _) ?_; rintro _ w1 ⟨rfl, E1⟩; refine Xp Z<|Yj pv Z<|Vz Z<|Vs Z (Xa (a := pv) (b := .int _ _) Zd Z Z) (hnd _ _ (Ku E1 h)) ?_; rintro _ w2 ⟨rfl, E2⟩; refine Xy Z<|Xp Z<|Vq Z<|Vq Z<|Vq Z<|Vq Z<|Xb Z<|Ya Z<|Vp<|Vy ?_; exact ⟨rfl, exq⟩
open Go.Lib (decDigits)
theorem l11Yes_ok (w:World) (b:Bool):Dz 66 [.bool b] w (Ret w (str (ynV b))):=by
 cases b with
 | true =>
   refine Yr Tryz.func66 Z Tryz.results66 Tryz.ntmps66 Z ?_
   focus
     refine Vr<|Xr Z<|Vp<|Vt<|Vr<|Xp Z<|Vp<|Xe Z ?_; refine Vr<|Xr Z<|Vp<|Vy ?_; exact ⟨rfl, (Jf _)⟩
 | false =>
   refine Yr Tryz.func66 Z Tryz.results66 Tryz.ntmps66 Z ?_
   focus
     refine Vr<|Xr Z<|Vp<|Vt<|Vr<|Xp Z<|Vp<|Vx Z ?_; refine Vw<|Vr<|Xr Z<|Vp<|Vy ?_; exact ⟨rfl, (Jf _)⟩
open Classical in
theorem l11Ask_ok (w:World) (v:Value) (p:List (List Int)) (h:ESl Ints w v p) (hp:Pic p) (wd R:List UInt8) (hR:R.length≤1048576):Dz 71 [v,str wd,str R] w (Ret w (str (ask2 p wd R))):=by
 have I1:=hp.1
 have hRl':R.length≤lim:=by unfold lim;omega
 have yn:=l11Yes_ok
 have c8 : ∀ w,Dz 122 [str R] w (RetOB w XR ((rdP R).getD []) (rdP R).isSome):=fun w=>Tl w R hR
 have c9 : ∀ w,Dz 123 [str R] w (Ret w (.bool (okF R))):=fun w=>Ty R w hRl'
 have c10 : ∀ (w:World) (v:Value),ESl Ints w v p→Dz 124 [str R,v,.int .i64 0] w (Ret w (.bool (holdsV R p 0))):=fun w v h=>spec_HoldsAt_ok R w v p 0 hRl' h
 refine Yr Tryz.func71 Z Tryz.results71 Tryz.ntmps71 Z ?_
 cases hq:rdP R with
 | none =>
   rw [hq] at c8
   cases ho : okF R with
   | false =>
     rw [ho] at c9
     have ea : ask2 p wd R = [119, 104, 97, 116] := by unfold ask2; rw [ho, hq]; simp
     rw [ea]
     focus
       refine Vr<|Xr Z<|Vp<|Vr<|Yv Z<|Vs Z (Xh (a := .string _) Gn Z) (c8 _) ?_; rintro _ w1 ⟨u1, rfl, E1, O1⟩; refine Ut Z<|Ra u1 Z<|Uz Z<|Uc u1 Z<|Ya Z<|Vp<|Vt<|Yb<|Vt<|Ym<|Yv Z<|Wo Z (Yi Z Z)<|Xi Z (fun h1 => ?_) (fun h1 => ?_); refine Yv Z<|Vs Z (Xh (a := .string _) Vg Z) (c9 _) ?_; rintro _ w2 ⟨rfl, E2⟩; refine Xy Z<|Ya Z<|Vp<|Vx Z ?_; refine Vr<|Yv Z<|Wo Z (Yi Z Z)<|Xi Z (fun h2 => ?_) (fun h2 => ?_); refine Xp Z<|Xy Z<|Ya Z<|Vp<|Uk Z fun h3 => ?_; refine Vr<|Yv Z<|Wo Z (Yi Z Z)<|Xi Z (fun h4 => ?_) (fun h4 => ?_); refine Xp Z<|Xy Z<|Ya Z<|Vp<|Uk Z fun h5 => ?_
       refine Vw<|Vr<|Xr Z<|Vp<|Vy ?_; exact ⟨rfl, exq⟩; refine Vq Z<|Xb Z<|Ya Z<|Vp<|Vx Z ?_; refine Vw<|Vr<|Xr Z<|Vp<|Vy ?_; exact ⟨rfl, exq⟩; refine Vq Z<|Xb Z<|Ya Z<|Vp<|Vx Z ?_; refine Vr<|Yv Z<|Wo Z (Yi Z Z)<|Xi Z (fun h3 => ?_) (fun h3 => ?_); refine Xp Z<|Xy Z<|Ya Z<|Vp<|Uk Z fun h4 => ?_; refine Vw<|Vr<|Xr Z<|Vp<|Vy ?_; exact ⟨rfl, exq⟩; refine Vq Z<|Xb Z<|Ya Z<|Vp<|Vx Z ?_; refine Vw<|Vr<|Xr Z<|Vp<|Vy ?_; exact ⟨rfl, exq⟩; refine Vq Z<|Vq Z<|Xb Z<|Ya Z<|Vp<|Vx Z ?_; refine Vr<|Yv Z<|Wo Z (Yi Z Z)<|Xi Z (fun h2 => ?_) (fun h2 => ?_)
       refine Xp Z<|Xy Z<|Ya Z<|Vp<|Uk Z fun h3 => ?_; refine Vr<|Yv Z<|Wo Z (Yi Z Z)<|Xi Z (fun h4 => ?_) (fun h4 => ?_); refine Xp Z<|Xy Z<|Ya Z<|Vp<|Uk Z fun h5 => ?_; refine Vw<|Vr<|Xr Z<|Vp<|Vy ?_; exact ⟨rfl, E1⟩; refine Vq Z<|Xb Z<|Ya Z<|Vp<|Vx Z ?_; refine Vw<|Vr<|Xr Z<|Vp<|Vy ?_; exact ⟨rfl, E1⟩; refine Vq Z<|Xb Z<|Ya Z<|Vp<|Vx Z ?_; refine Vr<|Yv Z<|Wo Z (Yi Z Z)<|Xi Z (fun h3 => ?_) (fun h3 => ?_); refine Xp Z<|Xy Z<|Ya Z<|Vp<|Uk Z fun h4 => ?_; refine Vw<|Vt<|Ym<|Xr Z<|Vp<|Vy ?_; exact ⟨rfl, E1⟩; refine Vq Z<|Xb Z<|Ya Z<|Vp<|Vx Z ?_
       refine Vw<|Vr<|Xr Z<|Vp<|Vy ?_; exact ⟨rfl, E1⟩
   | true =>
     rw [ho] at c9
     have ea : ask2 p wd R = if wd = [104, 111, 108, 100, 115] then ynV (holdsV R p 0) else [119, 104, 97, 116] := by unfold ask2; rw [ho, hq]; simp
     rw [ea]
     focus
       refine Vr<|Xr Z<|Vp<|Vr<|Yv Z<|Vs Z (Xh (a := .string _) Gn Z) (c8 _) ?_; rintro _ w1 ⟨u1, rfl, E1, O1⟩; refine Ut Z<|Ra u1 Z<|Uz Z<|Uc u1 Z<|Ya Z<|Vp<|Vt<|Yb<|Vt<|Ym<|Yv Z<|Wo Z (Yi Z Z)<|Xi Z (fun h1 => ?_) (fun h1 => ?_); refine Yv Z<|Vs Z (Xh (a := .string _) Vg Z) (c9 _) ?_; rintro _ w2 ⟨rfl, E2⟩; refine Xy Z<|Ya Z<|Vp<|Xe Z ?_; refine Vr<|Yv Z<|Yj v Z<|Vs Z (Qq (a := .string _) (b := v) (c := .int _ _) Tryz.call124 Z Z Z) (c10 _ _ (Ku exq h)) ?_; rintro _ w3 ⟨rfl, E3⟩; refine Vs Z (Xh (a := .bool _) Gx Z) (yn _ _) ?_; rintro _ w4 ⟨rfl, E4⟩; refine Xr Z<|Vp<|Vy ?_; refine Yh (v := .string _) Z ?_
       refine ⟨congrArg str ?_, exq⟩; rotate_left; refine Vq Z<|Vq Z<|Xb Z<|Ya Z<|Vp<|Vx Z ?_; refine Vr<|Yv Z<|Wo Z (Yi Z Z)<|Xi Z (fun h2 => ?_) (fun h2 => ?_); refine Xp Z<|Xy Z<|Ya Z<|Vp<|Uk Z fun h3 => ?_; refine Vr<|Yv Z<|Wo Z (Yi Z Z)<|Xi Z (fun h4 => ?_) (fun h4 => ?_); refine Xp Z<|Xy Z<|Ya Z<|Vp<|Uk Z fun h5 => ?_; refine Vw<|Vr<|Xr Z<|Vp<|Vy ?_; refine Yh (v := .string _) Z ?_; refine ⟨congrArg str ?_, E1⟩; rotate_left; refine Vq Z<|Xb Z<|Ya Z<|Vp<|Vx Z ?_; refine Vw<|Vr<|Xr Z<|Vp<|Vy ?_; refine Yh (v := .string _) Z ?_; refine ⟨congrArg str ?_, E1⟩; rotate_left
       refine Vq Z<|Xb Z<|Ya Z<|Vp<|Vx Z ?_; refine Vr<|Yv Z<|Wo Z (Yi Z Z)<|Xi Z (fun h3 => ?_) (fun h3 => ?_); refine Xp Z<|Xy Z<|Ya Z<|Vp<|Uk Z fun h4 => ?_; refine Vw<|Vt<|Ym<|Xr Z<|Vp<|Vy ?_; refine Yh (v := .string _) Z ?_; refine ⟨congrArg str ?_, E1⟩; rotate_left; refine Vq Z<|Xb Z<|Ya Z<|Vp<|Vx Z ?_; refine Vw<|Vr<|Xr Z<|Vp<|Vy ?_; refine Yh (v := .string _) Z ?_; refine ⟨congrArg str ?_, E1⟩; rotate_left
     all_goals first | rw [if_pos Kk] | rw [if_neg Kk]
 | some q =>
   rw [hq] at c8
   have hqp := (Tn hq).1
   have hq1 := hqp.1
   have c11 : ∀ (w : World) (v u : Value), ESl Ints w v p → ESl Ints w u q → Dz 67 [v, .int .i64 0, u, .int .i64 0] w (Ret w (.bool (hasV p 0 q 0))) := fun w v u h h' => spec_HasSet_ok w v u p q h h' hp hqp
   have c12 : ∀ (w : World) (v u : Value), ESl Ints w v p → ESl Ints w u q → Dz 121 [v, .int .i64 0, u, .int .i64 0] w (Ret w (.bool (ssetV p 0 q 0))) := fun w v u h h' => by
     have := Tq w v u p q h h' 0 0 ⟨hp, Kh⟩ ⟨hqp, Kh⟩
     rwa [show ssetV p 0 q 0 = decide (Bis p (0 : Int).toNat q (0 : Int).toNat) from decide_eq_decide.2 ⟨fun h => h.2.2, fun h => ⟨⟨hp, Kh⟩, ⟨hqp, Kh⟩, h⟩⟩]
   cases ho : okF R with
   | false =>
     rw [ho] at c9
     have ea : ask2 p wd R = if wd = [104, 97, 115] then ynV (hasV p 0 q 0) else if wd = [105, 115] then ynV (ssetV p 0 q 0) else [119, 104, 97, 116] := by unfold ask2; rw [ho, hq]; simp
     rw [ea]
     focus
       refine Vr<|Xr Z<|Vp<|Vr<|Yv Z<|Vs Z (Xh (a := .string _) Gn Z) (c8 _) ?_; rintro _ w1 ⟨u1, rfl, E1, O1⟩; refine Ut Z<|Ra u1 Z<|Uz Z<|Uc u1 Z<|Ya Z<|Vp<|Vt<|Yb<|Vt<|Ym<|Yv Z<|Wo Z (Yi Z Z)<|Xi Z (fun h1 => ?_) (fun h1 => ?_); refine Yv Z<|Vs Z (Xh (a := .string _) Vg Z) (c9 _) ?_; rintro _ w2 ⟨rfl, E2⟩; refine Xy Z<|Ya Z<|Vp<|Vx Z ?_; refine Vr<|Yv Z<|Wo Z (Yi Z Z)<|Xi Z (fun h2 => ?_) (fun h2 => ?_); refine Xp Z<|Xy Z<|Ya Z<|Vp<|Up Z (fun h3 => ?_) (fun h3 => ?_)
       refine Vr<|Yj v Z<|Yj u1 Z<|Vs Z (Ss (a := v) (b := .int _ _) (c := u1) (d := .int _ _) Zr Z Z Z Z) (c11 _ _ _ (Ku exq h) ((Ku E2 (Kv O1)))) ?_; rintro _ w3 ⟨rfl, E3⟩; refine Vs Z (Xh (a := .bool _) Gx Z) (yn _ _) ?_; rintro _ w4 ⟨rfl, E4⟩; refine Xr Z<|Vp<|Vy ?_; refine Yh (v := .string _) Z ?_; refine ⟨congrArg str ?_, exq⟩; rotate_left; exact Ks; refine Vq Z<|Xb Z<|Ya Z<|Vp<|Vx Z ?_; refine Vr<|Yv Z<|Wo Z (Yi Z Z)<|Xi Z (fun h3 => ?_) (fun h3 => ?_); refine Xp Z<|Xy Z<|Ya Z<|Vp<|Up Z (fun h4 => ?_) (fun h4 => ?_)
       refine Vr<|Yj v Z<|Yj u1 Z<|Vs Z (Ss (a := v) (b := .int _ _) (c := u1) (d := .int _ _) Ve Z Z Z Z) (c12 _ _ _ (Ku exq h) ((Ku E2 (Kv O1)))) ?_; rintro _ w3 ⟨rfl, E3⟩; refine Vs Z (Xh (a := .bool _) Gx Z) (yn _ _) ?_; rintro _ w4 ⟨rfl, E4⟩; refine Xr Z<|Vp<|Vy ?_; refine Yh (v := .string _) Z ?_; refine ⟨congrArg str ?_, exq⟩; rotate_left; exact Ks; refine Vq Z<|Xb Z<|Ya Z<|Vp<|Vx Z ?_; refine Vw<|Vr<|Xr Z<|Vp<|Vy ?_; refine Yh (v := .string _) Z ?_; refine ⟨congrArg str ?_, exq⟩; rotate_left; refine Vq Z<|Vq Z<|Xb Z<|Ya Z<|Vp<|Vx Z ?_; refine Vr<|Yv Z<|Wo Z (Yi Z Z)<|Xi Z (fun h2 => ?_) (fun h2 => ?_)
       refine Xp Z<|Xy Z<|Ya Z<|Vp<|Up Z (fun h3 => ?_) (fun h3 => ?_); refine Vr<|Yj v Z<|Yj u1 Z<|Vs Z (Ss (a := v) (b := .int _ _) (c := u1) (d := .int _ _) Zr Z Z Z Z) (c11 _ _ _ (Ku E1 h) (Kv O1)) ?_; rintro _ w2 ⟨rfl, E2⟩; refine Vs Z (Xh (a := .bool _) Gx Z) (yn _ _) ?_; rintro _ w3 ⟨rfl, E3⟩; refine Xr Z<|Vp<|Vy ?_; refine Yh (v := .string _) Z ?_; refine ⟨congrArg str ?_, exq⟩; rotate_left; exact Ks; refine Vq Z<|Xb Z<|Ya Z<|Vp<|Vx Z ?_; refine Vr<|Yv Z<|Wo Z (Yi Z Z)<|Xi Z (fun h3 => ?_) (fun h3 => ?_); refine Xp Z<|Xy Z<|Ya Z<|Vp<|Up Z (fun h4 => ?_) (fun h4 => ?_)
       refine Vr<|Yj v Z<|Yj u1 Z<|Vs Z (Ss (a := v) (b := .int _ _) (c := u1) (d := .int _ _) Ve Z Z Z Z) (c12 _ _ _ (Ku E1 h) (Kv O1)) ?_; rintro _ w2 ⟨rfl, E2⟩; refine Vs Z (Xh (a := .bool _) Gx Z) (yn _ _) ?_; rintro _ w3 ⟨rfl, E3⟩; refine Xr Z<|Vp<|Vy ?_; refine Yh (v := .string _) Z ?_; refine ⟨congrArg str ?_, exq⟩; rotate_left; exact Ks; refine Vq Z<|Xb Z<|Ya Z<|Vp<|Vx Z ?_; refine Vw<|Vr<|Xr Z<|Vp<|Vy ?_; refine Yh (v := .string _) Z ?_; refine ⟨congrArg str ?_, E1⟩; rotate_left
     all_goals first | rw [if_pos Kk] | (rw [if_neg Kk]; first | rw [if_pos Kk] | rw [if_neg Kk])
   | true =>
     rw [ho] at c9
     have ea : ask2 p wd R = if wd = [104, 111, 108, 100, 115] then ynV (holdsV R p 0) else if wd = [104, 97, 115] then ynV (hasV p 0 q 0) else if wd = [105, 115] then ynV (ssetV p 0 q 0) else [119, 104, 97, 116] := by unfold ask2; rw [ho, hq]; simp
     rw [ea]
     focus
       refine Vr<|Xr Z<|Vp<|Vr<|Yv Z<|Vs Z (Xh (a := .string _) Gn Z) (c8 _) ?_; rintro _ w1 ⟨u1, rfl, E1, O1⟩; refine Ut Z<|Ra u1 Z<|Uz Z<|Uc u1 Z<|Ya Z<|Vp<|Vt<|Yb<|Vt<|Ym<|Yv Z<|Wo Z (Yi Z Z)<|Xi Z (fun h1 => ?_) (fun h1 => ?_); refine Yv Z<|Vs Z (Xh (a := .string _) Vg Z) (c9 _) ?_; rintro _ w2 ⟨rfl, E2⟩; refine Xy Z<|Ya Z<|Vp<|Xe Z ?_; refine Vr<|Yv Z<|Yj v Z<|Vs Z (Qq (a := .string _) (b := v) (c := .int _ _) Tryz.call124 Z Z Z) (c10 _ _ (Ku exq h)) ?_; rintro _ w3 ⟨rfl, E3⟩; refine Vs Z (Xh (a := .bool _) Gx Z) (yn _ _) ?_; rintro _ w4 ⟨rfl, E4⟩; refine Xr Z<|Vp<|Vy ?_; refine Yh (v := .string _) Z ?_
       refine ⟨congrArg str ?_, exq⟩; rotate_left; refine Vq Z<|Vq Z<|Xb Z<|Ya Z<|Vp<|Vx Z ?_; refine Vr<|Yv Z<|Wo Z (Yi Z Z)<|Xi Z (fun h2 => ?_) (fun h2 => ?_); refine Xp Z<|Xy Z<|Ya Z<|Vp<|Up Z (fun h3 => ?_) (fun h3 => ?_); refine Vr<|Yj v Z<|Yj u1 Z<|Vs Z (Ss (a := v) (b := .int _ _) (c := u1) (d := .int _ _) Zr Z Z Z Z) (c11 _ _ _ (Ku E1 h) (Kv O1)) ?_; rintro _ w2 ⟨rfl, E2⟩; refine Vs Z (Xh (a := .bool _) Gx Z) (yn _ _) ?_; rintro _ w3 ⟨rfl, E3⟩; refine Xr Z<|Vp<|Vy ?_; refine Yh (v := .string _) Z ?_; refine ⟨congrArg str ?_, exq⟩; rotate_left; exact Ks; refine Vq Z<|Xb Z<|Ya Z<|Vp<|Vx Z ?_
       refine Vr<|Yv Z<|Wo Z (Yi Z Z)<|Xi Z (fun h3 => ?_) (fun h3 => ?_); refine Xp Z<|Xy Z<|Ya Z<|Vp<|Up Z (fun h4 => ?_) (fun h4 => ?_); refine Vr<|Yj v Z<|Yj u1 Z<|Vs Z (Ss (a := v) (b := .int _ _) (c := u1) (d := .int _ _) Ve Z Z Z Z) (c12 _ _ _ (Ku E1 h) (Kv O1)) ?_; rintro _ w2 ⟨rfl, E2⟩; refine Vs Z (Xh (a := .bool _) Gx Z) (yn _ _) ?_; rintro _ w3 ⟨rfl, E3⟩; refine Xr Z<|Vp<|Vy ?_; refine Yh (v := .string _) Z ?_; refine ⟨congrArg str ?_, exq⟩; rotate_left; exact Ks; refine Vq Z<|Xb Z<|Ya Z<|Vp<|Vx Z ?_; refine Vw<|Vr<|Xr Z<|Vp<|Vy ?_; refine Yh (v := .string _) Z ?_; refine ⟨congrArg str ?_, E1⟩; rotate_left
     all_goals first | rw [if_pos Kk] | (rw [if_neg Kk]; first | rw [if_pos Kk] | (rw [if_neg Kk]; first | rw [if_pos Kk] | rw [if_neg Kk]))
theorem shift_row {n:Nat} {r:List Int} {o:Nat} (j:Nat) (hj:j < r.length) (hn:o+r.length≤n):(List.replicate o 0++r.take j++List.replicate (n - o - j) 0).set (o+j) r[j]=List.replicate o 0++r.take (j+1)++List.replicate (n - o - (j+1)) 0:=by
 rw [List.append_assoc,List.set_append_right _ _ Kp,List.append_assoc]
 congr 1
 rw [List.length_replicate,Nat.add_sub_cancel_left,List.set_append_right _ _ Kg]
 rw [show j - (r.take j).length=0 by simp;omega,show n - o - j=(n - o - (j+1))+1 by omega,List.replicate_succ,List.set_cons_zero,Ua _ _ hj,List.append_assoc]
 rfl
theorem l6Put_ok (w:World) (v u vl vr:Value) (p q:List (List Int)) (L R:List Nat) (h:ESl Ints w v p) (h':ESl Ints w u q) (hL:Ints w vl (ints L)) (hR:Ints w vr (ints R)) (hp:Pic p) (hq:Pic q∨q=[])
  (hl : ∀ x ∈ L,x < p.length) (hr : ∀ x ∈ R,x < q.length) (hll:L.length≤1000) (hrl:R.length≤1000) :
  Dz 176 [v,u,vl,vr] w (RetO w XR (put (bes p q) (L++R.map (p.length + ·)))):=by
 have I5:=hp.2.1
 have hq5:q.length≤5:=by rcases hq with hq | rfl;exact hq.2.1;simp
 have hqrow : ∀ (k:Nat) (hk:k < q.length),q[k].length=q.length:=fun k hk=>by
  rcases hq with hq | rfl
  ·exact hq.row hk
  ·cases hk
 have hil:=Ul L
 have hir:=Ul R
 obtain ⟨g,hg⟩ : ∃ g,g=p.length+q.length:=⟨_,rfl⟩
 refine Yr Tryz.func176 Z Tryz.results176 Tryz.ntmps176 Z ?_
 have keepR:True:=trivial
 focus
  refine Vr<|Uj Z<|Vp<|Vr<|Yj v Z<|Ys Jm Z h<|Xf Z<|Yj u Z<|Ys Jm Z h'<|Xf Z<|Yx Z<|Vp<|Vr<|Vz Z<|Mh Z Rl (int_z Kh Z) Kh ?_;rintro b1 w1 H1 b1lt E1 O1;refine Xg (ps:=[(0,.slice _ _ _)]) (cs:=[_]) Z Jm Jw Gq Z Z Z Z ?_;rintro b2 w2 H2 E2 B1 Y2;refine Uj Z<|Vp<|Vt<|Vr<|Yx Z<|Vp<|Yb ?_
 clear keepR
 obtain ⟨N,hN⟩ : ∃ N,N=(1+(p.length:Int)+(q.length:Int)).toNat:=⟨_,rfl⟩
 have hNg:N=g+1:=Kh
 rw [← hN] at O1 Y2
 have O0:Owned w.heap.size XR w2 (.slice (some ⟨b2,0,none⟩) 1 1) [ro g []]:=by
  rw [ro_nil,← hNg]
  exact Owned.single (O1.toB.J E2) Y2 Kh Kh
 clear O1 Y2 B1
 have hrl0 : ∀ ms,(ro g ms).length=g+1:=fun ms=>ro_len
 refine Xt [11,28,29,30,31,32,33,34,35,36,37,38,39,40,41,42] (fun ((k,rows):Nat × List (List Int))=>[(11,.int .i64 (k:Nat))]) (fun (k,rows) w'=>Ext w w'∧k≤L.length∧Owned w.heap.size XR w' (.slice (some ⟨b2,0,none⟩) 1 1) rows∧rows=[ro g (L.take k)]) (fun x=>L.length - x.1) (0,[ro g []]) Kn ?_ ?_
 ·exact ⟨by exact (E1.K E2),Ja _,O0,rfl⟩
 clear O0
 rintro ⟨k,rows⟩ ρj w3 ⟨E3,hk,O0,hrw⟩
 have hlr:rows.length=1:=by rw [hrw];rfl
 have Q0:rows[0]'Kh=ro g (L.take k):=by simp only [hrw,List.getElem_cons_zero]
 have hr0l:(rows[0]'Kh).length=g+1:=by rw [Q0];exact hrl0 _
 obtain ⟨br,cr,hRw,hbr1,hbr2⟩:=O0.rowAt (i:=0) Kh Kh
 by_cases hlt:k < L.length
 ·have hgk:(ints L)[k]'Kh=(L[k]:Int):=Qh hlt
  have hLk:=hl L[k] (List.getElem_mem hlt)
  have hcell:=Lj hRw
  have heldS:w=w:=rfl
  focus
   refine Vt<|Vr<|Vz Z<|Yj vl Z<|Ys Jl Z hL<|Yy Z<|Vp<|Vu Z (fun h1=>?_) (fun h1=>?_);refine Vw<|Vt<|Yb<|Rm (fun w'=>Ext w w') mixed Z Ki ?_;intro w4 E4 K1 Z1;refine WtmS 0 Z Z exq<|Yc 1 Z Ki Ki Z (fun _ _=>Yk (k:=0) Jm Jw Z Z Kh) exq ?_;refine WtmV 3 vl Z Z exq<|Mb 4 Z Z exq<|Wh_get 5 6 Z Ki Ki Z Z Ki Ki (fun _=>Z) Jl Ji Jk Z hL (fun w' hw'=>Ext.trans (Jf _) hw') Z Km exq ?_;rintro _ _ rfl;refine Yc 7 Z Ki Ki Z (fun _ _=>Qj Z Z Kh) exq ?_
   refine Wha [2]<|Wh1 Z<|Wo Z (Xd Jz Z (E4.cell hcell))<|Wnx exq<|Yc 8 Z Ki Ki Z (fun _ _=>Qr Jl Ji Z Z Kh) exq ?_;refine Wha [9]<|Wh1 Z<|Th Z Ji Z Z (O0.toB.J E4) (hRw.J E4) Km Km ?_;rintro w5 O0 hRw On1 K2 Z2;have E5:=On1.ext1 (E3.K E4) Kh;refine Wnx E5<|Yp Ki ?_;refine Ym<|Vz Z<|Xf Z<|Yx Z<|Vp ?_;rotate_left;exact Kt
  refine ⟨((k+1,rows.set 0 (rows[0].set (1+(ints L)[k]'Kh).toNat 1))),Kn,Ko,?_,?_⟩
  ·refine ⟨by exact E5,Kh,by exact O0,?_⟩
   rw [row_next (Q:=rows) (i:=0) (r:=ro g (L.take k)) (r':=ro g (L.take (k+1))) (by rw [hrw];rfl) Kh ?_]
   ·rw [hrw];rfl
   ·rw [Q0,show (1+(ints L)[k]'Kh).toNat=L[k]+1 by rw [hgk];omega,ro_step Kh,← Ua]
  ·simp only;omega
 ·obtain rfl:k=L.length:=by omega
  rw [List.take_length] at hrw Q0
  clear hRw
  focus
   refine Vt<|Vr<|Vz Z<|Yj vl Z<|Ys Jl Z hL<|Yy Z<|Vp<|Vv Z fun h1=>?_;refine Xm ?_;refine Yn ?_;refine Vt<|Vr<|Yx Z<|Vp<|Yb ?_
  refine Xt [12,43,44,45,46,47,48,49,50,51,52,53,54,55,56,57,58,59,60] (fun ((k,rows):Nat × List (List Int))=>[(12,.int .i64 (k:Nat))]) (fun (k,rows) w'=>Ext w w'∧k≤R.length∧Owned w.heap.size XR w' (.slice (some ⟨b2,0,none⟩) 1 1) rows∧rows=[ro g (L++(R.take k).map (p.length + ·))]) (fun x=>R.length - x.1) (0,rows) Kn ?_ ?_
  ·exact ⟨by exact E3,Ja _,O0,by rw [hrw];simp⟩
  clear O0 Q0 hr0l hlr hrw
  rintro ⟨k,rows⟩ ρk w4 ⟨E4,hk,O0,hrw⟩
  have hlr:rows.length=1:=by rw [hrw];rfl
  have Q0:rows[0]'Kh=ro g (L++(R.take k).map (p.length + ·)):=by simp only [hrw,List.getElem_cons_zero]
  have hr0l:(rows[0]'Kh).length=g+1:=by rw [Q0];exact hrl0 _
  obtain ⟨br,cr,hRw,hbr1,hbr2⟩:=O0.rowAt (i:=0) Kh Kh
  by_cases hlt:k < R.length
  ·have hgk:(ints R)[k]'Kh=(R[k]:Int):=Qh hlt
   have hRk:=hr R[k] (List.getElem_mem hlt)
   have hcell:=Lj hRw
   have heldS:w=w:=rfl
   focus
    refine Vt<|Vr<|Vz Z<|Yj vr Z<|Ys Jl Z hR<|Yy Z<|Vp<|Vu Z (fun h2=>?_) (fun h2=>?_);refine Vw<|Vt<|Yb<|Rm (fun w'=>Ext w w') mixed Z Ki ?_;intro w5 E5 K1 Z1;refine WtmS 0 Z Z exq<|Yc 1 Z Ki Ki Z (fun _ _=>Yk (k:=0) Jm Jw Z Z Kh) exq ?_;refine WtmV 3 v Z Z exq<|Yc 4 Z Ki Ki Z (fun _ _=>Rw Jm Z h) exq ?_;refine Yc 5 Z Ki Ki Z (fun _ _=>Qj Z Z Kh) exq ?_
    refine WtmV 6 vr Z Z exq<|Mb 7 Z Z exq<|Wh_get 8 9 Z Ki Ki Z Z Ki Ki (fun _=>Z) Jl Ji Jk Z hR (fun w' hw'=>Ext.trans (Jf _) hw') Z Km exq ?_;rintro _ _ rfl;refine Yc 10 Z Ki Ki Z (fun _ _=>Qj Z Z Kh) exq ?_;refine Wha [2]<|Wh1 Z<|Wo Z (Xd Jz Z (E5.cell hcell))<|Wnx exq<|Yc 11 Z Ki Ki Z (fun _ _=>Qr Jl Ji Z Z Kh) exq ?_;refine Wha [12]<|Wh1 Z<|Th Z Ji Z Z (O0.toB.J E5) (hRw.J E5) Km Km ?_;rintro w6 O0 hRw On1 K2 Z2;have E6:=On1.ext1 (E4.K E5) Kh
    refine Wnx E6<|Yp Ki ?_;refine Ym<|Vz Z<|Xf Z<|Yx Z<|Vp ?_;rotate_left;exact Kt
   refine ⟨((k+1,rows.set 0 (rows[0].set (1+(p.length:Int)+(ints R)[k]'Kh).toNat 1))),Kn,Ko,?_,?_⟩
   ·refine ⟨by exact E6,Kh,by exact O0,?_⟩
    rw [row_next (Q:=rows) (i:=0) (r:=ro g (L++(R.take k).map (p.length + ·))) (r':=ro g (L++(R.take (k+1)).map (p.length + ·))) (by rw [hrw];rfl) Kh ?_]
    ·rw [hrw];rfl
    ·rw [Q0,show (1+(p.length:Int)+(ints R)[k]'Kh).toNat=(p.length+R[k])+1 by rw [hgk];omega,ro_step Kh,Ua _ _ hlt,List.map_append,List.append_assoc]
     rfl
   ·simp only;omega
  ·obtain rfl:k=R.length:=by omega
   rw [List.take_length] at hrw Q0
   obtain ⟨ms,hms⟩ : ∃ ms,ms=L++R.map (p.length + ·):=⟨_,rfl⟩
   rw [← hms] at hrw Q0 ⊢
   clear hRw
   focus
    have:=E4.Z;have:=E3.Z;have:=E2.Z;have:=E1.Z;refine Vt<|Vr<|Vz Z<|Yj vr Z<|Ys Jl Z hR<|Yy Z<|Vp<|Vv Z fun h2=>?_;refine Xm ?_;refine Yn ?_;refine Vt<|Vr<|Yx Z<|Vp<|Yb ?_
   refine Xt [10,13,14,15,61,62,63,64,65,66,67,68,69,70,71,72,73,74,75,76,77,78,79,80,81,82,83,84,85,86,87,88,89] (fun ((k,o):Nat × Value)=>[(13,.int .i64 (k:Nat)),(10,o)]) (fun (k,o) w'=>Ext w w'∧k≤p.length∧Owned w.heap.size XR w' o (ro g ms::(p.take k).map fun r=>List.replicate 1 0++r++List.replicate q.length 0)) (fun x=>p.length - x.1) (0,.slice (some ⟨b2,0,none⟩) 1 1) Kn ?_ ?_
   ·exact ⟨by exact E4,Ja _,by rw [hrw] at O0;exact O0⟩
   clear O0 Q0 hr0l hlr hrw
   rintro ⟨k,o⟩ ρl w5 ⟨E5,hk,O0⟩
   have htl:(ro g ms::(p.take k).map fun r=>List.replicate 1 0++r++List.replicate q.length 0).length=k+1:=Kg
   by_cases hlt:k < p.length
   ·have hrow:=hp.row hlt
    focus
     have:=E5.Z;refine Vt<|Vr<|Vz Z<|Yj v Z<|Ys Jm Z h<|Yy Z<|Vp<|Vu Z (fun h3=>?_) (fun h3=>?_);refine Vw<|Vt<|Yb<|Vr<|Vz Z<|Mh Z Rl (int_z Kh Z) Kh ?_;rintro b3 w6 H3 b3lt E6 O1;have:=E6.Z;refine Uj Z<|Vp<|Vt<|Vr<|Yx Z<|Vp<|Yb ?_;rotate_left;exact Kt
    have hrl3 : ∀ j,j≤p.length→(List.replicate 1 (0:Int)++p[k].take j++List.replicate ((1+(p.length:Int)+(q.length:Int)).toNat - 1 - j) 0).length=g+1:=fun j hj=>by simp;omega
    refine Xt [15,69,70,71,72,73,74,75,76,77,78,79,80,81,82,83,84,85] (fun (j:Nat)=>[(15,.int .i64 (j:Nat))]) (fun j w'=>Ext w w'∧w5.heap.size≤w'.heap.size∧j≤p.length∧OwnedB w.heap.size w5.heap.size XR w' o (ro g ms::(p.take k).map fun r=>List.replicate 1 0++r++List.replicate q.length 0)∧Owned w5.heap.size XI w' (.slice (some ⟨b3,0,none⟩) (1+(p.length:Int)+(q.length:Int)).toNat (1+(p.length:Int)+(q.length:Int)).toNat) (List.replicate 1 0++p[k].take j++List.replicate ((1+(p.length:Int)+(q.length:Int)).toNat - 1 - j) 0)) (fun j=>p.length - j) 0 Kn ?_ ?_
    ·refine ⟨by exact (E5.K E6),Kh,Ja _,O0.toB.J (by exact E6),?_⟩
     rw [show List.replicate 1 (0:Int)++p[k].take 0++List.replicate ((1+(p.length:Int)+(q.length:Int)).toNat - 1 - 0) 0=List.replicate (1+(p.length:Int)+(q.length:Int)).toNat 0 by
      rw [List.take_zero,List.append_nil,List.replicate_append_replicate];congr 1;omega]
     exact O1
    clear O0 O1
    rintro j ρm w7 ⟨E7,P7,hj,O0,O1⟩
    have hrj:=hrl3 j hj
    by_cases hjl:j < p.length
    ·focus
      refine Vt<|Vr<|Vz Z<|Yj v Z<|Ys Jm Z h<|Yy Z<|Vp<|Vu Z (fun h4=>?_) (fun h4=>?_);refine Vw<|Vt<|Yb<|Ym<|Ri Z<|Vz Z<|Xf Z<|Yj v Z<|Vz Z<|Xv Jm Jw Jz Z (fun _=>Z) Z h E7 Z Km ?_;rintro _ u1 C1;refine Vz Z<|Xv Jl Ji Jk Z (fun _=>Z) Z C1 E7 Z Km ?_;rintro _ _ rfl;refine Wo Z (Qr Jl Ji Z Z Kh) ?_;refine Wo_set Z Ji Z Z O1.toB Km Owned.int (Kz _) Kh ?_;rintro w8 O1 On1 K1 Z1;have E8:=On1.ext1 E7 Kh;have O0:=O0.W K1 Kh
      refine Vp<|Ym<|Vz Z<|Xf Z<|Yx Z<|Vp ?_;rotate_left;exact Kt
     refine ⟨(j+1),Kn,Ko,?_,?_⟩
     ·refine ⟨by exact E8,Kh,Kh,by exact O0,?_⟩
      rw [← shift_row j Kh Kh]
      have e:(1+(j:Int)).toNat=1+j:=Kh
      rw [← e]
      assumption
     ·omega
    ·obtain rfl:j=p.length:=by omega
     focus
      have:=E7.Z;have:=E5.Z;refine Vt<|Vr<|Vz Z<|Yj v Z<|Ys Jm Z h<|Yy Z<|Vp<|Vv Z fun h4=>?_;refine Xm ?_;refine Yn ?_;refine Ym<|Yj o Z<|Ri Z<|Xc (ps:=[(0,.slice _ _ _)]) (cs:=[_]) Z Jm Jw Gq Z Z Z Z ?_;rintro b4 w8 H4 E8 B1;have:=E8.Z;refine Ur Z Sk Z Z B1 (O0.J E8) (O1.toB.J E8).o Kh Km Kh Kh (E7.K E8) Kh ?_;rintro v1 w9 O0 E9 M1;refine Uc v1 Z<|Vp<|Ym<|Vz Z<|Xf Z<|Yx Z<|Vp ?_
     refine ⟨(k+1,v1),Kn,Ko,?_,?_⟩
     ·refine ⟨by exact E9,Kh,?_⟩
      rw [Ua _ _ hlt,List.map_append,← List.cons_append]
      have e:List.replicate 1 (0:Int)++p[k].take p.length++List.replicate ((1+(p.length:Int)+(q.length:Int)).toNat - 1 - p.length) 0=List.replicate 1 0++p[k]++List.replicate q.length 0:=by
       rw [List.take_of_length_le Kh];congr 2;omega
      simp only [List.map_cons,List.map_nil]
      rw [← e]
      assumption
     ·simp only;omega
   ·obtain rfl:k=p.length:=by omega
    rw [List.take_length] at O0 htl
    focus
     refine Vt<|Vr<|Vz Z<|Yj v Z<|Ys Jm Z h<|Yy Z<|Vp<|Vv Z fun h3=>?_;refine Xm ?_;refine Yn ?_;refine Vt<|Vr<|Yx Z<|Vp<|Yb ?_
    refine Xt [10,16,17,18,90,91,92,93,94,95,96,97,98,99,100,101,102,103,104,105,106,107,108,109,110,111,112,113,114,115,116,117,118,119,120,121] (fun ((k,o):Nat × Value)=>[(16,.int .i64 (k:Nat)),(10,o)]) (fun (k,o) w'=>Ext w w'∧k≤q.length∧Owned w.heap.size XR w' o ((ro g ms::p.map fun r=>List.replicate 1 0++r++List.replicate q.length 0)++(q.take k).map fun r=>List.replicate (1+p.length) 0++r)) (fun x=>q.length - x.1) (0,o) Kn ?_ ?_
    ·exact ⟨by exact E5,Ja _,by simpa using O0⟩
    clear O0
    rintro ⟨k,o2⟩ ρm w6 ⟨E6,hk,O0⟩
    have htl2:((ro g ms::p.map fun r=>List.replicate 1 0++r++List.replicate q.length 0)++(q.take k).map fun r=>List.replicate (1+p.length) 0++r).length=p.length+1+k:=by rw [List.length_append,htl];simp;omega
    by_cases hlt:k < q.length
    ·have hrow:=hqrow k hlt
     focus
      have:=E6.Z;refine Vt<|Vr<|Vz Z<|Yj u Z<|Ys Jm Z h'<|Yy Z<|Vp<|Vu Z (fun h4=>?_) (fun h4=>?_);refine Vw<|Vt<|Yb<|Vr<|Vz Z<|Mh Z Rl (int_z Kh Z) Kh ?_;rintro b3 w7 H3 b3lt E7 O1;have:=E7.Z;refine Uj Z<|Vp<|Vt<|Vt<|Ym<|Yx Z<|Vp<|Yb ?_;rotate_left;exact Kt
     have hrl3 : ∀ j,j≤q.length→(List.replicate (1+p.length) (0:Int)++q[k].take j++List.replicate ((1+(p.length:Int)+(q.length:Int)).toNat - (1+p.length) - j) 0).length=g+1:=fun j hj=>by simp;omega
     refine Xt [18,98,99,100,101,102,103,104,105,106,107,108,109,110,111,112,113,114,115,116,117] (fun (j:Nat)=>[(18,.int .i64 (j:Nat))]) (fun j w'=>Ext w w'∧w6.heap.size≤w'.heap.size∧j≤q.length∧OwnedB w.heap.size w6.heap.size XR w' o2 ((ro g ms::p.map fun r=>List.replicate 1 0++r++List.replicate q.length 0)++(q.take k).map fun r=>List.replicate (1+p.length) 0++r)∧Owned w6.heap.size XI w' (.slice (some ⟨b3,0,none⟩) (1+(p.length:Int)+(q.length:Int)).toNat (1+(p.length:Int)+(q.length:Int)).toNat) (List.replicate (1+p.length) 0++q[k].take j++List.replicate ((1+(p.length:Int)+(q.length:Int)).toNat - (1+p.length) - j) 0)) (fun j=>q.length - j) 0 Kn ?_ ?_
     ·refine ⟨by exact (E6.K E7),Kh,Ja _,O0.toB.J (by exact E7),?_⟩
      rw [show List.replicate (1+p.length) (0:Int)++q[k].take 0++List.replicate ((1+(p.length:Int)+(q.length:Int)).toNat - (1+p.length) - 0) 0=List.replicate (1+(p.length:Int)+(q.length:Int)).toNat 0 by
       rw [List.take_zero,List.append_nil,List.replicate_append_replicate];congr 1;omega]
      exact O1
     clear O0 O1
     rintro j ρn w8 ⟨E8,P8,hj,O0,O1⟩
     have hrj:=hrl3 j hj
     by_cases hjl:j < q.length
     ·focus
       refine Vt<|Vr<|Vz Z<|Yj u Z<|Ys Jm Z h'<|Yy Z<|Vp<|Vu Z (fun h5=>?_) (fun h5=>?_);refine Vw<|Vt<|Yb<|Ym<|Ri Z<|Yj v Z<|Ys Jm Z h<|Xf Z<|Vz Z<|Xf Z<|Yj u Z<|Vz Z<|Xv Jm Jw Jz Z (fun _=>Z) Z h' E8 Z Km ?_;rintro _ u1 C1;refine Vz Z<|Xv Jl Ji Jk Z (fun _=>Z) Z C1 E8 Z Km ?_;rintro _ _ rfl;refine Wo Z (Qr Jl Ji Z Z Kh) ?_;refine Wo_set Z Ji Z Z O1.toB Km Owned.int (Kz _) Kh ?_;rintro w9 O1 On1 K1 Z1;have E9:=On1.ext1 E8 Kh
       have O0:=O0.W K1 Kh;refine Vp<|Ym<|Vz Z<|Xf Z<|Yx Z<|Vp ?_;rotate_left;exact Kt
      refine ⟨(j+1),Kn,Ko,?_,?_⟩
      ·refine ⟨by exact E9,Kh,Kh,by exact O0,?_⟩
       rw [← shift_row j Kh Kh]
       have e:(1+(p.length:Int)+(j:Int)).toNat=1+p.length+j:=Kh
       rw [← e]
       assumption
      ·omega
     ·obtain rfl:j=q.length:=by omega
      focus
       have:=E8.Z;have:=E6.Z;refine Vt<|Vr<|Vz Z<|Yj u Z<|Ys Jm Z h'<|Yy Z<|Vp<|Vv Z fun h5=>?_;refine Xm ?_;refine Yn ?_;refine Ym<|Yj o2 Z<|Ri Z<|Xc (ps:=[(0,.slice _ _ _)]) (cs:=[_]) Z Jm Jw Gq Z Z Z Z ?_;rintro b4 w9 H4 E9 B1;have:=E9.Z;refine Ur Z Sk Z Z B1 (O0.J E9) (O1.toB.J E9).o Kh Km Kh Kh (E8.K E9) Kh ?_;rintro v1 w10 O0 E10 M1;refine Uc v1 Z<|Vp<|Ym<|Vz Z<|Xf Z<|Yx Z<|Vp ?_
      refine ⟨(k+1,v1),Kn,Ko,?_,?_⟩
      ·refine ⟨by exact E10,Kh,?_⟩
       rw [Ua _ _ hlt,List.map_append,← List.append_assoc]
       have e:List.replicate (1+p.length) (0:Int)++q[k].take q.length++List.replicate ((1+(p.length:Int)+(q.length:Int)).toNat - (1+p.length) - q.length) 0=List.replicate (1+p.length) 0++q[k]:=by
        rw [List.take_of_length_le Kh,show (1+(p.length:Int)+(q.length:Int)).toNat - (1+p.length) - q.length=0 by omega];simp
       simp only [List.map_cons,List.map_nil]
       rw [← e]
       assumption
      ·simp only;omega
    ·obtain rfl:k=q.length:=by omega
     focus
      refine Vt<|Vr<|Vz Z<|Yj u Z<|Ys Jm Z h'<|Yy Z<|Vp<|Vv Z fun h4=>?_;refine Xm ?_;refine Yn ?_;refine Vr<|Yj o2 Z<|Uc o2 Z<|Vp<|Vy ?_;refine ⟨E6,(congrArg (Owned _ _ _ _) ?_).mp (O0.toB.o.mono Kh)⟩
     rw [List.take_length,put_eq,bes_len,← hg]
     unfold bes
     rw [List.map_append,List.map_map,List.map_map]
     simp only [List.cons_append,List.cons.injEq,true_and]
     congr 1
     ·refine List.map_congr_left fun r _=>?_
      simp [Nat.add_comm 1,List.replicate_succ]
theorem l6Least_ok (w:World) (v:Value) (p:List (List Int)) (h:ESl Ints w v p) (hp:Gr p) :
  Dz 175 [v] w (RetOB w XR (if (lst p 0).length≤5 then lst p 0 else []) (decide ((lst p 0).length≤5))):=by
 have I5:=hp.2.1
 have I1:=hp.1
 have hkl:=Ni (p:=p)
 have k1 : ∀ w,Dz 202 [.int .i64 (p.length:Int)] w (RetO w XR (matV p (bsm p 0))):=fun w=>by
  have:=l3Start_ok w p.length I5
  rwa [matV_zero] at this
 have k2 : ∀ (n:Nat) (w:World) (v v':Value),ESl Ints w v p→ESl Ints w v' (matV p (bsm p n))→Dz 203 [v,v'] w (RetO w XR (matV p (bsm p (n+1)))):=fun n w v v' h h'=>l3Round_ok w v v' p h hp _ h'
 refine Uy Tryz.func175 Z Tryz.results175 Tryz.ntmps175 Z ?_
 focus
  refine Vr<|Uj Z<|Ya Z<|Vp<|Vr<|Yj v Z<|Ys Jm Z h<|Vs Z (Xh (a:=.int _ _) Tryz.call202 Z) (k1 _) ?_;rintro u1 w1 ⟨E1,O1⟩;refine Uc u1 Z<|Vp<|Vt<|Vr<|Yx Z<|Vp<|Yb ?_
 refine Xt [4,5,17,18,19,20,21,22,23,24,25] (fun ((n,u):Nat × Value)=>[(5,.int .i64 (n:Nat)),(4,u)]) (fun (n,u) w'=>Ext w w'∧n≤p.length∧Owned w.heap.size XR w' u (matV p (bsm p n))) (fun x=>p.length - x.1) (0,u1) Kn ?_ ?_
 ·exact ⟨by exact E1,Ja _,O1⟩
 clear O1
 rintro ⟨n,um⟩ ρj w2 ⟨E2,hn,O1⟩
 have k2n:=k2 n
 by_cases hnl:n < p.length
 ·focus
   have:=E2.Z;refine Vt<|Vr<|Vz Z<|Yj v Z<|Ys Jm Z h<|Yy Z<|Vp<|Vu Z (fun h1=>?_) (fun h1=>?_);refine Vw<|Vt<|Yb<|Ym<|Yj v Z<|Yj um Z<|Vs Z (Xa (a:=v) (b:=um) Tryz.call203 Z Z) (k2n _ _ _ (Ku E2 h) (Kv O1)) ?_;rintro u2 w3 ⟨E3,O2⟩;refine Uc u2 Z<|Vp<|Ym<|Vz Z<|Xf Z<|Yx Z<|Vp ?_;rotate_left;exact Kt
  refine ⟨(n+1,u2),Kn,Ko,?_,?_⟩
  ·exact ⟨by exact (E2.K E3),Kh,O2.mono Kh⟩
  ·simp only;omega
 ·obtain rfl:n=p.length:=by omega
  clear k1 k2 k2n
  have hml:=Rp (p:=p) (bsm p p.length)
  have rM:=O1.O
  clear O1
  focus
   have:=E2.Z;refine Vt<|Vr<|Vz Z<|Yj v Z<|Ys Jm Z h<|Yy Z<|Vp<|Vv Z fun h1=>?_;refine Xm ?_;refine Yn ?_;refine Vt<|Ym<|Un XInt Z Rl Ji ?_;rintro b1 w3 H1 b1lt E3 O1;refine Uj Z<|Vp<|Vt<|Vt<|Ym<|Yx Z<|Vp<|Yb ?_
  refine Xt [6,7,8,27,28,29,30,31,32,33,34,35,36,37,38,39,40,41,42,43,44,45,46,47,48,49,50] (fun ((k,u):Nat × Value)=>[(7,.int .i64 (k:Nat)),(6,u)]) (fun (k,u) w'=>Ext w2 w'∧k≤p.length∧Owned w2.heap.size XI w' u ((ints (kndL p)).take k)) (fun x=>p.length - x.1) (0,.slice (some ⟨b1,0,none⟩) 0 0) Kn ?_ ?_
  ·exact ⟨by exact E3,Ja _,by simpa using O1⟩
  clear O1
  rintro ⟨k,uk⟩ ρk w4 ⟨E4,hk,O1⟩
  have htl:((ints (kndL p)).take k).length=k:=Kg
  by_cases hlt:k < p.length
  ·obtain ⟨g1,g2,g3⟩:=Ns hlt
   focus
    have:=E4.Z;refine Vt<|Vr<|Vz Z<|Yj v Z<|Ys Jm Z h<|Yy Z<|Vp<|Vu Z (fun h2=>?_) (fun h2=>?_);refine Vw<|Vt<|Yb<|Vr<|Yx Z<|Vp<|Yb ?_;rotate_left;exact Kt
   refine Xt [6,8,33,34,35,36,37,38,39,40,41,42,43,44,45,46,47,48,49,50] (fun (j:Nat)=>[(8,.int .i64 (j:Nat)),(6,uk)]) (fun j w'=>w'=w4∧j≤knd p k) (fun j=>p.length - j) 0 Kn ?_ ?_
   ·exact ⟨rfl,Ja _⟩
   rintro j ρl w5 ⟨rfl,hj⟩
   have hmr:=Sm (p:=p) (S:=bsm p p.length) hlt
   have hma:=Tp (p:=p) (S:=bsm p p.length) (a:=k) (b:=j) hlt Kh
   rcases Nat.lt_or_ge j (knd p k) with hjl | hjl
   ·have h0:((matV p (bsm p p.length))[k]'Kh)[j]'Kh=0:=by rw [hma,show bsm p p.length k j=false from g3 j hjl];rfl
    focus
     refine Vt<|Vr<|Vz Z<|Yj v Z<|Ys Jm Z h<|Yy Z<|Vp<|Vu Z (fun h3=>?_) (fun h3=>?_);refine Vw<|Vt<|Yb<|Vr<|Yj um Z<|Vz Z<|Xv Jm Jw Jz Z (fun _=>Z) Z rM E4 Z Km ?_;rintro _ u2 C1;refine Vz Z<|Xv Jl Ji Jk Z (fun _=>Z) Z C1 E4 Z Km ?_;rintro _ _ rfl;refine Yo Z<|Vp<|Vv Z fun h4=>?_;refine Vw<|Ym<|Vz Z<|Xf Z<|Yx Z<|Vp ?_;rotate_left;exact Kt
    refine ⟨(j+1),Kn,Ko,?_,?_⟩
    ·exact ⟨rfl,Kh⟩
    ·omega
   ·obtain rfl:j=knd p k:=by omega
    have h1:((matV p (bsm p p.length))[k]'Kh)[knd p k]'Kh=1:=by rw [hma,show bsm p p.length k (knd p k)=true from g2];rfl
    focus
     have:=E4.Z;have:=E2.Z;refine Vt<|Vr<|Vz Z<|Yj v Z<|Ys Jm Z h<|Yy Z<|Vp<|Vu Z (fun h3=>?_) (fun h3=>?_);refine Vw<|Vt<|Yb<|Vr<|Yj um Z<|Vz Z<|Xv Jm Jw Jz Z (fun _=>Z) Z rM E4 Z Km ?_;rintro _ u2 C1;refine Vz Z<|Xv Jl Ji Jk Z (fun _=>Z) Z C1 E4 Z Km ?_;rintro _ _ rfl;refine Yo Z<|Vp<|Vu Z (fun h4=>?_) (fun h4=>?_);refine Vr<|Yj uk Z<|Vz Z<|Xg (ps:=[(0,.int _ _)]) (cs:=[_]) Z Jl Ji Gf Z Z Z Z ?_;rintro b2 w4 H2 E5 B1 Y2;have:=E5.Z
     refine Ur Z Rl Z Z B1 (O1.toB.J E5) Owned.int (Kz _) Km Kh Kh ((E2.K E4).K E5) Kh ?_;have T1:=(O1.toB.J E5);rintro v1 w6 O1 E6 M1;have E7:=M1.J T1 (E4.K E5) Kh;refine Uc v1 Z<|Vp<|Xm ?_;refine exitX_other Z ?_;refine Yn ?_;refine Ym<|Vz Z<|Xf Z<|Yx Z<|Vp ?_;rotate_left;exact Ks;exact Kt
    refine ⟨(k+1,v1),Kn,Ko,?_,?_⟩
    ·refine ⟨by exact E7,Kh,?_⟩
     rw [Ua _ _ Kh,Su]
     exact O1
    ·simp only;omega
  ·obtain rfl:k=p.length:=by omega
   rw [List.take_of_length_le Kh] at O1
   have rK:=O1.O
   clear O1
   focus
    have:=E4.Z;refine Vt<|Vr<|Vz Z<|Yj v Z<|Ys Jm Z h<|Yy Z<|Vp<|Yt Z fun h2=>?_;refine Xm ?_;refine Yn ?_;refine Vr<|Xg (ps:=[(0,.int _ _)]) (cs:=[_]) Z Jl Ji Gf Z Z Z Z ?_;rintro b2 w5 H2 E5 B1 Y2;refine Uj Z<|Vp<|Vt<|Vr<|Yx Z<|Vp<|Yb ?_
   have O2:Owned w4.heap.size XI w5 (.slice (some ⟨b2,0,none⟩) 1 1) (ints [0]):=Owned.block Y2 H2 rfl Kj ⟨⟨rfl,rfl⟩,trivial⟩
   clear Y2 B1
   refine Xt [9,10,11,12,13,52,53,54,55,56,57,58,59,60,61,62,63,64,65,66,67,68,69,70,71,72,73,74,75,76,77,78,79,80,81,82,83,84,85,86,87,88,89,90,91,92,93,94,95,96,97,98,99,100] (fun ((t,u,L):Nat × Value × List Nat)=>[(10,.int .i64 (t:Nat)),(9,u)]) (fun (t,u,L) w'=>Ext w4 w'∧Owned w4.heap.size XI w' u (ints L)∧Wlk p L∧t≤L.length∧∀ x ∈ L.take t,∀ j ∈ arr p x,knd p j ∈ L.map (knd p)) (fun x=>p.length - x.1) (0,.slice (some ⟨b2,0,none⟩) 1 1,[0]) Kn ?_ ?_
   ·exact ⟨by exact E5,O2,Wlk.zero,Ja _,Kp⟩
   clear O2
   rintro ⟨t,u,L⟩ ρl w6 ⟨E6,O2,hW,ht,hcl⟩
   have hLl:=hW.len hp
   have hLil:=Ul L
   by_cases htl:t < L.length
   ·obtain ⟨X,hX⟩ : ∃ X,X=L[t]:=⟨_,rfl⟩
    have hXl:X < p.length:=hX ▸ hW.lt hp (List.getElem_mem htl)
    have hrow:=hp.row hXl
    focus
     refine Vt<|Vr<|Vz Z<|Yj u Z<|Ys Jl Z (Kv O2)<|Yy Z<|Vp<|Vu Z (fun h3=>?_) (fun h3=>?_);refine Vw<|Vt<|Yb<|Vr<|Yx Z<|Vp<|Yb ?_;rotate_left;exact Kt
    refine Xt [9,11,12,13,58,59,60,61,62,63,64,65,66,67,68,69,70,71,72,73,74,75,76,77,78,79,80,81,82,83,84,85,86,87,88,89,90,91,92,93,94,95,96,97,98,99,100] (fun ((j,u,L'):Nat × Value × List Nat)=>[(11,.int .i64 (j:Nat)),(9,u)]) (fun (j,u,L') w'=>Ext w4 w'∧j≤p.length∧Owned w4.heap.size XI w' u (ints L')∧Wlk p L'∧(∃ e,L'=L++e)∧∀ j' ∈ arr p X,j' < j→knd p j' ∈ L'.map (knd p)) (fun x=>p.length - x.1) (0,u,L) Kn ?_ ?_
    ·exact ⟨by exact E6,Ja _,O2,hW,⟨[],Kp⟩,fun j' _ h=>Kh⟩
    clear O2
    rintro ⟨j,u',L'⟩ ρm w7 ⟨E7,hj,O2,hW',⟨e,he⟩,hcl'⟩
    have hLl':=hW'.len hp
    have hLil':=Ul L'
    have htl':t < L'.length:=by rw [he];simp;omega
    have hXt:L'[t]=X:=by simp only [he];rw [List.getElem_append_left htl,hX]
    have hXm:X ∈ L':=hXt ▸ List.getElem_mem htl'
    have hgt:(ints L')[t]'Kh=(X:Int):=by rw [Qh htl',hXt]
    by_cases hjl:j < p.length
    ·have hgX:(p[((ints L')[t]'Kh).toNat]'(by rw [hgt];omega))=p[X]:=by simp only [hgt,Int.toNat_natCast]
     have hgXl:(p[((ints L')[t]'Kh).toNat]'(by rw [hgt];omega)).length=p.length:=by rw [hgX];exact hrow
     have hgXj:(p[((ints L')[t]'Kh).toNat]'(by rw [hgt];omega))[j]'Kh=p[X][j]:=by simp only [hgt,Int.toNat_natCast]
     have harX:j ∈ arr p X↔p[X][j]=1:=by
      rw [Rc hp hXl];unfold bit;rw [Xl hXl,Xl (show j < p[X].length by omega)]
      exact ⟨fun h=>h.2,fun h=>⟨hjl,h⟩⟩
     focus
      have:=E7.Z;refine Vt<|Vr<|Vz Z<|Yj v Z<|Ys Jm Z h<|Yy Z<|Vp<|Vu Z (fun h4=>?_) (fun h4=>?_);refine Vw<|Vt<|Yb<|Vr<|Yj v Z<|Yj u' Z<|Vz Z<|Xv Jl Ji Jk Z (fun _=>Z) Z (Kv O2) (Jf _) Z Km ?_;rintro _ _ rfl;refine Ry Jm Jw Jz Z (fun _=>Z) Z h exq Z Km ?_;rintro _ u2 C1;refine Vz Z<|Xv Jl Ji Jk Z (fun _=>Z) Z C1 exq Z Km ?_;rintro _ _ rfl;refine Yo Z<|Ya Z<|Vp<|Vt<|Vr<|Yx Z<|Vp<|Yb ?_;rotate_left;exact Kt
     refine Xt [12,13,75,76,77,78,79,80,81,82,83,84,85,86,87,88,89,90,91,92,93,94,95] (fun ((m,f):Nat × Bool)=>[(13,.int .i64 (m:Nat)),(12,.bool f)]) (fun (m,f) w'=>Ext w7 w'∧m≤L'.length∧(f=true↔j ∈ arr p X∧knd p j ∉ (L'.take m).map (knd p))) (fun x=>L'.length - x.1) (0,decide ((p[((ints L')[t]'Kh).toNat]'(by rw [hgt];omega))[j]'Kh=1)) Kn ?_ ?_
     ·refine ⟨Jf _,Ja _,?_⟩
      rw [decide_eq_true_iff,hgXj,harX];simp
     rintro ⟨m,f⟩ ρn w9 ⟨E9,hm,hf⟩
     by_cases hml2:m < L'.length
     ·have hLm:=hW'.lt hp (List.getElem_mem hml2)
      have hgm:(ints L')[m]'Kh=(L'[m]:Int):=Qh hml2
      have hkm:(ints (kndL p))[((ints L')[m]'Kh).toNat]'(by rw [hgm,hkl];omega)=(knd p L'[m]:Int):=by
       simp only [hgm,Int.toNat_natCast];exact Su _
      have hkj:(ints (kndL p))[j]'Kh=(knd p j:Int):=Su _
      have hts:=Ua _ _ hml2
      have bm:((ints L')[m]'Kh).toNat < (ints (kndL p)).length:=by rw [hkl,hgm];omega
      cases f
      ·focus
        refine Vt<|Vr<|Vz Z<|Yj u' Z<|Ys Jl Z (Kv O2)<|Yy Z<|Vp<|Vu Z (fun h5=>?_) (fun h5=>?_);refine Vw<|Vt<|Yb<|Qe mixed Ki Z ?_;refine Tb Z<|Tb Z<|Yd Z<|Yd Z<|Yd Z<|Yd Z<|Yd Z<|Yd Z<|Yd Z<|Yd Z<|Yd Z<|Yd Z<|Yd Z<|Yd Z<|Sl Z<|Nx Z<|Ux (fun w8 E8=>?_);refine Ym<|Vz Z<|Xf Z<|Yx Z<|Vp ?_;rotate_left;exact Kt
       refine ⟨(m+1,false),Kn,Ko,?_,?_⟩
       ·refine ⟨by exact (E9.K E8),Kh,⟨fun h=>(by cases h),fun h=>?_⟩⟩
        rw [hts,List.map_append,List.mem_append,not_or] at h
        exact absurd (hf.2 ⟨h.1,h.2.1⟩) Kp
       ·simp only;omega
      ·focus
        refine Vt<|Vr<|Vz Z<|Yj u' Z<|Ys Jl Z (Kv O2)<|Yy Z<|Vp<|Vu Z (fun h5=>?_) (fun h5=>?_);refine Vw<|Vt<|Yb<|Qe mixed Ki Z ?_;refine Tb Z<|Tb Z<|Sb uk Z<|Sb u' Z<|Sv Z<|Qf Jl Ji Jk Z (fun _=>Z) Z (Kv O2) E9 Z Km ?_;rintro _ _ rfl;refine Nc Jl Ji Jk Z (fun _=>Z) Z rK exq Z Km ?_;rintro _ _ rfl;refine Sb uk Z<|Sv Z<|Qf Jl Ji Jk Z (fun _=>Z) Z rK exq Z Km ?_;rintro _ _ rfl;refine Wqneq Z<|Md Z<|Nx Z<|Ux (fun w8 E8=>?_)
        refine Ym<|Vz Z<|Xf Z<|Yx Z<|Vp ?_;rotate_left;exact Kt
       refine ⟨((m+1,!decide ((ints (kndL p))[((ints L')[m]'Kh).toNat]'bm=(ints (kndL p))[j]'Kh))),Kn,Ko,?_,?_⟩
       ·refine ⟨by exact (E9.K E8),Kh,?_⟩
        rw [hkm,hkj,hts,List.map_append,List.mem_append,not_or]
        have hf':=hf.1 rfl
        simp only [List.map_cons,List.map_nil,List.mem_singleton,Bool.not_eq_true',decide_eq_false_iff_not]
        constructor
        ·intro h;exact ⟨hf'.1,hf'.2,fun e=>h (by rw [e])⟩
        ·intro h e;exact h.2.2 Kh
       ·simp only;omega
     ·obtain rfl:m=L'.length:=by omega
      rw [List.take_length] at hf
      cases f
      ·focus
        refine Vt<|Vr<|Vz Z<|Yj u' Z<|Ys Jl Z (Kv O2)<|Yy Z<|Vp<|Vv Z fun h5=>?_;refine Xm ?_;refine Yn ?_;refine Vr<|Xp Z<|Vp<|Vx Z ?_;refine Vw<|Ym<|Vz Z<|Xf Z<|Yx Z<|Vp ?_
       refine ⟨(j+1,u',L'),Kn,Ko,?_,?_⟩
       ·refine ⟨by exact (E7.K E9),Kh,by exact (Ku E9 O2),hW',⟨e,he⟩,fun j' h1 h2=>?_⟩
        rcases Nat.lt_or_ge j' j with h3 | h3
        ·exact hcl' j' h1 h3
        ·obtain rfl:j'=j:=by omega
         exact Classical.byContradiction fun h=>absurd (hf.2 ⟨h1,h⟩) Kp
       ·simp only;omega
      ·obtain ⟨hf1,hf2⟩:=hf.1 rfl
       focus
        have:=E9.Z;have:=E7.Z;refine Vt<|Vr<|Vz Z<|Yj u' Z<|Ys Jl Z (Kv O2)<|Yy Z<|Vp<|Vv Z fun h5=>?_;refine Xm ?_;refine Yn ?_;refine Vr<|Xp Z<|Vp<|Xe Z ?_;refine Ym<|Yj u' Z<|Vz Z<|Xg (ps:=[(0,.int _ _)]) (cs:=[_]) Z Jl Ji Gf Z Z Z Z ?_;rintro b3 w8 H3 E8 B1 Y3;have:=E8.Z;refine Ur Z Rl Z Z B1 (O2.toB.J (E9.K E8)) Owned.int (Kz _) Km Kh Kh ((((E2.K E4).K E7).K E9).K E8) Kh ?_;have T1:=(O2.toB.J (E9.K E8));rintro v1 w10 O2 E10 M1;have E12:=M1.J T1 ((E7.K E9).K E8) Kh;have B1:=B1.moves M1 T1 Kh
        refine Uc v1 Z<|Vp<|Ym<|Vz Z<|Xf Z<|Yx Z<|Vp ?_
       refine ⟨(j+1,v1,L'++[j]),Kn,Ko,?_,?_⟩
       ·refine ⟨by exact E12,Kh,?_,hW'.step hXm hf1 hf2,⟨e++[j],by rw [he,List.append_assoc]⟩,fun j' h1 h2=>?_⟩
        ·rw [ints_append];assumption
        ·rw [List.map_append,List.mem_append]
         rcases Nat.lt_or_ge j' j with h3 | h3
         ·exact .inl (hcl' j' h1 h3)
         ·obtain rfl:j'=j:=by omega
          exact .inr Kp
       ·simp only;omega
    ·obtain rfl:j=p.length:=by omega
     focus
      refine Vt<|Vr<|Vz Z<|Yj v Z<|Ys Jm Z h<|Yy Z<|Vp<|Yt Z fun h4=>?_;refine Xm ?_;refine Yn ?_;refine Ym<|Vz Z<|Xf Z<|Yx Z<|Vp ?_
     refine ⟨(t+1,u',L'),Kn,Ko,?_,?_⟩
     ·refine ⟨by exact E7,by exact O2,hW',Kh,fun x hx j' hj'=>?_⟩
      rw [Ua _ _ htl'] at hx
      rcases List.mem_append.1 hx with hx | hx
      ·have hx2:x ∈ L.take t:=by rw [he,List.take_append_of_le_length Kh] at hx;exact hx
       have:=hcl x hx2 j' hj'
       rw [he,List.map_append]
       exact Jh _ this
      ·rw [List.mem_singleton.1 hx,hXt] at hj'
       exact hcl' j' hj' (Qm hp hXl hj')
     ·simp only;omega
   ·obtain rfl:t=L.length:=by omega
    rw [List.take_length] at hcl
    have hKds:=hW.kds hp hcl
    have hLlt : ∀ x ∈ L,x < p.length:=fun x hx=>hW.lt hp hx
    have hC:Cand p 0 (qp p (L.map (knd p))):=⟨_,hKds,rfl⟩
    have hcl2:(qp p (L.map (knd p))).length=L.length:=by rw [qp_len,List.length_map]
    have hll:=lst_len hp I1 hC
    rw [hcl2] at hll
    by_cases h5:L.length≤5
    ·have h5':(lst p 0).length≤5:=by omega
     have hPc:=hC.pic hp I1 Kh
     have k4 : ∀ (w:World) (v u t:Value),ESl Ints w v p→Ints w u (ints (kndL p))→Ints w t (ints L)→Dz 195 [v,u,t] w (RetO w XR (qp p (L.map (knd p)))):=fun w v u t h1 h2 h3=>by
      rw [← ptV_qp hp hLlt]
      refine l4Part_ok w v u t p _ _ h1 h2 h3 hp hkl (fun x hx=>?_) (by rw [Ul];omega)
      obtain ⟨y,hy,rfl⟩:=List.mem_map.1 hx
      have:=hLlt y hy
      omega
     have k5 : ∀ (w:World) (v:Value),ESl Ints w v (qp p (L.map (knd p)))→Dz 126 [v,.int .i64 0] w (RetO w XR (lst p 0)):=fun w v h=>by
      have:=Tg w v _ h 0
      rw [if_pos ⟨hPc,Kj,by have:=hPc.1;omega⟩] at this
      rw [(lst_same hp (hC.gr hp I1) I1 hPc.1).2 (hC.bis hp I1)]
      exact this
     rw [if_pos h5',decide_eq_true h5']
     focus
      have:=E6.Z;refine Vt<|Vr<|Vz Z<|Yj u Z<|Ys Jl Z (Kv O2)<|Yy Z<|Vp<|Vv Z fun h3=>?_;refine Xm ?_;refine Yn ?_;refine Vt<|Vr<|Yj u Z<|Ys Jl Z (Kv O2)<|Qo Z<|Vp<|Vv Z fun h4=>?_;refine Vw<|Vt<|Ym<|Yj v Z<|Yj uk Z<|Yj u Z<|Vs Z (Qq (a:=v) (b:=uk) (c:=u) Tryz.call195 Z Z Z) (k4 _ _ _ _ (Ku exq h) (Ku E6 rK) (Kv O2)) ?_;rintro u2 w7 ⟨E7,O1⟩;have:=E7.Z;refine Vs Z (Xa (a:=u2) (b:=.int _ _) Zj Z Z) (k5 _ _ (Kv O1)) ?_;rintro u3 w8 ⟨E8,O3⟩;refine Uc u3 Z<|Ya Z<|Vp<|Vy ?_;refine Yh (v:=.tuple #[u3,.bool _]) Z ?_;exact ⟨_,rfl,exq,O3.toB.o.mono Kh⟩
    ·have h5' : ¬(lst p 0).length≤5:=by omega
     rw [if_neg h5',decide_eq_false h5']
     focus
      have:=E6.Z;refine Vt<|Vr<|Vz Z<|Yj u Z<|Ys Jl Z (Kv O2)<|Yy Z<|Vp<|Vv Z fun h3=>?_;refine Xm ?_;refine Yn ?_;refine Vt<|Vr<|Yj u Z<|Ys Jl Z (Kv O2)<|Qo Z<|Vp<|Vu Z (fun h4=>?_) (fun h4=>?_);refine Vr<|Un (XSl 3 XInt) Z Sk Jw ?_;rintro b3 w7 H3 b3lt E7 O1;refine Uj Z<|Ya Z<|Vp<|Vy ?_;refine Yh (v:=.tuple #[.slice _ _ _,.bool _]) Z ?_;exact ⟨_,rfl,exq,O1.toB.o.mono Kh⟩;exact Kt
theorem l6Least_put (w:World) (v:Value) (g:List (List Int)) (ms:List Nat) (h:ESl Ints w v (put g ms)) (hg:Gr g) (hn:g.length≤10) :
  Dz 175 [v] w (RetOB w XR (og (putV g ms)) (putV g ms).isSome):=by
 rw [putV_og,putV_is]
 exact l6Least_ok w v _ h (put_gr hg hn)
theorem PairOf_ok (w:World) (v u:Value) (p q:List (List Int)) (h:ESl Ints w v p) (h':ESl Ints w u q) (a b:Nat) (ha:Nod p a) (hb:Nod q b):Dz 141 [v,.int .i64 (a:Int),u,.int .i64 (b:Int)] w (RetOB w XR (og (pairV p a q b)) (pairV p a q b).isSome):=by
 have la:a < p.length:=by have:=ha.2;omega
 have lb:b < q.length:=by have:=hb.2;omega
 have hle:=h.le
 have hle':=h'.le
 have hG:=ha.1.bes5 hb.1
 have n1 : ∀ (w:World) (v:Value),ESl Ints w v p→Dz 118 [v,.int .i64 (a:Int)] w (Ret w (.bool true)):=fun w v h=>by
  have:=Rq w v p h (a:Int);rwa [decide_eq_true ha] at this
 have n2 : ∀ (w:World) (v:Value),ESl Ints w v q→Dz 118 [v,.int .i64 (b:Int)] w (Ret w (.bool true)):=fun w v h=>by
  have:=Rq w v q h (b:Int);rwa [decide_eq_true hb] at this
 have k1 : ∀ (w:World) (v u vl vr:Value),ESl Ints w v p→ESl Ints w u q→Ints w vl [(a:Int)]→Ints w vr [(b:Int)]→Dz 176 [v,u,vl,vr] w (RetO w XR (put (bes p q) [a,p.length+b])):=fun w v u vl vr h1 h2 h3 h4 =>
  l6Put_ok w v u vl vr p q [a] [b] h1 h2 h3 h4 ha.1 (.inl hb.1) (fun x hx=>by rw [List.mem_singleton.1 hx];exact la) (fun x hx=>by rw [List.mem_singleton.1 hx];exact lb) Kp Kp
 have k2 : ∀ (w:World) (v:Value),ESl Ints w v (put (bes p q) [a,p.length+b])→Dz 175 [v] w (RetOB w XR (og (pairV p a q b)) (pairV p a q b).isSome):=fun w v h=>l6Least_put w v _ _ h hG.1 hG.2
 refine Uy Tryz.func141 Z Tryz.results141 Tryz.ntmps141 Z ?_
 have litown:True:=trivial
 focus
  refine Vr<|Uj Z<|Ya Z<|Vp<|Vt<|Vr<|Yj v Z<|Vz Z<|Vs Z (Xa (a:=v) (b:=.int _ _) Zd Z Z) (n1 _ _ (h)) ?_;rintro _ w1 ⟨rfl,E1⟩;have:=E1.Z;refine Xz Z<|Uf Z (Xj (v:=.bool _) Z) (fun h1=>?_) (fun h1=>?_);exact Ks;refine Yj u Z<|Vz Z<|Vs Z (Xa (a:=u) (b:=.int _ _) Zd Z Z) (n2 _ _ (Ku E1 h')) ?_;rintro _ w2 ⟨rfl,E2⟩;have:=E2.Z;refine Xz Z<|Xb Z<|Vp<|Uk Z fun h2=>?_;refine Vw<|Vr<|Yj v Z<|Yj u Z<|Vz Z<|Xg (ps:=[(0,.int _ _)]) (cs:=[_]) Z Jl Ji Gf Z Z Z Z ?_;rintro b1 w3 H1 E3 B1 Y1;have:=B1.lt;have hLb1:=own_lit1 Y1 H1;clear Y1;have:=E3.Z
  refine Vz Z<|Xg (ps:=[(0,.int _ _)]) (cs:=[_]) Z Jl Ji Gf Z Z Z Z ?_;rintro b2 w4 H2 E4 B2 Y2;have:=B2.lt;have hLb2:=own_lit1 Y2 H2;clear Y2;have:=E4.Z;refine Vs Z (Ss (a:=v) (b:=u) (c:=.slice _ _ _) (d:=.slice _ _ _) Tryz.call176 Z Z Z Z) (k1 _ _ _ _ _ (Ku exq h) (Ku exq h') ((Ku E4 (Kv hLb1))) (Kv hLb2)) ?_;rintro u1 w5 ⟨E5,O1⟩;have ichO1:=Kx (Je O1);have:=E5.Z;refine Vs Z (Xh (a:=u1) Tryz.call175 Z) (k2 _ _ (Kv O1)) ?_;rintro _ w6 ⟨u2,rfl,E6,O2⟩;have ichO2:=Kx (Je O2);have:=E6.Z;refine Ra u2 Z<|Uz Z<|Uc u2 Z<|Ya Z<|Vp<|Vy ?_;refine Yh (v:=.tuple #[u2,.bool _]) Z ?_
  exact ⟨_,rfl,exq,O2.toB.o.mono Kh⟩
theorem TogetherOf_ok (w:World) (v u:Value) (p q:List (List Int)) (h:ESl Ints w v p) (h':ESl Ints w u q) (a b:Nat) (ha:Nod p a) (hb:Nod q b):Dz 142 [v,.int .i64 (a:Int),u,.int .i64 (b:Int)] w (RetOB w XR (og (togV p a q b)) (togV p a q b).isSome):=by
 have la:a < p.length:=by have:=ha.2;omega
 have lb:b < q.length:=by have:=hb.2;omega
 have hle:=h.le
 have hle':=h'.le
 have hG:=ha.1.bes5 hb.1
 have n1 : ∀ (w:World) (v:Value),ESl Ints w v p→Dz 118 [v,.int .i64 (a:Int)] w (Ret w (.bool true)):=fun w v h=>by
  have:=Rq w v p h (a:Int);rwa [decide_eq_true ha] at this
 have n2 : ∀ (w:World) (v:Value),ESl Ints w v q→Dz 118 [v,.int .i64 (b:Int)] w (Ret w (.bool true)):=fun w v h=>by
  have:=Rq w v q h (b:Int);rwa [decide_eq_true hb] at this
 have c1 : ∀ (w:World) (v:Value),ESl Ints w v p→Dz 119 [v,.int .i64 (a:Int)] w (RetO w XI (ints (arr p a))):=fun w v h=>Tu w v p h ha.1.gr a la
 have c2 : ∀ (w:World) (v:Value),ESl Ints w v q→Dz 119 [v,.int .i64 (b:Int)] w (RetO w XI (ints (arr q b))):=fun w v h=>Tu w v q h hb.1.gr b lb
 have k1 : ∀ (w:World) (v u vl vr:Value),ESl Ints w v p→ESl Ints w u q→Ints w vl (ints (arr p a))→Ints w vr (ints (arr q b))→Dz 176 [v,u,vl,vr] w (RetO w XR (put (bes p q) (arr p a++(arr q b).map (p.length + ·)))):=fun w v u vl vr h1 h2 h3 h4 =>
  l6Put_ok w v u vl vr p q _ _ h1 h2 h3 h4 ha.1 (.inl hb.1) (fun x hx=>Qm ha.1.gr la hx) (fun x hx=>Qm hb.1.gr lb hx) (by have:=Lm ha.1.gr la;have:=ha.1.2.1;omega) (by have:=Lm hb.1.gr lb;have:=hb.1.2.1;omega)
 have k2 : ∀ (w:World) (v:Value),ESl Ints w v (put (bes p q) (arr p a++(arr q b).map (p.length + ·)))→Dz 175 [v] w (RetOB w XR (og (togV p a q b)) (togV p a q b).isSome):=fun w v h=>by
  rw [togV_eq ha.1.gr hb.1.gr la lb]
  exact l6Least_put w v _ _ h hG.1 hG.2
 refine Uy Tryz.func142 Z Tryz.results142 Tryz.ntmps142 Z ?_
 focus
  refine Vr<|Uj Z<|Ya Z<|Vp<|Vt<|Vr<|Yj v Z<|Vz Z<|Vs Z (Xa (a:=v) (b:=.int _ _) Zd Z Z) (n1 _ _ (h)) ?_;rintro _ w1 ⟨rfl,E1⟩;have:=E1.Z;refine Xz Z<|Uf Z (Xj (v:=.bool _) Z) (fun h1=>?_) (fun h1=>?_);exact Ks;refine Yj u Z<|Vz Z<|Vs Z (Xa (a:=u) (b:=.int _ _) Zd Z Z) (n2 _ _ (Ku E1 h')) ?_;rintro _ w2 ⟨rfl,E2⟩;have:=E2.Z;refine Xz Z<|Xb Z<|Vp<|Uk Z fun h2=>?_;refine Vw<|Vr<|Yj v Z<|Yj u Z<|Yj v Z<|Vz Z<|Vs Z (Xa (a:=v) (b:=.int _ _) Zt Z Z) (c1 _ _ (Ku exq h)) ?_;rintro u1 w3 ⟨E3,O1⟩;have:=E3.Z
  refine Yj u Z<|Vz Z<|Vs Z (Xa (a:=u) (b:=.int _ _) Zt Z Z) (c2 _ _ (Ku exq h')) ?_;rintro u2 w4 ⟨E4,O2⟩;have:=E4.Z;refine Vs Z (Ss (a:=v) (b:=u) (c:=u1) (d:=u2) Tryz.call176 Z Z Z Z) (k1 _ _ _ _ _ (Ku exq h) (Ku exq h') ((Ku E4 (Kv O1))) (Kv O2)) ?_;rintro u3 w5 ⟨E5,O3⟩;have:=E5.Z;refine Vs Z (Xh (a:=u3) Tryz.call175 Z) (k2 _ _ (Kv O3)) ?_;rintro _ w6 ⟨u4,rfl,E6,O4⟩;have:=E6.Z;refine Ra u4 Z<|Uz Z<|Uc u4 Z<|Ya Z<|Vp<|Vy ?_;refine Yh (v:=.tuple #[u4,.bool _]) Z ?_;exact ⟨_,rfl,exq,O4.toB.o.mono Kh⟩
open Classical in
theorem WithoutSet_ok (w:World) (v u:Value) (p q:List (List Int)) (h:ESl Ints w v p) (h':ESl Ints w u q) (a b:Nat) (ha:Nod p a) (hb:Nod q b):Dz 143 [v,.int .i64 (a:Int),u,.int .i64 (b:Int)] w (RetOB w XR (og (wosV p a q b)) (wosV p a q b).isSome):=by
 have la:a < p.length:=by have:=ha.2;omega
 have lb:b < q.length:=by have:=hb.2;omega
 have hle:=h.le
 have hle':=h'.le
 have n1 : ∀ (w:World) (v:Value),ESl Ints w v p→Dz 118 [v,.int .i64 (a:Int)] w (Ret w (.bool true)):=fun w v h=>by
  have:=Rq w v p h (a:Int);rwa [decide_eq_true ha] at this
 have n2 : ∀ (w:World) (v:Value),ESl Ints w v q→Dz 118 [v,.int .i64 (b:Int)] w (Ret w (.bool true)):=fun w v h=>by
  have:=Rq w v q h (b:Int);rwa [decide_eq_true hb] at this
 have c1 : ∀ (w:World) (v:Value),ESl Ints w v p→Dz 119 [v,.int .i64 (a:Int)] w (RetO w XI (ints (arr p a))):=fun w v h=>Tu w v p h ha.1.gr a la
 have hal:=Lm ha.1.gr la
 have hail:=Ul (arr p a)
 have I5:=ha.1.2.1
 refine Uy Tryz.func143 Z Tryz.results143 Tryz.ntmps143 Z ?_
 focus
  refine Vr<|Uj Z<|Ya Z<|Vp<|Vt<|Vr<|Yj v Z<|Vz Z<|Vs Z (Xa (a:=v) (b:=.int _ _) Zd Z Z) (n1 _ _ (h)) ?_;rintro _ w1 ⟨rfl,E1⟩;have:=E1.Z;refine Xz Z<|Uf Z (Xj (v:=.bool _) Z) (fun h1=>?_) (fun h1=>?_);exact Ks;refine Yj u Z<|Vz Z<|Vs Z (Xa (a:=u) (b:=.int _ _) Zd Z Z) (n2 _ _ (Ku E1 h')) ?_;rintro _ w2 ⟨rfl,E2⟩;have:=E2.Z;refine Xz Z<|Xb Z<|Vp<|Uk Z fun h2=>?_;refine Vw<|Vr<|Un XInt Z Rl Ji ?_;rintro b1 w3 H1 b1lt E3 O1;have:=E3.Z;refine Uj Z<|Vp<|Vr<|Yj v Z<|Vz Z<|Vs Z (Xa (a:=v) (b:=.int _ _) Zt Z Z) (c1 _ _ (Ku exq h)) ?_;rintro u1 w4 ⟨E4,O2⟩;have:=E4.Z
  refine Uc u1 Z<|Vp<|Vt<|Vr<|Yx Z<|Vp<|Yb ?_
 have O3:Owned w.heap.size XI w4 (.slice (some ⟨b1,0,none⟩) 0 0) (ints []):=(O1.J E4).mono Kh
 have hBe:Besides (Value.ownBlock (.slice (some ⟨b1,0,none⟩) 0 0)) Ints w4 u1 (ints (arr p a)):=Besides.start O1 O2.above
 clear O1 O2
 have E0:Ext w w4:=by exact (((E1.K E2).K E3).K E4)
 refine Xt [10,12,28,29,30,31,32,33,34,35,36,37,38,39,40,41,42,43,44,45,46,47,48,49] (fun ((k,u,L):Nat × Value × List Nat)=>[(12,.int .i64 (k:Nat)),(10,u)]) (fun (k,u,L) w'=>Ext w w'∧k≤(arr p a).length∧Owned w.heap.size XI w' u (ints L)∧Besides u.ownBlock Ints w' u1 (ints (arr p a))∧L=((arr p a).take k).filter fun v=>!decide (Bis p v q b)) (fun x=>(arr p a).length - x.1) (0,.slice (some ⟨b1,0,none⟩) 0 0,[]) Kn ?_ ?_
 ·exact ⟨by exact E0,Ja _,O3,hBe,Kp⟩
 clear O3 hBe
 rintro ⟨k,uk,L⟩ ρj w5 ⟨E5,hk,O3,hBe,hL⟩
 have hLle:L.length≤(arr p a).length:=by rw [hL];exact Jd (List.length_filter_le _ _) (by rw [List.length_take];omega)
 have hLil:=Ul L
 by_cases hkl:k < (arr p a).length
 ·have hm:=Qm ha.1.gr la (List.getElem_mem hkl)
  have hgk:(ints (arr p a))[k]'Kh=((arr p a)[k]:Int):=Qh hkl
  have hts:=Ua _ _ hkl
  have hnk:Nod p ((arr p a)[k]:Nat):=⟨ha.1,Kh,Kh⟩
  by_cases hB:Bis p (arr p a)[k] q b
  ·have k3 : ∀ (w:World) (v u:Value),ESl Ints w v p→ESl Ints w u q→Dz 121 [v,.int .i64 ((ints (arr p a))[k]'Kh),u,.int .i64 (b:Int)] w (Ret w (.bool true)):=fun w v u h1 h2=>by
    have:=Tq w v u p q h1 h2 (((arr p a)[k]:Nat):Int) (b:Int) hnk hb
    rw [hgk];simp only [Int.toNat_natCast] at this
    rwa [decide_eq_true hB] at this
   focus
    have:=E5.Z;have:=E0.Z;have:=E4.Z;have:=E3.Z;have:=E2.Z;have:=E1.Z;refine Vt<|Vr<|Vz Z<|Yj u1 Z<|Ys Jl Z (Ky hBe)<|Yy Z<|Vp<|Vu Z (fun h3=>?_) (fun h3=>?_);refine Vw<|Vt<|Yb<|Vr<|Yj v Z<|Yj u1 Z<|Vz Z<|Xv Jl Ji Jk Z (fun _=>Z) Z (Ky hBe) (Jf _) Z Km ?_;rintro _ _ rfl;refine Yj u Z<|Vz Z<|Vs Z (Ss (a:=v) (b:=.int _ _) (c:=u) (d:=.int _ _) Ve Z Z Z Z) (k3 _ _ _ (Ku E5 h) (Ku E5 h')) ?_;rintro _ w6 ⟨rfl,E6⟩;have:=E6.Z;refine Xz Z<|Vp<|Uk Z fun h4=>?_;refine Vw<|Ym<|Vz Z<|Xf Z<|Yx Z<|Vp ?_;rotate_left
    exact Kt
   refine ⟨(k+1,uk,L),Kn,Ko,?_,?_⟩
   ·refine ⟨by exact (E5.K E6),Kh,by exact (Ku E6 O3),by exact (hBe.J E6),?_⟩
    rw [hL,hts,List.filter_append];simp [hB]
   ·simp only;omega
  ·have k3 : ∀ (w:World) (v u:Value),ESl Ints w v p→ESl Ints w u q→Dz 121 [v,.int .i64 ((ints (arr p a))[k]'Kh),u,.int .i64 (b:Int)] w (Ret w (.bool false)):=fun w v u h1 h2=>by
    have:=Tq w v u p q h1 h2 (((arr p a)[k]:Nat):Int) (b:Int) hnk hb
    rw [hgk];simp only [Int.toNat_natCast] at this
    rwa [decide_eq_false hB] at this
   focus
    have:=E5.Z;have:=E0.Z;have:=E4.Z;have:=E3.Z;have:=E2.Z;have:=E1.Z;refine Vt<|Vr<|Vz Z<|Yj u1 Z<|Ys Jl Z (Ky hBe)<|Yy Z<|Vp<|Vu Z (fun h3=>?_) (fun h3=>?_);refine Vw<|Vt<|Yb<|Vr<|Yj v Z<|Yj u1 Z<|Vz Z<|Xv Jl Ji Jk Z (fun _=>Z) Z (Ky hBe) (Jf _) Z Km ?_;rintro _ _ rfl;refine Yj u Z<|Vz Z<|Vs Z (Ss (a:=v) (b:=.int _ _) (c:=u) (d:=.int _ _) Ve Z Z Z Z) (k3 _ _ _ (Ku E5 h) (Ku E5 h')) ?_;rintro _ w6 ⟨rfl,E6⟩;have:=E6.Z;refine Xz Z<|Vp<|Up Z (fun h4=>?_) (fun h4=>?_)
    refine Ym<|Yj uk Z<|Yj u1 Z<|Vz Z<|Xv Jl Ji Jk Z (fun _=>Z) Z (Ky hBe) E6 Z Km ?_;rintro _ _ rfl;refine Xg (ps:=[(0,.int _ _)]) (cs:=[_]) Z Jl Ji Gf Z Z Z Z ?_;rintro b2 w7 H2 E7 B1 Y2;have:=B1.lt;have:=E7.Z;refine Ur Z Rl Z Z B1 (O3.toB.J (E6.K E7)) Owned.int (Kz _) Km Kh Kh ((E5.K E6).K E7) Kh ?_;have T1:=(O3.toB.J (E6.K E7));rintro v1 w8 O3 E8 M1;have hBe:=(hBe.J exq).moves M1;have B1:=B1.moves M1 T1 Kh;have:=E8.Z;refine Uc v1 Z<|Vp<|Ym<|Vz Z<|Xf Z<|Yx Z<|Vp ?_;rotate_left;exact Ks;exact Kt
   refine ⟨((k+1,v1,L++[(arr p a)[k]])),Kn,Ko,?_,?_⟩
   ·refine ⟨by exact E8,Kh,?_,by exact hBe,?_⟩
    ·rw [ints_append,show ints [(arr p a)[k]]=[(ints (arr p a))[k]'Kh] by rw [hgk];rfl]
     assumption
    ·rw [hL,hts,List.filter_append];simp [hB]
   ·simp only;omega
 ·obtain rfl:k=(arr p a).length:=by omega
  rw [List.take_length] at hL
  have hLm : ∀ x ∈ L,x < p.length:=fun x hx=>Qm ha.1.gr la (List.mem_filter.1 (hL ▸ hx)).1
  have rL:=O3.O
  have rA:=hBe.here
  clear O3 hBe
  have hpp:=ha.1.gr
  have k1 : ∀ (w:World) (v u vl vr:Value),ESl Ints w v p→ESl Ints w u []→Ints w vl (ints L)→Ints w vr []→Dz 176 [v,u,vl,vr] w (RetO w XR (put (bes p []) (L++([]:List Nat).map (p.length + ·)))):=fun w v u vl vr h1 h2 h3 h4 =>
   l6Put_ok w v u vl vr p [] _ [] h1 h2 h3 h4 ha.1 (.inr rfl) hLm (fun x hx=>by cases hx) Kh Kp
  have k2 : ∀ (w:World) (v:Value),ESl Ints w v (put (bes p []) (L++([]:List Nat).map (p.length + ·)))→Dz 175 [v] w (RetOB w XR (og (wosV p a q b)) (wosV p a q b).isSome):=fun w v h=>by
   rw [wosV_eq,← hL]
   exact l6Least_put w v _ _ h (by rw [bes_nil];exact hpp) (by rw [bes_nil];omega)
  focus
   have:=E5.Z;have:=E0.Z;have:=E4.Z;have:=E3.Z;have:=E2.Z;have:=E1.Z;refine Vt<|Vr<|Vz Z<|Yj u1 Z<|Ys Jl Z rA<|Yy Z<|Vp<|Vv Z fun h3=>?_;refine Xm ?_;refine Yn ?_;refine Vr<|Yj v Z<|Un (XSl 3 XInt) Z Sk Jw ?_;rintro b2 w6 H2 b2lt E6 O1;have:=E6.Z;refine Yj uk Z<|Un XInt Z Rl Ji ?_;rintro b3 w7 H3 b3lt E7 O2;have:=E7.Z;refine Vs Z (Ss (a:=v) (b:=.slice _ _ _) (c:=uk) (d:=.slice _ _ _) Tryz.call176 Z Z Z Z) (k1 _ _ _ _ _ (Ku exq h) ((Ku E7 (Kv O1))) (Ku exq rL) (Kv O2)) ?_;rintro u2 w8 ⟨E8,O3⟩;have:=E8.Z;refine Vs Z (Xh (a:=u2) Tryz.call175 Z) (k2 _ _ (Kv O3)) ?_;rintro _ w9 ⟨u3,rfl,E9,O4⟩
   have:=E9.Z;refine Ra u3 Z<|Uz Z<|Uc u3 Z<|Ya Z<|Vp<|Vy ?_;refine Yh (v:=.tuple #[u3,.bool _]) Z ?_;exact ⟨_,rfl,exq,O4.toB.o.mono Kh⟩
theorem l11Rows_ok (w:World) (v:Value) (p:List (List Int)) (h:ESl Ints w v p) (hp:p.length≤100) (hr : ∀ r ∈ p,r.length≤100):Dz 113 [v] w (RetO w XR p):=by
 refine Yr Tryz.func113 Z Tryz.results113 Tryz.ntmps113 Z ?_
 focus
  refine Vr<|Uj Z<|Vp<|Vr<|Un (XSl 3 XInt) Z Sk Jw ?_;rintro b1 w1 H1 b1lt E1 O1;refine Uj Z<|Vp<|Vt<|Vr<|Yx Z<|Vp<|Yb ?_
 refine Xt [3,4,6,7,8,9,10,11,12,13,14,15,16,17,18,19,20] (fun ((k,u):Nat × Value)=>[(4,.int .i64 (k:Nat)),(3,u)]) (fun (k,u) w'=>Ext w w'∧k≤p.length∧Owned w.heap.size XR w' u (p.take k)) (fun x=>p.length - x.1) (0,.slice (some ⟨b1,0,none⟩) 0 0) Kn ?_ ?_
 ·exact ⟨by exact E1,Ja _,by simpa using O1⟩
 clear O1
 rintro ⟨k,u⟩ ρj w2 ⟨E2,hk,O1⟩
 have hlt':(p.take k).length=k:=Kg
 by_cases hlt:k < p.length
 ·have hrl:=hr _ (List.getElem_mem hlt)
  have heldS:w=w:=rfl
  focus
   have:=E2.Z;refine Vt<|Vr<|Vz Z<|Yj v Z<|Ys Jm Z h<|Yy Z<|Vp<|Vu Z (fun h1=>?_) (fun h1=>?_);refine Vw<|Vt<|Yb<|Ym<|Yj u Z<|Un XInt Z Rl Ji ?_;rintro b2 w3 H2 b2lt E3 O2;have:=E3.Z;refine Yj v Z<|Vz Z<|Xv Jm Jw Jz Z (fun _=>Z) Z h exq Z Km ?_;rintro _ u1 C1;refine Wo_appS Z Rl Z Z (Ku (E2.K E3) C1) O2.toB Km Kh Kh (E2.K E3) Kh ?_;have T1:=O2.toB;rintro v1 w4 O2 E4 M1;have O1:=(O1.toB.J E3).moves M1 T1 Kh;have:=M1.1.size;refine Qc Z Jm Jw Gq Z (Kx O2.toB) Z ?_
   rintro b3 w5 H3 E6 B1 Y3;have:=E6.Z;refine Ur Z Sk Z Z B1 (O1.J E6) (O2.toB.J E6).o Kh Km Kh Kh (E4.K E6) Kh ?_;rintro v2 w6 O1 E7 M2;refine Uc v2 Z<|Vp<|Ym<|Vz Z<|Xf Z<|Yx Z<|Vp ?_;rotate_left;exact Kt
  refine ⟨(k+1,v2),Kn,Ko,?_,?_⟩
  ·refine ⟨by exact E7,Kh,?_⟩
   rw [Ua _ _ hlt]
   exact O1
  ·simp only;omega
 ·obtain rfl:k=p.length:=by omega
  rw [List.take_length] at O1
  focus
   refine Vt<|Vr<|Vz Z<|Yj v Z<|Ys Jm Z h<|Yy Z<|Vp<|Vv Z fun h1=>?_;refine Xm ?_;refine Yn ?_;refine Vt<|Ym<|Yj u Z<|Uc u Z<|Vp<|Vy ?_;exact ⟨E2,O1.toB.o.mono Kh⟩
theorem l11Copy_ok (w:World) (u1 u2:Value) (now:List (List Int)) (past:List (List (List Int))) (h1:ESl Ints w u1 now) (h2:ESl (ESl Ints) w u2 past) (hn:now.length≤100∧∀ r ∈ now,r.length≤100) (hpl:past.length≤100) (hp : ∀ p ∈ past,p.length≤100∧∀ r ∈ p,r.length≤100) :
  Dz 60 [.agg #[u1,u2]] w (RetDk w 23 88 3 now past):=by
 have k1 : ∀ (w:World) (v:Value),ESl Ints w v now→Dz 113 [v] w (RetO w XR now):=fun w v h=>l11Rows_ok w v now h hn.1 hn.2
 have k2 : ∀ (k:Nat) (hk:k < past.length) (w:World) (v:Value),ESl Ints w v past[k]→Dz 113 [v] w (RetO w XR past[k]):=fun k hk w v h=>l11Rows_ok w v _ h (hp _ (List.getElem_mem hk)).1 (hp _ (List.getElem_mem hk)).2
 refine fn_of_Wc Tryz.func60 Z Tryz.results60 Tryz.ntmps60 Z Jq Jj ?_
 focus
  refine Vr<|Xu Z Z Z ?_;rintro b1 w1 H1 E1 B1;have:=B1.lt;refine Xk Z Ug ?_;rintro b2 w2 H2 E2 B2;have:=B2.lt;have:=E2.Z;refine Vp<|Vr<|Yl Jt Jx Z<|Xw u1 Ju (B1.J E2) Z<|Vs Z (Xh (a:=u1) Tryz.call113 Z) (k1 _ _ (Ku exq h1)) ?_;rintro u3 w3 ⟨E3,O1⟩;have ichO1:=Kx (Je O1);have:=E3.Z;refine Wo Z (opv_buildF0 Ug Z (Kx O1.toB))<|Xk Z Ug ?_;rintro b3 w4 H3 E4 B3;have:=B3.lt;have:=E4.Z;refine Uu Z Jj Z Z Kl Kl B3 Kh (((E1.K E2).K E3).K E4) ?_;rintro w5 E5 B3 K1 Z1;have E6:=((E2.K E3).K E4).A exq E5 K1 Z1 Kh;have:=E6.Z
  have E7:=(E3.K E4).A exq E5 K1 Z1 Kh;have:=E7.Z;have E8:=E4.A exq E5 K1 Z1 Kh;simp only [List.set] at B3;have B1:=(B1.J exq).Y (K1 _ Kh);have B2:=(B2.J exq).Y (K1 _ Kh);have O1:=(O1.toB.J E4).W K1 Kh;refine Vp<|Vt<|Vr<|Yx Z<|Vp<|Yb ?_
 have O0:Owned w4.heap.size (XSl 23 XR) w5 (.slice none 0 0) ([]:List (List (List Int))):=Owned.nil
 have hN:=O1
 clear O1 B1 B2 k1
 refine Xt [4,9,10,11,12,13,14,15,16,17,18,19,20,21,22,23,24,25,26] (fun ((k,u):Nat × Value)=>[(4,.int .i64 (k:Nat))]) (fun (k,u) w'=>Ext w3 w'∧k≤past.length∧w4.heap.size≤w'.heap.size∧Blk w' b3 [u3,u]∧Owned w4.heap.size (XSl 23 XR) w' u (past.take k)∧OwnedB w2.heap.size w3.heap.size XR w' u3 now) (fun x=>past.length - x.1) (0,.slice none 0 0) Kn ?_ ?_
 ·exact ⟨by exact E8,Ja _,Kh,B3,by simpa using O0,hN⟩
 clear O0 B3 hN
 rintro ⟨k,u⟩ ρj w6 ⟨E6,hk,hsz,B4,O1,hN⟩
 have icu:isCell u=true:=Kx O1.toB
 have hlt':(past.take k).length=k:=Kg
 by_cases hlt:k < past.length
 ·have k2k:=k2 k hlt
  have ht:=Ua _ _ hlt
  have heldS:w=w:=rfl
  focus
   have:=E5.Z;have:=E4.Z;refine Vt<|Vt<|Ym<|Vz Z<|Yl Jt Ga Z<|Xw u2 Gd (B1.J exq) Z<|Ys Gc Z h2<|Yy Z<|Vp<|Vu Z (fun h3=>?_) (fun h3=>?_);refine Vw<|Vt<|Yb<|Rm (fun w'=>Ext w w') mixed Z Ki ?_;intro w7 E9 K2 Z2;have:=E9.Z;refine Sw 0 Jt Ga Z Z exq<|Sw 2 Jt Ga Z Z exq<|Mb 4 Z Z exq<|Wha [1,3]<|Yg Z ?_ ?_
   refine Xw u Gd (B4.J E9) Z<|Wnx exq<|Wha [3]<|Wh1 Z<|Xw u2 Gd (B1.J exq) Z<|Wnx exq<|Wh_get 5 6 Z Ki Ki Z Z Ki Ki (fun _=>Z) Gc Jx Ju Z h2 (fun w' hw'=>Ext.trans (Jf _) hw') Z Km exq ?_;rintro _ u4 C1;refine Wha [7]<|Wh1 Z<|Vs Z (Xh (a:=u4) Tryz.call113 Z) (k2k _ _ (Ku exq C1)) ?_;rintro u5 w8 ⟨E10,O2⟩;have:=E10.Z;refine Wnx exq<|Wha [8]<|Wh1 Z<|Qc Z Gc Jx Ze Z (Kx O2.toB) Z ?_;rintro b4 w9 H4 E11 B5 Y4;have:=B5.lt;have:=E11.Z
   refine Wnx exq<|Wha [9]<|Wh1 Z<|Ur Z el24 Z Z B5 (O1.toB.J ((E9.K E10).K E11)) (O2.toB.J E11).o Kh Km Kh Kh ((((((E1.K E2).K E3).K E6).K E9).K E10).K E11) Kh ?_;have T1:=(O1.toB.J ((E9.K E10).K E11));rintro v1 w10 O1 E12 M1;have E15:=M1.J T1 (((E6.K E9).K E10).K E11) Kh;have B4:=(B4.J exq).moves M1 T1 Kh;have hN:=(hN.J exq).moves M1 T1 Kh;have:=M1.1.size;refine Wnx E12<|Sw 10 Jt Ga Z Z E12<|Wha [11]<|Wh1 Z<|Um (v:=v1) Z Ga Z Z (Kx O1.toB) B4 Kp Kh E12 ?_;rintro w11 E16 B4 K3 Z3;have E19:=E15.A E12 E16 K3 Z3 Kh;simp only [List.set] at B4;have O1:=O1.toB.W K3 Kh
   have hN:=hN.W K3 Kh;refine Wnx E16<|Yp Ki ?_;refine Ym<|Vz Z<|Xf Z<|Yx Z<|Vp ?_;rotate_left;refine Wh1 Z<|Xw u2 Gd (B1.J exq) Z<|Wnx exq<|Wh_get 5 6 Z Ki Ki Z Z Ki Ki (fun _=>Z) Gc Jx Ju Z h2 (fun w' hw'=>Ext.trans (Jf _) hw') Z Km exq ?_;rintro _ u4 C1;refine Wha [1,7]<|Yg Z ?_ ?_;refine Xw u Gd (B4.J E9) Z<|Wnx exq<|Wha [7]<|Wh1 Z<|Vs Z (Xh (a:=u4) Tryz.call113 Z) (k2k _ _ (Ku exq C1)) ?_;rintro u5 w8 ⟨E10,O2⟩;have:=E10.Z;refine Wnx exq<|Wha [8]<|Wh1 Z<|Qc Z Gc Jx Ze Z (Kx O2.toB) Z ?_
   rintro b4 w9 H4 E11 B5 Y4;have:=B5.lt;have:=E11.Z;refine Wnx exq<|Wha [9]<|Wh1 Z<|Ur Z el24 Z Z B5 (O1.toB.J ((E9.K E10).K E11)) (O2.toB.J E11).o Kh Km Kh Kh ((((((E1.K E2).K E3).K E6).K E9).K E10).K E11) Kh ?_;have T1:=(O1.toB.J ((E9.K E10).K E11));rintro v1 w10 O1 E12 M1;have E15:=M1.J T1 (((E6.K E9).K E10).K E11) Kh;have B4:=(B4.J exq).moves M1 T1 Kh;have hN:=(hN.J exq).moves M1 T1 Kh;have:=M1.1.size;refine Wnx E12<|Sw 10 Jt Ga Z Z E12<|Wha [11]<|Wh1 Z<|Um (v:=v1) Z Ga Z Z (Kx O1.toB) B4 Kp Kh E12 ?_;rintro w11 E16 B4 K3 Z3;have E19:=E15.A E12 E16 K3 Z3 Kh
   simp only [List.set] at B4;have O1:=O1.toB.W K3 Kh;have hN:=hN.W K3 Kh;refine Wnx E16<|Yp Ki ?_;refine Ym<|Vz Z<|Xf Z<|Yx Z<|Vp ?_;rotate_left;refine Wh1 Z<|Vs Z (Xh (a:=u4) Tryz.call113 Z) (k2k _ _ (Ku exq C1)) ?_;rintro u5 w8 ⟨E10,O2⟩;have:=E10.Z;refine Wnx exq<|Wha [1,8]<|Yg Z ?_ ?_;refine Xw u Gd (B4.J exq) Z<|Wnx exq<|Wha [8]<|Wh1 Z<|Qc Z Gc Jx Ze Z (Kx O2.toB) Z ?_;rintro b4 w9 H4 E11 B5 Y4;have:=B5.lt;have:=E11.Z
   refine Wnx exq<|Wha [9]<|Wh1 Z<|Ur Z el24 Z Z B5 (O1.toB.J ((E9.K E10).K E11)) (O2.toB.J E11).o Kh Km Kh Kh ((((((E1.K E2).K E3).K E6).K E9).K E10).K E11) Kh ?_;have T1:=(O1.toB.J ((E9.K E10).K E11));rintro v1 w10 O1 E12 M1;have E15:=M1.J T1 (((E6.K E9).K E10).K E11) Kh;have B4:=(B4.J exq).moves M1 T1 Kh;have hN:=(hN.J exq).moves M1 T1 Kh;have:=M1.1.size;refine Wnx E12<|Sw 10 Jt Ga Z Z E12<|Wha [11]<|Wh1 Z<|Um (v:=v1) Z Ga Z Z (Kx O1.toB) B4 Kp Kh E12 ?_;rintro w11 E16 B4 K3 Z3;have E19:=E15.A E12 E16 K3 Z3 Kh;simp only [List.set] at B4;have O1:=O1.toB.W K3 Kh
   have hN:=hN.W K3 Kh;refine Wnx E16<|Yp Ki ?_;refine Ym<|Vz Z<|Xf Z<|Yx Z<|Vp ?_;rotate_left;refine Wh1 Z<|Qc Z Gc Jx Ze Z (Kx O2.toB) Z ?_;rintro b4 w9 H4 E11 B5 Y4;have:=B5.lt;have:=E11.Z;refine Wnx exq<|Wha [1]<|Wh1 Z<|Xw u Gd (B4.J exq) Z<|Wnx exq<|Wha [9]<|Wh1 Z<|Ur Z el24 Z Z B5 (O1.toB.J ((E9.K E10).K E11)) (O2.toB.J E11).o Kh Km Kh Kh ((((((E1.K E2).K E3).K E6).K E9).K E10).K E11) Kh ?_;have T1:=(O1.toB.J ((E9.K E10).K E11));rintro v1 w10 O1 E12 M1;have E15:=M1.J T1 (((E6.K E9).K E10).K E11) Kh
   have B4:=(B4.J exq).moves M1 T1 Kh;have hN:=(hN.J exq).moves M1 T1 Kh;have:=M1.1.size;refine Wnx E12<|Sw 10 Jt Ga Z Z E12<|Wha [11]<|Wh1 Z<|Um (v:=v1) Z Ga Z Z (Kx O1.toB) B4 Kp Kh E12 ?_;rintro w11 E16 B4 K3 Z3;have E19:=E15.A E12 E16 K3 Z3 Kh;simp only [List.set] at B4;have O1:=O1.toB.W K3 Kh;have hN:=hN.W K3 Kh;refine Wnx E16<|Yp Ki ?_;refine Ym<|Vz Z<|Xf Z<|Yx Z<|Vp ?_;rotate_left;exact Kt
  ·refine ⟨(k+1,v1),Kn,Ko,?_,?_⟩
   ·refine ⟨by exact E19,Kh,Kh,B4,?_,hN⟩
    rw [ht];exact O1.o
   ·simp only;omega
  ·refine ⟨(k+1,v1),Kn,Ko,?_,?_⟩
   ·refine ⟨by exact E19,Kh,Kh,B4,?_,hN⟩
    rw [ht];exact O1.o
   ·simp only;omega
  ·refine ⟨(k+1,v1),Kn,Ko,?_,?_⟩
   ·refine ⟨by exact E19,Kh,Kh,B4,?_,hN⟩
    rw [ht];exact O1.o
   ·simp only;omega
  ·refine ⟨(k+1,v1),Kn,Ko,?_,?_⟩
   ·refine ⟨by exact E19,Kh,Kh,B4,?_,hN⟩
    rw [ht];exact O1.o
   ·simp only;omega
 ·obtain rfl:k=past.length:=by omega
  rw [List.take_length] at O1
  focus
   have:=E6.Z;have:=E4.Z;refine Vt<|Vt<|Ym<|Vz Z<|Yl Jt Ga Z<|Xw u2 Gd (B1.J exq) Z<|Ys Gc Z h2<|Yy Z<|Vp<|Vv Z fun h3=>?_;refine Xm ?_;refine Yn ?_;refine Vr<|Uh Jq Jj B4 Z<|Uu Z Jj Z Z Kl Kl (B2.J (E3.K E6)) Kh (((E1.K E2).K E3).K E6) ?_;rintro w7 E9 B2 K2 Z2;have hN:=hN.W K2 Kh;have O1:=O1.toB.W K2 Kh;refine Vp<|Vy ?_
  refine ⟨b2,u3,u,Z,Kk,u3,u,w3.heap.size,Z,by exact E9,?_,O1.o.mono Kh,Kh,Kh⟩
  exact hN.wide Kh (Kz _)
end Go.Proofs.YtbgpppaljpngmaaGreatDoor
