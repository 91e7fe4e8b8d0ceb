/- Lemmas for FnDeskLine. -/
import Derived.Test.YtbgpppaljpngmaaGreatDoorMFnDeskLine6
namespace Go.Proofs.YtbgpppaljpngmaaGreatDoor
open Go.Hs
set_option maxRecDepth 10000
set_option maxHeartbeats 4000000
set_option linter.unusedVariables false
set_option linter.unusedSimpArgs false
open Go.Lib (decDigits)
def ynV (b:Bool):List UInt8:=if b then [121,101,115] else [110,111]
noncomputable def ask2 (p:List (List Int)) (wd r:List UInt8):List UInt8 :=
 if wd=[104,111,108,100,115]∧okF r=true then ynV (holdsV r p 0)
 else if wd=[104,97,115]∧(rdP r).isSome=true then ynV (hasV p 0 ((rdP r).getD []) 0)
 else if wd=[105,115]∧(rdP r).isSome=true then ynV (ssetV p 0 ((rdP r).getD []) 0)
 else [119,104,97,116]
noncomputable def askV (p:List (List Int)) (s:List UInt8):List UInt8 :=
 if s=[112,105,99,116,117,114,101] then 58::txt p
 else if s=[99,111,100,101] then (if (codeV p 0).2 then decDigits (codeV p 0).1.toNat else [110,111,110,101])
 else if s=[109,97,110,121] then decDigits (manyV p 0)
 else if s=[111,119,110] then ynV (hasV p 0 p 0)
 else if s=[100,101,101,112] then (if 0≤deepAtV p 0 then decDigits (deepAtV p 0).toNat else [110,111,110,101])
 else if s=[102,111,117,110,100,101,100] then decDigits (faV p).length
 else if (cutF 32 s).2.2 then ask2 p (cutF 32 s).1 (cutF 32 s).2.1
 else [119,104,97,116]
theorem codeV_nat (p:List (List Int)) (z:Int):(∃ c:Nat,c < 65536∧codeV p z=((c:Int),true))∨codeV p z=(-1,false):=by
 unfold codeV
 split
 ·cases h:cod p p.length z.toNat with
  | none=>exact .inr rfl
  | some c=>exact .inl ⟨c,cod_lt h,rfl⟩
 ·exact .inr rfl
theorem deepAtV_nat {p:List (List Int)} (hp:Pic p) (z:Int):(∃ c:Nat,c < 10∧deepAtV p z=(c:Int))∨deepAtV p z = -1:=by
 unfold deepAtV
 split
 ·rename_i h
  have h2:=h.1.2
  have h5:=hp.2.1
  have:=dpt_lt hp (r:=p.length) (k:=z.toNat) Ka Mr h.2
  exact .inl ⟨_,Ka,rfl⟩
 ·exact .inr rfl
theorem faV_le (p:List (List Int)):(ints (faV p)).length≤p.length:=by
 rw [Xo];unfold faV
 split
 ·exact Nat.le_trans (List.length_filter_le _ _) Ki
 ·simp
theorem manyV_le (p:List (List Int)) (a:Nat):manyV p a≤p.length:=by
 unfold manyV
 exact Nat.le_trans (List.length_filter_le _ _) Ki
theorem yesNo_ok (w:World) (b:Bool):Does Tryz.prog 156 [.bool b] w (Ret w (str (ynV b))):=by
 cases b with
 | true =>
   refine Vu Tryz.func156 Z Tryz.results156 Tryz.ntmps156 Z ?_
   focus
     refine Zu<|Yu Z<|Zs<|Zw<|Zu<|Yt Z<|Zs<|Yi Z ?_; refine Zu<|Yu Z<|Zs<|Vb ?_; exact ⟨rfl, (Ext.refl _)⟩
 | false =>
   refine Vu Tryz.func156 Z Tryz.results156 Tryz.ntmps156 Z ?_
   focus
     refine Zu<|Yu Z<|Zs<|Zw<|Zu<|Yt Z<|Zs<|Va Z ?_; refine Zz<|Zu<|Yu Z<|Zs<|Vb ?_; exact ⟨rfl, (Ext.refl _)⟩
theorem CodeAtN_ok (w:World) (v:Value) (p:List (List Int)) (h:ESl Ints w v p) (hp:Pic p):Does Tryz.prog 155 [v,.int .i64 0] w (Ret w (.tuple #[.int .i64 (codeV p 0).1,.bool (codeV p 0).2])):=by
 have hz:Nod p 0:=⟨hp,by have:=hp.1;omega⟩
 cases hc:cback p (0:Int).toNat with
 | false=>exact CodeAt_ok w v p h 0 hz hc
 | true =>
   have e : codeV p 0 = (-1, false) := if_neg fun h => by rw [hc] at h; exact absurd h.2 Kc
   have k1 : ∀ (w : World) (pv : Value), ESl Ints w pv p → Does Tryz.prog 94 [pv, .int .i64 0] w (Ret w (.bool true)) := fun w pv h => by
     have := Ro w pv p h 0
     rw [decide_eq_true hz] at this; exact this
   have k2 : ∀ (w : World) (pv : Value), ESl Ints w pv p → Does Tryz.prog 187 [pv, .int .i64 0] w (Ret w (.bool true)) := fun w pv h => by
     have := Nf w pv p h hp 0 (by have := hp.1; omega)
     rw [show cback p 0 = true from hc] at this; exact this
   rw [e]
   refine Ue Tryz.func155 Z Tryz.results155 Tryz.ntmps155 Z ?_
   focus
     refine Zu<|Yb Z<|Vd Z<|Zs<|Zw<|Zu<|Vm v Z<|Vc Z<|Zv Z (Yd (a := v) (b := .int _ _) Gg Z Z) (k1 _ _ (h)) ?_; rintro _ w1 ⟨rfl, E1⟩; refine Xd Z<|Xi Z (Yh (v := .bool _) Z) (fun h1 => ?_) (fun h1 => ?_); contradiction; refine Vm v Z<|Vc Z<|Zv Z (Yd (a := v) (b := .int _ _) Zn Z Z) (k2 _ _ ((Mono.mono E1 h))) ?_; rintro _ w2 ⟨rfl, E2⟩; refine Ye Z<|Zs<|Yi Z ?_; refine Zu<|Yb Z<|Vd Z<|Zs<|Vb ?_; exact ⟨rfl, exq⟩
open Classical in
theorem asked_ok (w:World) (hM:EMx gMx w (.bool true) ()) (hT:ETb w (.bool true) ()) (v:Value) (p:List (List Int)) (h:ESl Ints w v p) (hp:Pic p) (s:List UInt8) (hs:s.length≤1048576):Does Tryz.prog 112 [v,str s] w (Ret w (str (askV p s))):=by
 have hp1:=hp.1
 have hp5:=hp.2.1
 have hfl:=faV_le p
 have hml:=manyV_le p 0
 have c1 : ∀ (w:World) (v:Value),ESl Ints w v p→Does Tryz.prog 79 [v] w (Ret w (str (txt p))):=fun w v h=>Te w v p h hp
 have c3 : ∀ (w:World) (v:Value),ESl Ints w v p→Does Tryz.prog 95 [v,.int .i64 0] w (Ret w (.int .i64 (manyV p 0:Int))):=fun w v h=>manyIn_ok w v p h hp 0 Ka
 have c4 : ∀ (w:World) (v u:Value),ESl Ints w v p→ESl Ints w u p→Does Tryz.prog 96 [v,.int .i64 0,u,.int .i64 0] w (Ret w (.bool (hasV p 0 p 0))):=fun w v u h h'=>hasSet_ok w v u p p h h' hp hp 0 0 Ka Ka
 have c6 : ∀ (w:World) (v:Value),ESl Ints w v p→Does Tryz.prog 158 [v] w (RetO w XI (ints (faV p))):=fun w v h=>foundedAll_ok w v p h hp
 have cI : ∀ (w:World) (n:Nat),n≤1000000→ETb w (.bool true) ()→Does Tryz.prog 131 [.int .i64 (n:Int)] w (Ret w (str (decDigits n))):=fun w n hn hT=>ItoaN_ok w hT n hn
 have cF : ∀ (w:World),ETb w (.bool true) ()→Does Tryz.prog 131 [.int .i64 ((ints (faV p)).length:Int)] w (Ret w (str (decDigits (faV p).length))):=fun w hT=>by
  rw [Xo] at hfl ⊢
  exact ItoaN_ok w hT _ Ka
 have cM : ∀ (w:World),ETb w (.bool true) ()→Does Tryz.prog 131 [.int .i64 (manyV p 0:Int)] w (Ret w (str (decDigits (manyV p 0)))):=fun w hT=>cI w _ Ka hT
 have htx:=Mq hp.gr
 refine Vu Tryz.func112 Z Tryz.results112 Tryz.ntmps112 Z ?_
 have stop5:True:=trivial
 have stop14:True:=trivial
 have stop20:True:=trivial
 focus
  refine Zu<|Yu Z<|Zs<|Zw<|Zu<|Vy Z<|Zs<|Ve<|Zu<|Wo Z (Vl Z Z)<|Vd Z<|Zs<|Zx Z (fun h1=>?_) (fun h1=>?_);refine Zu<|Vm v Z<|Zv Z (Yl (a:=v) Tryz.call79 Z) (c1 _ _ (h)) ?_;rintro _ w1 ⟨rfl,E1⟩;refine Wo Z (Ya Z Z (by simp <;> omega)) ?_;refine Yu Z<|Zs<|Vb ?_;refine Vk (v:=.string _) Z ?_;refine ⟨congrArg str ?_,E1⟩;rotate_left;refine Zu<|Wo Z (Vl Z Z)<|Vd Z<|Zs<|Zx Z (fun h2=>?_) (fun h2=>?_);refine Zw<|Zw ?_;rotate_left;refine Zu<|Wo Z (Vl Z Z)<|Vd Z<|Zs<|Zx Z (fun h3=>?_) (fun h3=>?_);refine Zu<|Vm v Z<|Zv Z (Yd (a:=v) (b:=.int _ _) Tryz.call95 Z Z) (c3 _ _ (h)) ?_;rintro _ w1 ⟨rfl,E1⟩
  refine Zv Z (Yl (a:=.int _ _) Zm Z) (cM _ ((Mono.mono E1 hT))) ?_;rintro _ w2 ⟨rfl,E2⟩;refine Yu Z<|Zs<|Vb ?_;refine Vk (v:=.string _) Z ?_;refine ⟨congrArg str ?_,exq⟩;rotate_left;refine Zu<|Wo Z (Vl Z Z)<|Vd Z<|Zs<|Zx Z (fun h4=>?_) (fun h4=>?_);refine Zw<|Vq<|Vm v Z<|Vm v Z<|Zv Z (Rx (a:=v) (b:=.int _ _) (c:=v) (d:=.int _ _) Tryz.call96 Z Z Z Z) (c4 _ _ _ (h) (h)) ?_;rintro _ w1 ⟨rfl,E1⟩;refine Zv Z (Yl (a:=.bool _) Zb Z) (yesNo_ok _ _) ?_;rintro _ w2 ⟨rfl,E2⟩;refine Yu Z<|Zs<|Vb ?_;refine Vk (v:=.string _) Z ?_;refine ⟨congrArg str ?_,exq⟩;rotate_left;refine Zu<|Wo Z (Vl Z Z)<|Vd Z<|Zs<|Zx Z (fun h5=>?_) (fun h5=>?_)
  refine Zw<|Zw ?_;rotate_left;refine Zu<|Wo Z (Vl Z Z)<|Vd Z<|Zs<|Zx Z (fun h6=>?_) (fun h6=>?_);refine Zu<|Vm v Z<|Zv Z (Yl (a:=v) Tryz.call158 Z) (c6 _ _ (h)) ?_;rintro u1 w1 ⟨E1,hO1⟩;refine Vv Ko Z (Owned.read hO1)<|Zv Z (Yl (a:=.int _ _) Zm Z) (cF _ ((Mono.mono E1 hT))) ?_;rintro _ w2 ⟨rfl,E2⟩;refine Yu Z<|Zs<|Vb ?_;refine Vk (v:=.string _) Z ?_;refine ⟨congrArg str ?_,exq⟩;rotate_left;refine Zz<|Zw ?_;rotate_left
 ·unfold askV;rw [if_pos Kd];rfl
 ·clear stop5 stop14 stop20
  have ea:askV p s=if (codeV p 0).2 then decDigits (codeV p 0).1.toNat else [110,111,110,101]:=by
   unfold askV;rw [if_neg Kd,if_pos Kd]
  rw [ea]
  have c2 : ∀ (w:World) (v:Value),ESl Ints w v p→Does Tryz.prog 155 [v,.int .i64 0] w (Ret w (.tuple #[.int .i64 (codeV p 0).1,.bool (codeV p 0).2])):=fun w v h=>CodeAtN_ok w v p h hp
  rcases codeV_nat p 0 with ⟨c,hc,e⟩ | e
  ·rw [e] at c2 ⊢
   have cC:=fun w hT=>cI w c Ka hT
   focus
    refine Vq<|Vm v Z<|Zv Z (Yd (a:=v) (b:=.int _ _) Tryz.call155 Z Z) (c2 _ _ (h)) ?_;rintro _ w1 ⟨rfl,E1⟩;refine Xx Z<|WsxI Z<|Uf Z<|Yb Z<|Vd Z<|Zs<|Zu<|Yt Z<|Zs<|Yi Z ?_;refine Zw<|Vq<|Vc Z<|Zv Z (Yl (a:=.int _ _) Zm Z) (cC _ ((Mono.mono E1 hT))) ?_;rintro _ w2 ⟨rfl,E2⟩;refine Yu Z<|Zs<|Vb ?_;exact ⟨rfl,exq⟩
  ·rw [e] at c2 ⊢
   focus
    refine Vq<|Vm v Z<|Zv Z (Yd (a:=v) (b:=.int _ _) Tryz.call155 Z Z) (c2 _ _ (h)) ?_;rintro _ w1 ⟨rfl,E1⟩;refine Xx Z<|WsxI Z<|Uf Z<|Yb Z<|Vd Z<|Zs<|Zu<|Yt Z<|Zs<|Va Z ?_;refine Zz<|Zu<|Yu Z<|Zs<|Vb ?_;exact ⟨rfl,E1⟩
 ·unfold askV;rw [if_neg Kd,if_neg Kd,if_pos Kd]
 ·unfold askV;rw [if_neg Kd,if_neg Kd,if_neg Kd,if_pos Kd]
 ·clear stop5 stop14 stop20
  have ea:askV p s=if 0≤deepAtV p 0 then decDigits (deepAtV p 0).toNat else [110,111,110,101]:=by
   unfold askV;rw [if_neg Kd,if_neg Kd,if_neg Kd,if_neg Kd,if_pos Kd]
  rw [ea]
  have c5 : ∀ (w:World) (v:Value),ESl Ints w v p→Does Tryz.prog 157 [v,.int .i64 0] w (Ret w (.int .i64 (deepAtV p 0))):=fun w v h=>impl_DeepAt_ok w v p h 0
  rcases deepAtV_nat hp 0 with ⟨c,hc,e⟩ | e
  ·rw [e] at c5 ⊢
   rw [if_pos Ka]
   have cC:=fun w hT=>cI w c Ka hT
   focus
    refine Vq<|Vm v Z<|Zv Z (Yd (a:=v) (b:=.int _ _) Tryz.call157 Z Z) (c5 _ _ (h)) ?_;rintro _ w1 ⟨rfl,E1⟩;refine Yb Z<|Zs<|Zu<|Vc Z<|Qy Z<|Zs<|Zx Z (fun h6=>?_) (fun h6=>?_);refine Zu<|Vc Z<|Zv Z (Yl (a:=.int _ _) Zm Z) (cC _ ((Mono.mono E1 hT))) ?_;rintro _ w2 ⟨rfl,E2⟩;refine Yu Z<|Zs<|Vb ?_;exact ⟨rfl,exq⟩;(exfalso;omega)
  ·rw [e] at c5 ⊢
   rw [if_neg Ka]
   focus
    refine Vq<|Vm v Z<|Zv Z (Yd (a:=v) (b:=.int _ _) Tryz.call157 Z Z) (c5 _ _ (h)) ?_;rintro _ w1 ⟨rfl,E1⟩;refine Yb Z<|Zs<|Zu<|Vc Z<|Qy Z<|Zs<|Vw Z fun h6=>?_;refine Zz<|Zu<|Yu Z<|Zs<|Vb ?_;exact ⟨rfl,E1⟩
 ·unfold askV;rw [if_neg Kd,if_neg Kd,if_neg Kd,if_neg Kd,if_neg Kd,if_pos Kd]
 clear stop5 stop14 stop20
 have ea:askV p s=if (cutF 32 s).2.2 then ask2 p (cutF 32 s).1 (cutF 32 s).2.1 else [119,104,97,116]:=by
  unfold askV;rw [if_neg Kd,if_neg Kd,if_neg Kd,if_neg Kd,if_neg Kd,if_neg Kd]
 rw [ea]
 have hRl:(cutF 32 s).2.1.length≤1048576:=by have:=(cutF_len 32 s).2;omega
 have c7 : ∀ w,EMx gMx w (.bool true) ()→Does Tryz.prog 102 [str s,str [32]] w (Ret w (.tuple #[str (cutF 32 s).1,str (cutF 32 s).2.1,.bool (cutF 32 s).2.2])):=fun w hM=>Cut_ok w s 32 hM hs
 clear ea c1 c3 c4 c6 cF cM
 generalize (cutF 32 s).1=wd at *
 generalize (cutF 32 s).2.1=R at *
 generalize (cutF 32 s).2.2=H at *
 cases H with
 | false => focus
              refine Qa Z ?_; refine Wo Z (Yh (v := .string _) Z) ?_; refine Zv Z (Yd (a := .string _) (b := .string _) Zo Z Z) (c7 _ (hM)) ?_; rintro _ w1 ⟨rfl, E1⟩
              refine Wo Z (Yh (v := .tuple _) Z) ?_; refine Wo Z (Rd (v := .string _) Z Z) ?_; refine Wo Z (Rd (v := .string _) Z Z) ?_; refine Wo Z (Rd (v := .bool _) Z Z) ?_
              refine Wo Z (Xw (v := .string _) Z) ?_; refine Wo Z (Xw (v := .string _) Z) ?_; refine Wo Z (Xw (v := .bool _) Z) ?_; refine Zs ?_; refine Zw ?_; refine Zw ?_; refine Qa Z ?_
              refine Wo Z (Yh (v := .bool _) Z) ?_; refine Wo Z (opv_not Z) ?_; refine Zs ?_; refine Xr Z (fun h7 => ?_) (fun h7 => ?_); refine Zw ?_; refine Qa Z ?_
              refine Wo Z (Xw (v := .string _) Z) ?_; refine Zs ?_; refine Vb ?_; exact ⟨rfl, E1⟩; contradiction
 | true =>
   have hRl' : R.length ≤ lim := by unfold lim; omega
   have c8 : ∀ w, EMx gMx w (.bool true) () → Does Tryz.prog 150 [str R] w (RetOB w XR ((rdP R).getD []) (rdP R).isSome) := fun w hM => Np w R hM hRl
   have yn := yesNo_ok
   cases hq : rdP R with
   | none =>
     rw [hq] at c8
     cases hf : theF R with
     | none =>
       have c9 : ∀ w, Does Tryz.prog 159 [str R] w (Ret w (.pointer none)) := fun w => Mc R w hRl' hf
       have ho : okF R = false := by unfold okF; rw [hf]; rfl
       have ea : ask2 p wd R = [119, 104, 97, 116] := by unfold ask2; rw [ho, hq]; simp
       rw [if_pos rfl, ea]
       focus
         refine Vq<|Vy Z<|Zv Z (Yd (a := .string _) (b := .string _) Zo Z Z) (c7 _ (hM)) ?_; rintro _ w1 ⟨rfl, E1⟩; refine Xx Z<|Ru Z<|Ru Z<|Uf Z<|Yu Z<|Yu Z<|Vd Z<|Zs<|Zw<|Zu<|Yt Z<|Xd Z<|Zs<|Xn Z fun h7 => ?_; refine Zz<|Zu<|Vy Z<|Zv Z (Yl (a := .string _) Gb Z) (c8 _ ((Mono.mono E1 hM))) ?_; rintro _ w2 ⟨u1, rfl, E2, hO1⟩; refine Xx Z<|Qh u1 Z<|Uf Z<|Xg u1 Z<|Vd Z<|Zs<|Zu<|Vy Z<|Zv Z (Yl (a := .string _) Tryz.call159 Z) (c9 _) ?_; rintro _ w3 ⟨rfl, E3⟩; refine Us Z<|Zs<|Zw<|Ve<|Zu<|Vy Z<|Wo Z (Vl Z Z)<|Ym Z (fun h8 => ?_) (fun h8 => ?_)
         refine Ua Z<|Wo Z (opv_neq_nil Jm Z Z)<|Xb Z<|Vd Z<|Zs<|Va Z ?_; refine Zw<|Vq<|Vy Z<|Wo Z (Vl Z Z)<|Ym Z (fun h9 => ?_) (fun h9 => ?_); refine Yt Z<|Xb Z<|Vd Z<|Zs<|Xn Z fun h10 => ?_; refine Zu<|Vy Z<|Wo Z (Vl Z Z)<|Ym Z (fun h11 => ?_) (fun h11 => ?_); refine Yt Z<|Xb Z<|Vd Z<|Zs<|Xn Z fun h12 => ?_; refine Zz<|Zu<|Yu Z<|Zs<|Vb ?_; exact ⟨rfl, exq⟩; refine Zt Z<|Ye Z<|Vd Z<|Zs<|Va Z ?_; refine Zz<|Zu<|Yu Z<|Zs<|Vb ?_; exact ⟨rfl, exq⟩; refine Zt Z<|Ye Z<|Vd Z<|Zs<|Va Z ?_
         refine Zu<|Vy Z<|Wo Z (Vl Z Z)<|Ym Z (fun h10 => ?_) (fun h10 => ?_); refine Yt Z<|Xb Z<|Vd Z<|Zs<|Xn Z fun h11 => ?_; refine Zz<|Zu<|Yu Z<|Zs<|Vb ?_; exact ⟨rfl, exq⟩; refine Zt Z<|Ye Z<|Vd Z<|Zs<|Va Z ?_; refine Zz<|Zu<|Yu Z<|Zs<|Vb ?_; exact ⟨rfl, exq⟩; refine Zt Z<|Zt Z<|Ye Z<|Vd Z<|Zs<|Va Z ?_; refine Zu<|Vy Z<|Wo Z (Vl Z Z)<|Ym Z (fun h9 => ?_) (fun h9 => ?_); refine Yt Z<|Xb Z<|Vd Z<|Zs<|Xn Z fun h10 => ?_; refine Zu<|Vy Z<|Wo Z (Vl Z Z)<|Ym Z (fun h11 => ?_) (fun h11 => ?_); refine Yt Z<|Xb Z<|Vd Z<|Zs<|Xn Z fun h12 => ?_
         refine Zz<|Zu<|Yu Z<|Zs<|Vb ?_; exact ⟨rfl, exq⟩; refine Zt Z<|Ye Z<|Vd Z<|Zs<|Va Z ?_; refine Zz<|Zu<|Yu Z<|Zs<|Vb ?_; exact ⟨rfl, exq⟩; refine Zt Z<|Ye Z<|Vd Z<|Zs<|Va Z ?_; refine Zu<|Vy Z<|Wo Z (Vl Z Z)<|Ym Z (fun h10 => ?_) (fun h10 => ?_); refine Yt Z<|Xb Z<|Vd Z<|Zs<|Xn Z fun h11 => ?_; refine Zz<|Zu<|Yu Z<|Zs<|Vb ?_; exact ⟨rfl, exq⟩; refine Zt Z<|Ye Z<|Vd Z<|Zs<|Va Z ?_; refine Zz<|Zu<|Yu Z<|Zs<|Vb ?_; exact ⟨rfl, exq⟩
     | some f =>
       have c9 := fun w => Mi R w f hf
       have ho : okF R = true := by unfold okF; rw [hf]; rfl
       have c10 : ∀ (w : World) (v pv : Value), EFm w v f → ESl Ints w pv p → Does Tryz.prog 160 [v, pv, .int .i64 0] w (Ret w (.bool (holdsV R p 0))) := fun w v pv h1 h2 => by
         have := holds_ok p hp f w v pv 0 h1 h2 ⟨Ka, Ka⟩ (by have := theF_some.1 hf; rw [← this.1]; omega)
         rwa [show holdsV R p 0 = f.holds p (0 : Int).toNat by unfold holdsV; rw [hf]; simp [show Nod p 0 from ⟨hp, Ka⟩]]
       have ea : ask2 p wd R = if wd = [104, 111, 108, 100, 115] then ynV (holdsV R p 0) else [119, 104, 97, 116] := by unfold ask2; rw [ho, hq]; simp
       rw [if_pos rfl, ea]
       focus
         refine Vq<|Vy Z<|Zv Z (Yd (a := .string _) (b := .string _) Zo Z Z) (c7 _ (hM)) ?_; rintro _ w1 ⟨rfl, E1⟩; refine Xx Z<|Ru Z<|Ru Z<|Uf Z<|Yu Z<|Yu Z<|Vd Z<|Zs<|Zw<|Zu<|Yt Z<|Xd Z<|Zs<|Xn Z fun h7 => ?_; refine Zz<|Zu<|Vy Z<|Zv Z (Yl (a := .string _) Gb Z) (c8 _ ((Mono.mono E1 hM))) ?_; rintro _ w2 ⟨u1, rfl, E2, hO1⟩; refine Xx Z<|Qh u1 Z<|Uf Z<|Xg u1 Z<|Vd Z<|Zs<|Zu<|Vy Z<|Zv Z (Yl (a := .string _) Tryz.call159 Z) (c9 _) ?_; rintro _ w3 ⟨E3, y1, rfl, hy1⟩; refine Us Z<|Zs<|Zw<|Ve<|Zu<|Vy Z<|Wo Z (Vl Z Z)<|Ym Z (fun h8 => ?_) (fun h8 => ?_)
         refine Ua Z<|Wo Z (opv_neq_some Jm Z Z)<|Xb Z<|Vd Z<|Zs<|Yi Z ?_; refine Zw<|Vq<|Ua Z<|Vm v Z<|Zv Z (Uv (a := .pointer _) (b := v) (c := .int _ _) Za Z Z Z) (c10 _ _ _ ((Above.here hy1)) ((Mono.mono exq h))) ?_; rintro _ w4 ⟨rfl, E4⟩; refine Zv Z (Yl (a := .bool _) Zb Z) (yn _ _) ?_; rintro _ w5 ⟨rfl, E5⟩; refine Yu Z<|Zs<|Vb ?_; refine Vk (v := .string _) Z ?_; refine ⟨congrArg str ?_, exq⟩; rotate_left; refine Zt Z<|Zt Z<|Ye Z<|Vd Z<|Zs<|Va Z ?_; refine Zu<|Vy Z<|Wo Z (Vl Z Z)<|Ym Z (fun h9 => ?_) (fun h9 => ?_); refine Yt Z<|Xb Z<|Vd Z<|Zs<|Xn Z fun h10 => ?_
         refine Zu<|Vy Z<|Wo Z (Vl Z Z)<|Ym Z (fun h11 => ?_) (fun h11 => ?_); refine Yt Z<|Xb Z<|Vd Z<|Zs<|Xn Z fun h12 => ?_; refine Zz<|Zu<|Yu Z<|Zs<|Vb ?_; refine Vk (v := .string _) Z ?_; refine ⟨congrArg str ?_, exq⟩; rotate_left; refine Zt Z<|Ye Z<|Vd Z<|Zs<|Va Z ?_; refine Zz<|Zu<|Yu Z<|Zs<|Vb ?_; refine Vk (v := .string _) Z ?_; refine ⟨congrArg str ?_, exq⟩; rotate_left; refine Zt Z<|Ye Z<|Vd Z<|Zs<|Va Z ?_; refine Zu<|Vy Z<|Wo Z (Vl Z Z)<|Ym Z (fun h10 => ?_) (fun h10 => ?_); refine Yt Z<|Xb Z<|Vd Z<|Zs<|Xn Z fun h11 => ?_; refine Zz<|Zw<|Vq<|Yu Z<|Zs<|Vb ?_
         refine Vk (v := .string _) Z ?_; refine ⟨congrArg str ?_, exq⟩; rotate_left; refine Zt Z<|Ye Z<|Vd Z<|Zs<|Va Z ?_; refine Zz<|Zu<|Yu Z<|Zs<|Vb ?_; refine Vk (v := .string _) Z ?_; refine ⟨congrArg str ?_, exq⟩; rotate_left
       all_goals first | rw [if_pos Kd] | rw [if_neg Kd]
   | some q =>
     rw [hq] at c8
     have hqp := (Sr hq).1
     have hq1 := hqp.1
     have c11 : ∀ (w : World) (v u : Value), ESl Ints w v p → ESl Ints w u q → Does Tryz.prog 96 [v, .int .i64 0, u, .int .i64 0] w (Ret w (.bool (hasV p 0 q 0))) := fun w v u h h' => hasSet_ok w v u p q h h' hp hqp 0 0 Ka Ka
     have c12 : ∀ (w : World) (v u : Value), ESl Ints w v p → ESl Ints w u q → Does Tryz.prog 148 [v, .int .i64 0, u, .int .i64 0] w (Ret w (.bool (ssetV p 0 q 0))) := fun w v u h h' => by
       have := sameSet_ok w v u p q h h' hp hqp 0 0 Ka Ka
       rwa [show ssetV p 0 q 0 = decide (Bis p (0 : Int).toNat q (0 : Int).toNat) from decide_eq_decide.2 ⟨fun h => h.2.2, fun h => ⟨⟨hp, Ka⟩, ⟨hqp, Ka⟩, h⟩⟩]
     cases hf : theF R with
     | none =>
       have c9 : ∀ w, Does Tryz.prog 159 [str R] w (Ret w (.pointer none)) := fun w => Mc R w hRl' hf
       have ho : okF R = false := by unfold okF; rw [hf]; rfl
       have ea : ask2 p wd R = if wd = [104, 97, 115] then ynV (hasV p 0 q 0) else if wd = [105, 115] then ynV (ssetV p 0 q 0) else [119, 104, 97, 116] := by unfold ask2; rw [ho, hq]; simp
       rw [if_pos rfl, ea]
       focus
         refine Vq<|Vy Z<|Zv Z (Yd (a := .string _) (b := .string _) Zo Z Z) (c7 _ (hM)) ?_; rintro _ w1 ⟨rfl, E1⟩; refine Xx Z<|Ru Z<|Ru Z<|Uf Z<|Yu Z<|Yu Z<|Vd Z<|Zs<|Zw<|Zu<|Yt Z<|Xd Z<|Zs<|Xn Z fun h7 => ?_; refine Zz<|Zu<|Vy Z<|Zv Z (Yl (a := .string _) Gb Z) (c8 _ ((Mono.mono E1 hM))) ?_; rintro _ w2 ⟨u1, rfl, E2, hO1⟩; refine Xx Z<|Qh u1 Z<|Uf Z<|Xg u1 Z<|Vd Z<|Zs<|Zu<|Vy Z<|Zv Z (Yl (a := .string _) Tryz.call159 Z) (c9 _) ?_; rintro _ w3 ⟨rfl, E3⟩; refine Us Z<|Zs<|Zw<|Ve<|Zu<|Vy Z<|Wo Z (Vl Z Z)<|Ym Z (fun h8 => ?_) (fun h8 => ?_)
         refine Ua Z<|Wo Z (opv_neq_nil Jm Z Z)<|Xb Z<|Vd Z<|Zs<|Va Z ?_; refine Zw<|Vq<|Vy Z<|Wo Z (Vl Z Z)<|Ym Z (fun h9 => ?_) (fun h9 => ?_); refine Yt Z<|Xb Z<|Vd Z<|Zs<|Xr Z (fun h10 => ?_) (fun h10 => ?_); refine Zu<|Vm v Z<|Vm u1 Z<|Zv Z (Rx (a := v) (b := .int _ _) (c := u1) (d := .int _ _) Tryz.call96 Z Z Z Z) (c11 _ _ _ ((Mono.mono exq h)) ((Mono.mono E3 (Owned.read hO1)))) ?_; rintro _ w4 ⟨rfl, E4⟩; refine Zv Z (Yl (a := .bool _) Zb Z) (yn _ _) ?_; rintro _ w5 ⟨rfl, E5⟩; refine Yu Z<|Zs<|Vb ?_; refine Vk (v := .string _) Z ?_; refine ⟨congrArg str ?_, exq⟩; rotate_left; contradiction; refine Zt Z<|Ye Z<|Vd Z<|Zs<|Va Z ?_
         refine Zu<|Vy Z<|Wo Z (Vl Z Z)<|Ym Z (fun h10 => ?_) (fun h10 => ?_); refine Yt Z<|Xb Z<|Vd Z<|Zs<|Xr Z (fun h11 => ?_) (fun h11 => ?_); refine Zu<|Vm v Z<|Vm u1 Z<|Zv Z (Rx (a := v) (b := .int _ _) (c := u1) (d := .int _ _) Tryz.call148 Z Z Z Z) (c12 _ _ _ ((Mono.mono exq h)) ((Mono.mono E3 (Owned.read hO1)))) ?_; rintro _ w4 ⟨rfl, E4⟩; refine Zv Z (Yl (a := .bool _) Zb Z) (yn _ _) ?_; rintro _ w5 ⟨rfl, E5⟩; refine Yu Z<|Zs<|Vb ?_; refine Vk (v := .string _) Z ?_; refine ⟨congrArg str ?_, exq⟩; rotate_left; contradiction; refine Zt Z<|Ye Z<|Vd Z<|Zs<|Va Z ?_; refine Zz<|Zu<|Yu Z<|Zs<|Vb ?_; refine Vk (v := .string _) Z ?_; refine ⟨congrArg str ?_, exq⟩; rotate_left
         refine Zt Z<|Zt Z<|Ye Z<|Vd Z<|Zs<|Va Z ?_; refine Zu<|Vy Z<|Wo Z (Vl Z Z)<|Ym Z (fun h9 => ?_) (fun h9 => ?_); refine Yt Z<|Xb Z<|Vd Z<|Zs<|Xr Z (fun h10 => ?_) (fun h10 => ?_); refine Zu<|Vm v Z<|Vm u1 Z<|Zv Z (Rx (a := v) (b := .int _ _) (c := u1) (d := .int _ _) Tryz.call96 Z Z Z Z) (c11 _ _ _ ((Mono.mono exq h)) ((Mono.mono E3 (Owned.read hO1)))) ?_; rintro _ w4 ⟨rfl, E4⟩; refine Zv Z (Yl (a := .bool _) Zb Z) (yn _ _) ?_; rintro _ w5 ⟨rfl, E5⟩; refine Yu Z<|Zs<|Vb ?_; refine Vk (v := .string _) Z ?_; refine ⟨congrArg str ?_, exq⟩; rotate_left; contradiction; refine Zt Z<|Ye Z<|Vd Z<|Zs<|Va Z ?_
         refine Zu<|Vy Z<|Wo Z (Vl Z Z)<|Ym Z (fun h10 => ?_) (fun h10 => ?_); refine Yt Z<|Xb Z<|Vd Z<|Zs<|Xr Z (fun h11 => ?_) (fun h11 => ?_); refine Zu<|Vm v Z<|Vm u1 Z<|Zv Z (Rx (a := v) (b := .int _ _) (c := u1) (d := .int _ _) Tryz.call148 Z Z Z Z) (c12 _ _ _ ((Mono.mono exq h)) ((Mono.mono E3 (Owned.read hO1)))) ?_; rintro _ w4 ⟨rfl, E4⟩; refine Zv Z (Yl (a := .bool _) Zb Z) (yn _ _) ?_; rintro _ w5 ⟨rfl, E5⟩; refine Yu Z<|Zs<|Vb ?_; refine Vk (v := .string _) Z ?_; refine ⟨congrArg str ?_, exq⟩; rotate_left; contradiction; refine Zt Z<|Ye Z<|Vd Z<|Zs<|Va Z ?_; refine Zz<|Zu<|Yu Z<|Zs<|Vb ?_; refine Vk (v := .string _) Z ?_; refine ⟨congrArg str ?_, exq⟩; rotate_left
       all_goals first | rw [if_pos Kd] | (rw [if_neg Kd]; first | rw [if_pos Kd] | rw [if_neg Kd])
     | some f =>
       have c9 := fun w => Mi R w f hf
       have ho : okF R = true := by unfold okF; rw [hf]; rfl
       have c10 : ∀ (w : World) (v pv : Value), EFm w v f → ESl Ints w pv p → Does Tryz.prog 160 [v, pv, .int .i64 0] w (Ret w (.bool (holdsV R p 0))) := fun w v pv h1 h2 => by
         have := holds_ok p hp f w v pv 0 h1 h2 ⟨Ka, Ka⟩ (by have := theF_some.1 hf; rw [← this.1]; omega)
         rwa [show holdsV R p 0 = f.holds p (0 : Int).toNat by unfold holdsV; rw [hf]; simp [show Nod p 0 from ⟨hp, Ka⟩]]
       have ea : ask2 p wd R = if wd = [104, 111, 108, 100, 115] then ynV (holdsV R p 0) else if wd = [104, 97, 115] then ynV (hasV p 0 q 0) else if wd = [105, 115] then ynV (ssetV p 0 q 0) else [119, 104, 97, 116] := by unfold ask2; rw [ho, hq]; simp
       rw [if_pos rfl, ea]
       focus
         refine Vq<|Vy Z<|Zv Z (Yd (a := .string _) (b := .string _) Zo Z Z) (c7 _ (hM)) ?_; rintro _ w1 ⟨rfl, E1⟩; refine Xx Z<|Ru Z<|Ru Z<|Uf Z<|Yu Z<|Yu Z<|Vd Z<|Zs<|Zw<|Zu<|Yt Z<|Xd Z<|Zs<|Xn Z fun h7 => ?_; refine Zz<|Zu<|Vy Z<|Zv Z (Yl (a := .string _) Gb Z) (c8 _ ((Mono.mono E1 hM))) ?_; rintro _ w2 ⟨u1, rfl, E2, hO1⟩; refine Xx Z<|Qh u1 Z<|Uf Z<|Xg u1 Z<|Vd Z<|Zs<|Zu<|Vy Z<|Zv Z (Yl (a := .string _) Tryz.call159 Z) (c9 _) ?_; rintro _ w3 ⟨E3, y1, rfl, hy1⟩; refine Us Z<|Zs<|Zw<|Ve<|Zu<|Vy Z<|Wo Z (Vl Z Z)<|Ym Z (fun h8 => ?_) (fun h8 => ?_)
         refine Ua Z<|Wo Z (opv_neq_some Jm Z Z)<|Xb Z<|Vd Z<|Zs<|Yi Z ?_; refine Zw<|Vq<|Ua Z<|Vm v Z<|Zv Z (Uv (a := .pointer _) (b := v) (c := .int _ _) Za Z Z Z) (c10 _ _ _ ((Above.here hy1)) ((Mono.mono exq h))) ?_; rintro _ w4 ⟨rfl, E4⟩; refine Zv Z (Yl (a := .bool _) Zb Z) (yn _ _) ?_; rintro _ w5 ⟨rfl, E5⟩; refine Yu Z<|Zs<|Vb ?_; refine Vk (v := .string _) Z ?_; refine ⟨congrArg str ?_, exq⟩; rotate_left; refine Zt Z<|Zt Z<|Ye Z<|Vd Z<|Zs<|Va Z ?_; refine Zu<|Vy Z<|Wo Z (Vl Z Z)<|Ym Z (fun h9 => ?_) (fun h9 => ?_); refine Yt Z<|Xb Z<|Vd Z<|Zs<|Xr Z (fun h10 => ?_) (fun h10 => ?_)
         refine Zu<|Vm v Z<|Vm u1 Z<|Zv Z (Rx (a := v) (b := .int _ _) (c := u1) (d := .int _ _) Tryz.call96 Z Z Z Z) (c11 _ _ _ ((Mono.mono exq h)) ((Mono.mono E3 (Owned.read hO1)))) ?_; rintro _ w4 ⟨rfl, E4⟩; refine Zv Z (Yl (a := .bool _) Zb Z) (yn _ _) ?_; rintro _ w5 ⟨rfl, E5⟩; refine Yu Z<|Zs<|Vb ?_; refine Vk (v := .string _) Z ?_; refine ⟨congrArg str ?_, exq⟩; rotate_left; contradiction; refine Zt Z<|Ye Z<|Vd Z<|Zs<|Va Z ?_; refine Zu<|Vy Z<|Wo Z (Vl Z Z)<|Ym Z (fun h10 => ?_) (fun h10 => ?_); refine Yt Z<|Xb Z<|Vd Z<|Zs<|Xr Z (fun h11 => ?_) (fun h11 => ?_)
         refine Zu<|Vm v Z<|Vm u1 Z<|Zv Z (Rx (a := v) (b := .int _ _) (c := u1) (d := .int _ _) Tryz.call148 Z Z Z Z) (c12 _ _ _ ((Mono.mono exq h)) ((Mono.mono E3 (Owned.read hO1)))) ?_; rintro _ w4 ⟨rfl, E4⟩; refine Zv Z (Yl (a := .bool _) Zb Z) (yn _ _) ?_; rintro _ w5 ⟨rfl, E5⟩; refine Yu Z<|Zs<|Vb ?_; refine Vk (v := .string _) Z ?_; refine ⟨congrArg str ?_, exq⟩; rotate_left; contradiction; refine Zt Z<|Ye Z<|Vd Z<|Zs<|Va Z ?_; refine Zz<|Zu<|Yu Z<|Zs<|Vb ?_; refine Vk (v := .string _) Z ?_; refine ⟨congrArg str ?_, exq⟩; rotate_left
       all_goals first | rw [if_pos Kd] | (rw [if_neg Kd]; first | rw [if_pos Kd] | (rw [if_neg Kd]; first | rw [if_pos Kd] | rw [if_neg Kd]))
noncomputable def lnV (d:Dsk) (s:List UInt8):Dsk × List UInt8:=match rdD s with
 | some a=>((doV d a).1,okV (doV d a).2)
 | none=>(d,askV d.now s)
open Classical in
theorem deskLine_ok (w:World) (hM:EMx gMx w (.bool true) ()) (hT:ETb w (.bool true) ()) (u1 u2:Value) (d:Dsk) (h1:ESl Ints w u1 d.now) (h2:ESl (ESl Ints) w u2 d.past) (hd:DkOk d) (s:List UInt8) (hs:s.length≤1048576) :
  Does Tryz.prog 59 [.agg #[u1,u2],str s] w (RetDkT w 23 88 3 (lnV d s).1.now (lnV d s).1.past (lnV d s).2):=by
 cases ha:rdD s with
 | some a =>
   have := deskLineD_ok w hM u1 u2 d h1 h2 hd s hs a ha
   unfold lnV; rw [ha]; exact this
 | none =>
   rw [show lnV d s = (d, askV d.now s) by unfold lnV; rw [ha]]
   have icu1 : isCell u1 = true := Qe h1
   have icu2 : isCell u2 = true := Qe h2
   have bnd : ∀ q, Pic q → q.length ≤ 100 ∧ ∀ r ∈ q, r.length ≤ 100 := fun q hq => ⟨by have := hq.2.1; omega, fun r hr => by rw [(hq.2.2 r hr).1]; have := hq.2.1; omega⟩
   have hppl := hd.2.1
   have k0 : ∀ (w : World), EMx gMx w (.bool true) () → Does Tryz.prog 103 [str s] w (Ret w (.tuple #[.agg #[.int .i64 0, str [], .int .i64 0], .bool false])) := fun w hM => by
     have := Mf w s hM hs
     rw [ha] at this; exact this
   have k1 : ∀ w, ESl Ints w u1 d.now → ESl (ESl Ints) w u2 d.past → Does Tryz.prog 77 [.agg #[u1, u2]] w (RetDk w 23 88 3 d.now d.past) := fun w h1 h2 => Tt w u1 u2 d.now d.past h1 h2 (bnd _ hd.1.1) Ka (fun q hq => bnd q (hd.2.2 q hq).1)
   have k2 : ∀ w, EMx gMx w (.bool true) () → ETb w (.bool true) () → ESl Ints w u1 d.now → Does Tryz.prog 112 [u1, str s] w (Ret w (str (askV d.now s))) := fun w hM hT h => asked_ok w hM hT u1 d.now h hd.1.1 s hs
   refine Sm Tryz.func59 Z Tryz.results59 Tryz.ntmps59 Z Kt Km ?_
   have heldS : w = w := rfl
   focus
     refine Zu<|Yx Z Z Z ?_; rintro b1 w1 hb1 E1 hB1; have hlb1 := hB1.lt; refine Yn Z Xj ?_; rintro b2 w2 hb2 E2 hB2; have hlb2 := hB2.lt; refine Yu Z<|Zs<|Zw<|Zu<|Vy Z<|Zv Z (Yl (a := .string _) Tryz.call103 Z) (k0 _ ((Mono.mono exq hM))) ?_; rintro _ w3 ⟨rfl, E3⟩; have hs3 := E3.size; refine Xx Z<|Mb Z<|Uf Z<|Uj Z Ys ?_; rintro b3 w4 hb3 E4 hB3; have hlb3 := hB3.lt; refine Wo_st3 Z Kv Z Z Ke Ke Ke hB3 Ka (((E1.trans E2).trans E3).trans E4) ?_; rintro w5 E5 hB3 K1 hz1; have E6 := ((E2.trans E3).trans E4).wroteAt exq E5 K1 hz1 Ka; have szE6 := E6.size; have hB1 := (hB1.ext exq).of_heap (K1 _ Ka); have hB2 := (hB2.ext exq).of_heap (K1 _ Ka)
     refine Vd Z<|Zs<|Zu<|Yt Z<|Zs<|Va Z ?_; refine Zz<|Zw<|Qr (fun w' => Ext w w') Xy Z Kb ?_; intro w6 E9 K2 hz2; refine Sb 2 Kw Ja Z Z exq<|WtmT 4 Z Z exq<|Wha [0, 3]<|Vi Z ?_ ?_; refine Xk Kt Km (hB1.ext E9) Z<|Wnx exq<|Wha [1, 3]<|Vi Z ?_ ?_; refine Zv Z (Yl (a := .agg _) Gs Z) (k1 _ ((Mono.mono exq h1)) ((Mono.mono exq h2))) ?_; rintro _ w7 ⟨u3, q1, m1, rfl, E10, hO1, hQ1, hm1, hn1⟩; have icu3 := OwnedB.isC hO1; have icq1 := OwnedB.isC (Owned.toB hQ1); refine Wnx exq<|Wha [3]<|Wh1 Z<|Yz u1 Kx (hB1.ext exq) Z<|Wnx exq<|Wha [5]<|Wh1 Z<|Zv Z (Yd (a := u1) (b := .string _) Tryz.call112 Z Z) (k2 _ ((Mono.mono exq hM)) ((Mono.mono exq hT)) ((Mono.mono exq h1))) ?_
     rintro _ w8 ⟨rfl, E11⟩; have hs7 := E11.size; refine Wnx exq<|Wha [6]<|Wh1 Z<|Xz Z Km Z Z Ke Ke (hB2.ext ((E9.trans E10).trans E11)) Ka (((E5.trans E9).trans E10).trans E11) ?_; rintro w9 E12 hB2 K3 hz3; have hO1 := (hO1.ext E11).wrote K3 Ka; have hQ1 := (hQ1.toB.ext E11).wrote K3 Ka; refine Wnx E12<|Xv 7 Z Z E12<|Vs Kb ?_; refine Vb ?_; rotate_left; refine Wh1 Z<|Yz u1 Kx (hB1.ext E9) Z<|Wnx exq<|Wha [1]<|Wh1 Z<|Zv Z (Yl (a := .agg _) Gs Z) (k1 _ ((Mono.mono exq h1)) ((Mono.mono exq h2))) ?_; rintro _ w7 ⟨u3, q1, m1, rfl, E10, hO1, hQ1, hm1, hn1⟩; have icu3 := OwnedB.isC hO1; have icq1 := OwnedB.isC (Owned.toB hQ1)
     refine Wnx exq<|Wha [5]<|Wh1 Z<|Zv Z (Yd (a := u1) (b := .string _) Tryz.call112 Z Z) (k2 _ ((Mono.mono exq hM)) ((Mono.mono exq hT)) ((Mono.mono exq h1))) ?_; rintro _ w8 ⟨rfl, E11⟩; have hs7 := E11.size; refine Wnx exq<|Wha [6]<|Wh1 Z<|Xz Z Km Z Z Ke Ke (hB2.ext ((E9.trans E10).trans E11)) Ka (((E5.trans E9).trans E10).trans E11) ?_; rintro w9 E12 hB2 K3 hz3; have hO1 := (hO1.ext E11).wrote K3 Ka; have hQ1 := (hQ1.toB.ext E11).wrote K3 Ka; refine Wnx E12<|Xv 7 Z Z E12<|Vs Kb ?_; refine Vb ?_; rotate_left
     refine Wh1 Z<|Yz u1 Kx (hB1.ext E9) Z<|Wnx exq<|Wha [0]<|Wh1 Z<|Xk Kt Km (hB1.ext E9) Z<|Wnx exq<|Wha [1]<|Wh1 Z<|Zv Z (Yl (a := .agg _) Gs Z) (k1 _ ((Mono.mono exq h1)) ((Mono.mono exq h2))) ?_; rintro _ w7 ⟨u3, q1, m1, rfl, E10, hO1, hQ1, hm1, hn1⟩; have icu3 := OwnedB.isC hO1; have icq1 := OwnedB.isC (Owned.toB hQ1); refine Wnx exq<|Wha [5]<|Wh1 Z<|Zv Z (Yd (a := u1) (b := .string _) Tryz.call112 Z Z) (k2 _ ((Mono.mono exq hM)) ((Mono.mono exq hT)) ((Mono.mono exq h1))) ?_; rintro _ w8 ⟨rfl, E11⟩; have hs7 := E11.size; refine Wnx exq<|Wha [6]<|Wh1 Z<|Xz Z Km Z Z Ke Ke (hB2.ext ((E9.trans E10).trans E11)) Ka (((E5.trans E9).trans E10).trans E11) ?_; rintro w9 E12 hB2 K3 hz3
     have hO1 := (hO1.ext E11).wrote K3 Ka; have hQ1 := (hQ1.toB.ext E11).wrote K3 Ka; refine Wnx E12<|Xv 7 Z Z E12<|Vs Kb ?_; refine Vb ?_; rotate_left
   all_goals exact ⟨b2, u3, q1, rfl, hB2, u3, q1, m1, rfl, by repeat (first | assumption | refine Ext.trans Kd ?_), hO1.wide Ka (Nat.le_refl _), hQ1.o, Ka, Ka⟩
open Classical in
noncomputable def dlV (d:Dsk) (s:List UInt8):Dsk × List UInt8:=if DkOk d then lnV d s else (⟨[],[]⟩,[])
open Classical in
theorem impl_DeskLine_ok (w:World) (hM:EMx gMx w (.bool true) ()) (hT:ETb w (.bool true) ()) (u1 u2:Value) (d:Dsk) (h1:ESl Ints w u1 d.now) (h2:ESl (ESl Ints) w u2 d.past) (s:List UInt8) (hs:s.length≤1048576) :
  Does Tryz.prog 13 [.agg #[u1,u2],str s] w (RetDkT w 23 88 3 (dlV d s).1.now (dlV d s).1.past (dlV d s).2):=by
 have icu1:isCell u1=true:=Qe h1
 have icu2:isCell u2=true:=Qe h2
 refine Sm Tryz.func13 Z Tryz.results13 Tryz.ntmps13 Z Kt Km ?_
 by_cases hd:DkOk d
 ·rw [show dlV d s=lnV d s from if_pos hd]
  have k0 : ∀ w,ESl Ints w u1 d.now→ESl (ESl Ints) w u2 d.past→Does Tryz.prog 58 [.agg #[u1,u2]] w (Ret w (.bool true)):=fun w h1 h2=>by
   have:=isDesk_ok w u1 u2 d h1 h2;rwa [decide_eq_true hd] at this
  have k1 : ∀ w,EMx gMx w (.bool true) ()→ETb w (.bool true) ()→ESl Ints w u1 d.now→ESl (ESl Ints) w u2 d.past→Does Tryz.prog 59 [.agg #[u1,u2],str s] w (RetDkT w 23 88 3 (lnV d s).1.now (lnV d s).1.past (lnV d s).2):=fun w hM hT h1 h2=>deskLine_ok w hM hT u1 u2 d h1 h2 hd s hs
  focus
   refine Zu<|Yx Z Z Z ?_;rintro b1 w1 hb1 E1 hB1;have hlb1:=hB1.lt;refine Yn Z Xj ?_;rintro b2 w2 hb2 E2 hB2;have hlb2:=hB2.lt;refine Yu Z<|Zs<|Zw<|Zu<|Xk Kt Km (hB1.ext E2) Z<|Zv Z (Yl (a:=.agg _) Tryz.call58 Z) (k0 _ ((Mono.mono exq h1)) ((Mono.mono exq h2))) ?_;rintro _ w3 ⟨rfl,E3⟩;have hs3:=E3.size;refine Xd Z<|Zs<|Xn Z fun h3=>?_;refine Zz<|Zu<|Xk Kt Km (hB1.ext exq) Z<|Vy Z<|Zv Z (Yd (a:=.agg _) (b:=.string _) Tryz.call59 Z Z) (k1 _ ((Mono.mono exq hM)) ((Mono.mono exq hT)) ((Mono.mono exq h1)) ((Mono.mono exq h2))) ?_;rintro _ w4 ⟨u3,q1,m1,rfl,E4,hO1,hQ1,hm1,hn1⟩;have icu3:=OwnedB.isC hO1;have icq1:=OwnedB.isC (Owned.toB hQ1)
   refine Mb Z<|Ru Z<|Xz Z Km Z Z Ke Ke (hB2.ext (E3.trans E4)) Ka (((E1.trans E2).trans E3).trans E4) ?_;rintro w5 E5 hB2 K1 hz1;have hO1:=hO1.wrote K1 Ka;have hQ1:=hQ1.toB.wrote K1 Ka;refine Yu Z<|Zs<|Vb ?_
  exact ⟨b2,u3,q1,rfl,hB2,u3,q1,m1,rfl,by exact E5,hO1.wide Ka (Nat.le_refl _),hQ1.o,Ka,Ka⟩
 ·rw [show dlV d s=(⟨[],[]⟩,[]) from if_neg hd]
  have k0 : ∀ w,ESl Ints w u1 d.now→ESl (ESl Ints) w u2 d.past→Does Tryz.prog 58 [.agg #[u1,u2]] w (Ret w (.bool false)):=fun w h1 h2=>by
   have:=isDesk_ok w u1 u2 d h1 h2;rwa [decide_eq_false hd] at this
  focus
   refine Zu<|Yx Z Z Z ?_;rintro b1 w1 hb1 E1 hB1;have hlb1:=hB1.lt;refine Yn Z Xj ?_;rintro b2 w2 hb2 E2 hB2;refine Yu Z<|Zs<|Zw<|Zu<|Xk Kt Km (hB1.ext E2) Z<|Zv Z (Yl (a:=.agg _) Tryz.call58 Z) (k0 _ ((Mono.mono exq h1)) ((Mono.mono exq h2))) ?_;rintro _ w3 ⟨rfl,E3⟩;refine Xd Z<|Zs<|Xr Z (fun h3=>?_) (fun h3=>?_);refine Zu<|Wo Z (Vx (ps:=[]) (cs:=[_,_]) Xj Z Z)<|Uc Km (hB2.ext E3) Z ((E1.trans E2).trans E3) ?_;rintro w4 E4 hB2 K1 hz1;have E5:=(E2.trans E3).wroteAt exq E4 K1 hz1 Ka;have szE5:=E5.size;refine Yu Z<|Zs<|Vb ?_;rotate_left;contradiction
  exact ⟨b2,_,_,rfl,hB2,_,_,w.heap.size,rfl,by exact E4,OwnedB.nil,Owned.nil,Nat.le_refl _,Ka⟩
def codM:Option Nat→Int × Bool
 | some c=>((c:Int),true)
 | none=>(-1,false)
theorem specCode_back (p:List (List Int)) (hp:Pic p) (w:World) (v:Value) (k:Nat) (h:ESl Ints w v p) (hk:k < p.length) (hc:cback p k=true) :
  Does Tryz.prog 63 [v,.int .i64 (k:Int)] w (Ret w (.tuple #[.int .i64 (-1),.bool false])):=by
 have hle:=h.le
 have k1 : ∀ (w:World) (pv:Value),ESl Ints w pv p→Does Tryz.prog 115 [pv] w (Ret w (.bool true)):=fun w pv h=>by
  have:=Uq w pv p h;rwa [decide_eq_true hp] at this
 have k2 : ∀ w,Does Tryz.prog 116 [.int .i64 (k:Int),.int .i64 0,.int .i64 ((p.length:Int) - 1)] w (Ret w (.bool true)):=fun w=>by
  have:=Qs (k:Int) 0 ((p.length:Int) - 1) w
  rwa [decide_eq_true Ka] at this
 have k3 : ∀ (w:World) (pv:Value),ESl Ints w pv p→Does Tryz.prog 117 [pv,.int .i64 (k:Int)] w (Ret w (.bool true)):=fun w pv h=>by
  have:=Tc w pv p h hp k hk;rwa [hc] at this
 refine Ue Tryz.func63 Z Tryz.results63 Tryz.ntmps63 Z ?_
 focus
  refine Zu<|Yb Z<|Vd Z<|Zs<|Zw<|Zu<|Vm v Z<|Zv Z (Yl (a:=v) Jv Z) (k1 _ _ (h)) ?_;rintro _ w1 ⟨rfl,E1⟩;refine Xd Z<|Xi Z (Yh (v:=.bool _) Z) (fun h1=>?_) (fun h1=>?_);contradiction;refine Vc Z<|Vm v Z<|Vv Kp Z h<|Rh Z<|Zv Z (Uv (a:=.int _ _) (b:=.int _ _) (c:=.int _ _) Jo Z Z Z) (k2 _) ?_;rintro _ w2 ⟨rfl,E2⟩;refine Xd Z<|Ye Z<|Xi Z (Yh (v:=.bool _) Z) (fun h2=>?_) (fun h2=>?_);contradiction;refine Vm v Z<|Vc Z<|Zv Z (Yd (a:=v) (b:=.int _ _) Tryz.call117 Z Z) (k3 _ _ ((Mono.mono exq h))) ?_;rintro _ w3 ⟨rfl,E3⟩;refine Ye Z<|Zs<|Yi Z ?_;refine Zu<|Yb Z<|Vd Z<|Zs<|Vb ?_;exact ⟨rfl,exq⟩
theorem specCode_ok (p:List (List Int)) (hp:Pic p) : ∀ (r:Nat) (w:World) (v:Value) (k:Nat),ESl Ints w v p→k < p.length→cback p k=false→(rf p k).length≤r →
  Does Tryz.prog 63 [v,.int .i64 (k:Int)] w (Ret w (.tuple #[.int .i64 (codM (cod p r k)).1,.bool (codM (cod p r k)).2])):=by
 have hp5:=hp.2.1
 intro r
 induction r with
 | zero =>
   intro w v k h hk hc hr
   have hm := (Rl hp hk).2 (.refl k)
   rw [List.length_eq_zero_iff.1 (Nat.le_zero.1 hr)] at hm; cases hm
 | succ r ih =>
   intro w v k h hk hc hr
   have hrow := hp.row hk
   have k1 : ∀ (w : World) (pv : Value), ESl Ints w pv p → Does Tryz.prog 115 [pv] w (Ret w (.bool true)) := fun w pv h => by
     have := Uq w pv p h; rwa [decide_eq_true hp] at this
   have k2 : ∀ w, Does Tryz.prog 116 [.int .i64 (k : Int), .int .i64 0, .int .i64 ((p.length : Int) - 1)] w (Ret w (.bool true)) := fun w => by
     have := Qs (k : Int) 0 ((p.length : Int) - 1) w
     rwa [decide_eq_true Ka] at this
   have k3 : ∀ (w : World) (pv : Value), ESl Ints w pv p → Does Tryz.prog 117 [pv, .int .i64 (k : Int)] w (Ret w (.bool false)) := fun w pv h => by
     have := Tc w pv p h hp k hk; rwa [hc] at this
   have harr : arr p k = (List.range p.length).filter fun j => decide (p[k].getD j 0 = 1) := by
     unfold arr; rw [Yo hk]; unfold arrR; rw [hrow]
   refine Ue Tryz.func63 Z Tryz.results63 Tryz.ntmps63 Z ?_
   focus
     refine Zu<|Yb Z<|Vd Z<|Zs<|Zw<|Zu<|Vm v Z<|Zv Z (Yl (a := v) Jv Z) (k1 _ _ (h)) ?_; rintro _ w1 ⟨rfl, E1⟩; refine Xd Z<|Xi Z (Yh (v := .bool _) Z) (fun h1 => ?_) (fun h1 => ?_); contradiction; refine Vc Z<|Vm v Z<|Vv Kp Z h<|Rh Z<|Zv Z (Uv (a := .int _ _) (b := .int _ _) (c := .int _ _) Jo Z Z Z) (k2 _) ?_; rintro _ w2 ⟨rfl, E2⟩; refine Xd Z<|Ye Z<|Xi Z (Yh (v := .bool _) Z) (fun h2 => ?_) (fun h2 => ?_); contradiction; refine Vm v Z<|Vc Z<|Zv Z (Yd (a := v) (b := .int _ _) Tryz.call117 Z Z) (k3 _ _ ((Mono.mono exq h))) ?_; rintro _ w3 ⟨rfl, E3⟩; refine Ye Z<|Zs<|Va Z ?_; refine Zz<|Zu<|Yb Z<|Zs<|Zw<|Zu<|Yb Z<|Zs<|Ve ?_
   refine Yw [4, 5, 6, 7, 8, 9, 26, 27, 28, 29, 30, 31, 32, 33, 34, 35, 36, 37, 38, 39, 40, 41, 42, 43, 44, 45, 46, 47, 48, 49, 50, 51, 52, 53, 54, 55] (fun ((j, s) : Nat × Nat) => [(7, .int .i64 (j : Nat)), (6, .int .i64 (s : Nat))]) (fun (j, s) w' => Ext w w' ∧ j ≤ p.length ∧ s < 65536 ∧ ((List.range j).filter fun j => decide (p[k].getD j 0 = 1)).foldl (fun o j => codS o (cod p r j)) (some 0) = some s) (fun x => p.length - x.1) (0, 0) Kg ?_ ?_
   · exact ⟨by exact ((E1.trans E2).trans E3), Nat.zero_le _, Ka, Ki⟩
   rintro ⟨j, s⟩ ρj w2 ⟨E2, hj, hs, hf⟩
   by_cases hjl : j < p.length
   · have hfs := Ug (fun j => decide (p[k].getD j 0 = 1)) j
     have hgd : p[k].getD j 0 = p[k][j]'Ka := Yo Ka
     by_cases hb : p[k][j]'Ka = 1
     · rw [if_pos (by rw [hgd, hb]; rfl)] at hfs
       have hmm : j ∈ arr p k := by rw [harr, List.mem_filter]; exact ⟨List.mem_range.2 hjl, by rw [hgd, hb]; rfl⟩
       have hrl := rf_lt hp hk hc hmm
       have hcb := Tk hp hk hc hmm
       have k4 : ∀ y, cod p r j = y → ∀ (w : World) (pv : Value), ESl Ints w pv p → Does Tryz.prog 63 [pv, .int .i64 (j : Int)] w (Ret w (.tuple #[.int .i64 (codM y).1, .bool (codM y).2])) := fun y e w pv h => e ▸ ih w pv j h hjl hcb Ka
       have hstep : ((List.range (j + 1)).filter fun j => decide (p[k].getD j 0 = 1)).foldl (fun o j => codS o (cod p r j)) (some 0) = codS (some s) (cod p r j) := by rw [hfs, List.foldl_append, hf]; rfl
       have hdead : codS (some s) (cod p r j) = none → cod p (r + 1) k = none := fun e => by
         show (arr p k).foldl (fun o j => codS o (cod p r j)) (some 0) = none
         have er : List.range p.length = List.range (j + 1) ++ (List.range p.length).drop (j + 1) := by
           conv => lhs; rw [← List.take_append_drop (j + 1) (List.range p.length)]
           rw [List.take_range, Nat.min_eq_left Ka]
         rw [harr, er, List.filter_append, List.foldl_append, hstep, e, cod_none]
       cases hy : cod p r j with
       | none =>
         have k5 : ∀ (w : World) (pv : Value), ESl Ints w pv p → Does Tryz.prog 63 [pv, .int .i64 (j : Int)] w (Ret w (.tuple #[.int .i64 (-1), .bool false])) := k4 none hy
         have hn := hdead (by rw [hy]; rfl)
         simp only [hn, codM]
         clear k4
         focus
           refine Zw<|Zu<|Vc Z<|Vm v Z<|Vv Kp Z h<|Yc Z<|Zs<|Zx Z (fun h3 => ?_) (fun h3 => ?_); refine Zz<|Zw<|Ve<|Zu<|Vm v Z<|Vc Z<|Yy Kp Kz Jc Z (fun _ => Z) Z h E2 Z Kf ?_; rintro _ u1 hu1; refine Vc Z<|Yy Ko Kl Kn Z (fun _ => Z) Z hu1 E2 Z Kf ?_; rintro _ _ rfl; refine Vr Z<|Zs<|Zx Z (fun h4 => ?_) (fun h4 => ?_); refine Zu<|Vm v Z<|Vc Z<|Zv Z (Yd (a := v) (b := .int _ _) Tryz.call63 Z Z) (k5 _ _ ((Mono.mono E2 h))) ?_; rintro _ w4 ⟨rfl, E4⟩
           refine Xx Z<|WsxI Z<|Uf Z<|Yb Z<|Vd Z<|Zs<|Zw<|Zu<|Yt Z<|Xd Z<|Xi Z (Yh (v := .bool _) Z) (fun h5 => ?_) (fun h5 => ?_); refine Zt Z<|Zt Z<|Xb Z<|Zs<|Yi Z ?_; refine Zu<|Yb Z<|Vd Z<|Zs<|Vb ?_; exact ⟨rfl, exq⟩; contradiction; contradiction; (exfalso; omega)
       | some m =>
         have k5 : ∀ (w : World) (pv : Value), ESl Ints w pv p → Does Tryz.prog 63 [pv, .int .i64 (j : Int)] w (Ret w (.tuple #[.int .i64 (m : Int), .bool true])) := k4 (some m) hy
         have hm6 := cod_lt hy
         clear k4
         by_cases hm15 : m ≤ 15
         · rw [hy, show codS (some s) (some m) = some (s ||| 1 <<< m) from if_pos hm15] at hstep
           have hsh : (1 : Int).toNat <<< ((m : Nat) : Int).toNat ≤ 32768 := by
             show 1 <<< m ≤ 32768
             rw [Nat.one_shiftLeft]; exact Nat.pow_le_pow_right (show 2 > 0 by omega) hm15
           have hns : s ||| 1 <<< m < 65536 := Nat.or_lt_two_pow (n := 16) hs (by have : 1 <<< m ≤ 32768 := hsh; omega)
           focus
             refine Zw<|Zu<|Vc Z<|Vm v Z<|Vv Kp Z h<|Yc Z<|Zs<|Zx Z (fun h3 => ?_) (fun h3 => ?_); refine Zz<|Zw<|Ve<|Zu<|Vm v Z<|Vc Z<|Yy Kp Kz Jc Z (fun _ => Z) Z h E2 Z Kf ?_; rintro _ u1 hu1; refine Vc Z<|Yy Ko Kl Kn Z (fun _ => Z) Z hu1 E2 Z Kf ?_; rintro _ _ rfl; refine Vr Z<|Zs<|Zx Z (fun h4 => ?_) (fun h4 => ?_); refine Zu<|Vm v Z<|Vc Z<|Zv Z (Yd (a := v) (b := .int _ _) Tryz.call63 Z Z) (k5 _ _ ((Mono.mono E2 h))) ?_; rintro _ w4 ⟨rfl, E4⟩
             refine Xx Z<|WsxI Z<|Uf Z<|Yb Z<|Vd Z<|Zs<|Zw<|Zu<|Yt Z<|Xd Z<|Xi Z (Yh (v := .bool _) Z) (fun h5 => ?_) (fun h5 => ?_); contradiction; refine Vc Z<|Ut Z<|Ye Z<|Zs<|Zy Z fun h6 => ?_; refine Zz<|Vq<|Vc Z<|Vc Z<|Wo Z (opv_shl Z Z Ka) ?_; rotate_left; contradiction; (exfalso; omega)
           refine Wo Z (opv_or Z Z ⟨Int.natCast_nonneg _, Ka, Int.natCast_nonneg _, Int.le_trans (Int.ofNat_le.2 (show _ ≤ 32768 by assumption)) Kc⟩) ?_
           focus
             refine Yb Z<|Zs<|Vq<|Vc Z<|Yk Z<|Yb Z<|Zs ?_
           refine ⟨((j + 1, s ||| 1 <<< m)), Kg, Kh, ?_, ?_⟩
           · exact ⟨by exact (E2.trans E4), Ka, hns, hstep⟩
           · simp only; omega
         · have hn := hdead (by rw [hy]; exact if_neg hm15)
           simp only [hn, codM]
           focus
             refine Zw<|Zu<|Vc Z<|Vm v Z<|Vv Kp Z h<|Yc Z<|Zs<|Zx Z (fun h3 => ?_) (fun h3 => ?_); refine Zz<|Zw<|Ve<|Zu<|Vm v Z<|Vc Z<|Yy Kp Kz Jc Z (fun _ => Z) Z h E2 Z Kf ?_; rintro _ u1 hu1; refine Vc Z<|Yy Ko Kl Kn Z (fun _ => Z) Z hu1 E2 Z Kf ?_; rintro _ _ rfl; refine Vr Z<|Zs<|Zx Z (fun h4 => ?_) (fun h4 => ?_); refine Zu<|Vm v Z<|Vc Z<|Zv Z (Yd (a := v) (b := .int _ _) Tryz.call63 Z Z) (k5 _ _ ((Mono.mono E2 h))) ?_; rintro _ w4 ⟨rfl, E4⟩
             refine Xx Z<|WsxI Z<|Uf Z<|Yb Z<|Vd Z<|Zs<|Zw<|Zu<|Yt Z<|Xd Z<|Xi Z (Yh (v := .bool _) Z) (fun h5 => ?_) (fun h5 => ?_); contradiction; refine Vc Z<|Ut Z<|Ye Z<|Zs<|Zx Z (fun h6 => ?_) (fun h6 => ?_); refine Zw<|Vq<|Yb Z<|Vd Z<|Zs<|Vb ?_; exact ⟨rfl, exq⟩; (exfalso; omega); contradiction; (exfalso; omega)
     · rw [if_neg (by rw [hgd]; simpa using hb), List.append_nil] at hfs
       focus
         refine Zw<|Zu<|Vc Z<|Vm v Z<|Vv Kp Z h<|Yc Z<|Zs<|Zx Z (fun h3 => ?_) (fun h3 => ?_); refine Zz<|Zw<|Ve<|Zu<|Vm v Z<|Vc Z<|Yy Kp Kz Jc Z (fun _ => Z) Z h E2 Z Kf ?_; rintro _ u1 hu1; refine Vc Z<|Yy Ko Kl Kn Z (fun _ => Z) Z hu1 E2 Z Kf ?_; rintro _ _ rfl; refine Vr Z<|Zs<|Vw Z fun h4 => ?_; refine Zz<|Vq<|Vc Z<|Yk Z<|Yb Z<|Zs ?_; rotate_left; (exfalso; omega)
       refine ⟨((j + 1, s)), Kg, Kh, ?_, ?_⟩
       · exact ⟨by exact E2, Ka, hs, by rw [hfs]; exact hf⟩
       · simp only; omega
   · obtain rfl : j = p.length := by omega
     rw [← harr] at hf
     have hfin : cod p (r + 1) k = some s := hf
     simp only [hfin, codM]
     focus
       refine Zw<|Zu<|Vc Z<|Vm v Z<|Vv Kp Z h<|Yc Z<|Zs<|Zy Z fun h3 => ?_; refine Yp ?_; refine Vp ?_; refine Zu<|Vc Z<|Yb Z<|Vd Z<|Zs<|Vb ?_; exact ⟨rfl, E2⟩
theorem spec_CodeAt_ok (w:World) (v:Value) (p:List (List Int)) (h:ESl Ints w v p) (hp:Pic p):Does Tryz.prog 63 [v,.int .i64 0] w (Ret w (.tuple #[.int .i64 (codeV p 0).1,.bool (codeV p 0).2])):=by
 have hz:Nod p 0:=⟨hp,by have:=hp.1;omega⟩
 cases hc:cback p (0:Int).toNat with
 | false =>
   have eM : ∀ o : Option Nat, (match o with | some c => ((c : Int), true) | none => (-1, false)) = codM o := fun o => by cases o <;> rfl
   have := specCode_ok p hp p.length w v 0 h (by have := hp.1; omega) hc Mr
   rw [show codeV p 0 = codM (cod p p.length 0) by unfold codeV; rw [if_pos ⟨hz, hc⟩]; exact eM _]
   exact this
 | true =>
   rw [show codeV p 0 = (-1, false) from if_neg fun h => by rw [hc] at h; exact absurd h.2 Kc]
   exact specCode_back p hp w v 0 h (by have := hp.1; omega) hc
theorem arr_any {p:List (List Int)} (hp:Pic p) {i:Nat} (hi:i < p.length) (g:Nat→Bool):(arr p i).any g=(List.range p.length).any fun j=>decide (p[i].getD j 0=1) && g j:=by
 unfold arr arrR
 rw [Yo hi,hp.row hi,List.any_filter]
theorem mid_end {h f g:Fm} {c:UInt8} (he:h.enc=40::(f.enc++c::(g.enc++[41]))):endV (h.enc.drop 1) h.enc.length=((f.enc.length+1:Nat):Int):=by
 rw [endV,Sx (l:=h.enc.drop 1) (f:=f) (r:=c::(g.enc++[41])) (by rw [he];rfl)]
 have hlen:h.enc.length=f.enc.length+g.enc.length+3:=by rw [he];simp;omega
 simp only [List.length_cons,List.length_append,List.length_nil]
 omega
theorem mid_right {h f g:Fm} {c:UInt8} (he:h.enc=40::(f.enc++c::(g.enc++[41]))):(h.enc.drop (((f.enc.length+1:Nat):Int)+1).toNat).take (((h.enc.length:Int) - 1).toNat - (((f.enc.length+1:Nat):Int)+1).toNat)=g.enc:=by
 have hlen:h.enc.length=f.enc.length+g.enc.length+3:=by rw [he];simp;omega
 have a1:(((f.enc.length+1:Nat):Int)+1).toNat=f.enc.length+2:=Ka
 have a2:((h.enc.length:Int) - 1).toNat=f.enc.length+g.enc.length+2:=Ka
 have a3:f.enc.length+g.enc.length+2 - (f.enc.length+2)=g.enc.length:=Ka
 rw [a1,a2,a3,he]
 have:f.enc.length+2=(f.enc.length+1)+1:=rfl
 rw [this,List.drop_succ_cons,List.drop_append,List.drop_eq_nil_of_le Ka]
 simp
theorem mid_sign {h f g:Fm} {c:UInt8} (he:h.enc=40::(f.enc++c::(g.enc++[41]))):(h.enc.getD (f.enc.length+1) 0).toNat=c.toNat:=by
 rw [he,List.getD_cons_succ,List.getD_eq_getElem?_getD,List.getElem?_append_right (Nat.le_refl _)];simp
theorem l10Holds_ok (p:List (List Int)) (hp:Pic p) : ∀ (f:Fm) (w:World) (pv:Value) (z:Int),ESl Ints w pv p→0≤z∧z < p.length→f.enc.length≤60 →
  Does Tryz.prog 164 [str f.enc,pv,.int .i64 z] w (Ret w (.bool (f.holds p z.toNat))):=by
 have hp5:=hp.2.1
 have bin : ∀ (h f g:Fm) (c:UInt8),h.enc=40::(f.enc++c::(g.enc++[41]))→(c=38∧(∀ i,h.holds p i=(f.holds p i && g.holds p i))∨c=124∧(∀ i,h.holds p i=(f.holds p i || g.holds p i))) →
   (∀ (w:World) (pv:Value) (z:Int),ESl Ints w pv p→0≤z∧z < p.length→f.enc.length≤60→Does Tryz.prog 164 [str f.enc,pv,.int .i64 z] w (Ret w (.bool (f.holds p z.toNat)))) →
   (∀ (w:World) (pv:Value) (z:Int),ESl Ints w pv p→0≤z∧z < p.length→g.enc.length≤60→Does Tryz.prog 164 [str g.enc,pv,.int .i64 z] w (Ret w (.bool (g.holds p z.toNat)))) →
   ∀ (w:World) (pv:Value) (z:Int),ESl Ints w pv p→0≤z∧z < p.length→h.enc.length≤60→Does Tryz.prog 164 [str h.enc,pv,.int .i64 z] w (Ret w (.bool (h.holds p z.toNat))):=by
  intro h f g c he hcd ih1 ih2 w pv z hpv hz h60
  have hlen:h.enc.length=f.enc.length+g.enc.length+3:=by rw [he];simp;omega
  have hn:(h.enc.getD 0 0).toNat=40:=by rw [he];rfl
  have hend : ∀ w,Does Tryz.prog 163 [str h.enc,.int .i64 1] w (Ret w (.int .i64 ((f.enc.length+1:Nat):Int))):=fun w=>by
   have:=l10End_ok _ h.enc 1 w (by unfold lim;omega) (Nat.le_refl _)
   rw [mid_end he] at this
   exact this
  have e1:(h.enc.drop 1).take (f.enc.length+1 - 1)=f.enc:=by rw [he];simp
  have hmid:=mid_sign he
  have i1 : ∀ (w:World) (pv:Value),ESl Ints w pv p→Does Tryz.prog 164 [str ((h.enc.drop 1).take (f.enc.length+1 - 1)),pv,.int .i64 z] w (Ret w (.bool (f.holds p z.toNat))):=fun w pv h9=>by rw [e1];exact ih1 w pv z h9 hz Ka
  have i2 : ∀ (w:World) (pv:Value),ESl Ints w pv p→Does Tryz.prog 164 [str ((h.enc.drop (((f.enc.length+1:Nat):Int)+1).toNat).take (((h.enc.length:Int) - 1).toNat - (((f.enc.length+1:Nat):Int)+1).toNat)),pv,.int .i64 z] w (Ret w (.bool (g.holds p z.toNat))) :=
   fun w pv h9=>by rw [mid_right he];exact ih2 w pv z h9 hz Ka
  clear e1 ih1 ih2 he
  generalize f.enc.length=m1 at *
  rcases hcd with ⟨rfl,hc⟩ | ⟨rfl,hc⟩
  ·rw [hc]
   have hm:(h.enc.getD (m1+1) 0).toNat=38:=hmid
   refine Vu Tryz.func164 Z Tryz.results164 Tryz.ntmps164 Z ?_
   focus
    refine Zu<|Vd Z<|Zs<|Zw<|Zu<|Vy Z<|Wo Z (Vt (k:=0) Ku Z Z Ka) ?_;refine Zs<|Ve<|Zu<|Vr Z<|Vd Z<|Zs<|Zy Z fun h1=>?_;refine Zu<|Vr Z<|Vd Z<|Zs<|Zy Z fun h2=>?_;refine Zu<|Vr Z<|Vd Z<|Zs<|Zy Z fun h3=>?_;refine Zu<|Vr Z<|Vd Z<|Zs<|Zy Z fun h4=>?_;refine Zz<|Zu<|Vy Z<|Zv Z (Yd (a:=.string _) (b:=.int _ _) Jr Z Z) (hend _) ?_;rintro _ w1 ⟨rfl,E1⟩;refine Yb Z<|Zs<|Zu<|Vy Z<|Vc Z<|Wo Z (Tq (l:=1) Ku Z Z Z Ka) ?_
    refine Vm pv Z<|Vc Z<|Zv Z (Uv (a:=.string _) (b:=pv) (c:=.int _ _) Zd Z Z Z) (i1 _ _ ((Mono.mono E1 hpv))) ?_;rintro _ w2 ⟨rfl,E2⟩;refine Vd Z<|Zs<|Zu<|Vy Z<|Vc Z<|Yk Z<|Vy Z<|Wo Z (Yr Ku Z)<|Rh Z<|Wo Z (opv_slice_str_z Ku Z Z Z Ka) ?_;refine Vm pv Z<|Vc Z<|Zv Z (Uv (a:=.string _) (b:=pv) (c:=.int _ _) Zd Z Z Z) (i2 _ _ ((Mono.mono exq hpv))) ?_;rintro _ w3 ⟨rfl,E3⟩;refine Vd Z<|Zs<|Zw<|Zu<|Vy Z<|Vc Z<|Wo Z (Vt Ku Z Z Ka) ?_;refine Vr Z<|Zs<|Zx Z (fun h5=>?_) (fun h5=>?_);refine Zu<|Yt Z<|Xi Z (Yh (v:=.bool _) Z) (fun h6=>?_) (fun h6=>?_)
    refine Yt Z<|Xb Z<|Vd Z<|Zs<|Vb ?_;refine Vk (v:=.bool _) Z ?_;refine ⟨congrArg Value.bool ?_,exq⟩;rotate_left;refine Zt Z<|Ye Z<|Vd Z<|Zs<|Vb ?_;refine Vk (v:=.bool _) Z ?_;refine ⟨congrArg Value.bool ?_,exq⟩;rotate_left;(exfalso;omega)
   all_goals first
    | (rw [show f.holds p z.toNat=true from by assumption];rfl)
    | (rw [show f.holds p z.toNat=false from by assumption];rfl)
  ·rw [hc]
   have hm:(h.enc.getD (m1+1) 0).toNat=124:=hmid
   refine Vu Tryz.func164 Z Tryz.results164 Tryz.ntmps164 Z ?_
   focus
    refine Zu<|Vd Z<|Zs<|Zw<|Zu<|Vy Z<|Wo Z (Vt (k:=0) Ku Z Z Ka) ?_;refine Zs<|Ve<|Zu<|Vr Z<|Vd Z<|Zs<|Zy Z fun h1=>?_;refine Zu<|Vr Z<|Vd Z<|Zs<|Zy Z fun h2=>?_;refine Zu<|Vr Z<|Vd Z<|Zs<|Zy Z fun h3=>?_;refine Zu<|Vr Z<|Vd Z<|Zs<|Zy Z fun h4=>?_;refine Zz<|Zu<|Vy Z<|Zv Z (Yd (a:=.string _) (b:=.int _ _) Jr Z Z) (hend _) ?_;rintro _ w1 ⟨rfl,E1⟩;refine Yb Z<|Zs<|Zu<|Vy Z<|Vc Z<|Wo Z (Tq (l:=1) Ku Z Z Z Ka) ?_
    refine Vm pv Z<|Vc Z<|Zv Z (Uv (a:=.string _) (b:=pv) (c:=.int _ _) Zd Z Z Z) (i1 _ _ ((Mono.mono E1 hpv))) ?_;rintro _ w2 ⟨rfl,E2⟩;refine Vd Z<|Zs<|Zu<|Vy Z<|Vc Z<|Yk Z<|Vy Z<|Wo Z (Yr Ku Z)<|Rh Z<|Wo Z (opv_slice_str_z Ku Z Z Z Ka) ?_;refine Vm pv Z<|Vc Z<|Zv Z (Uv (a:=.string _) (b:=pv) (c:=.int _ _) Zd Z Z Z) (i2 _ _ ((Mono.mono exq hpv))) ?_;rintro _ w3 ⟨rfl,E3⟩;refine Vd Z<|Zs<|Zw<|Zu<|Vy Z<|Vc Z<|Wo Z (Vt Ku Z Z Ka) ?_;refine Vr Z<|Zs<|Zy Z fun h5=>?_;refine Zz<|Zu<|Yt Z<|Xi Z (Yh (v:=.bool _) Z) (fun h6=>?_) (fun h6=>?_)
    refine Zt Z<|Xb Z<|Vd Z<|Zs<|Vb ?_;refine Vk (v:=.bool _) Z ?_;refine ⟨congrArg Value.bool ?_,exq⟩;rotate_left;refine Yt Z<|Ye Z<|Vd Z<|Zs<|Vb ?_;refine Vk (v:=.bool _) Z ?_;refine ⟨congrArg Value.bool ?_,exq⟩;rotate_left
   all_goals first
    | (rw [show f.holds p z.toNat=true from by assumption];rfl)
    | (rw [show f.holds p z.toNat=false from by assumption];rfl)
 intro f
 induction f with
 | t =>
   intro w pv z hpv hz h60
   have hn : ((Fm.enc .t).getD 0 0).toNat = 116 := rfl
   have hl : (Fm.enc .t).length = 1 := rfl
   refine Vu Tryz.func164 Z Tryz.results164 Tryz.ntmps164 Z ?_
   focus
     refine Zu<|Vd Z<|Zs<|Zw<|Zu<|Vy Z<|Wo Z (Vt (k := 0) Ku Z Z Ka) ?_; refine Zs<|Ve<|Zu<|Vr Z<|Vd Z<|Zs<|Zx Z (fun h1 => ?_) (fun h1 => ?_); refine Zu<|Vd Z<|Zs<|Vb ?_; exact ⟨rfl, (Ext.refl _)⟩; contradiction
 | neg f ih =>
   intro w pv z hpv hz h60
   have hn : ((Fm.enc (.neg f)).getD 0 0).toNat = 33 := rfl
   have hl : (Fm.enc (.neg f)).length = f.enc.length + 1 := rfl
   have i1 : ∀ (w : World) (pv : Value), ESl Ints w pv p → Does Tryz.prog 164 [str ((Fm.enc (.neg f)).drop 1), pv, .int .i64 z] w (Ret w (.bool (f.holds p z.toNat))) := fun w pv h9 => ih w pv z h9 hz Ka
   refine Vu Tryz.func164 Z Tryz.results164 Tryz.ntmps164 Z ?_
   focus
     refine Zu<|Vd Z<|Zs<|Zw<|Zu<|Vy Z<|Wo Z (Vt (k := 0) Ku Z Z Ka) ?_; refine Zs<|Ve<|Zu<|Vr Z<|Vd Z<|Zs<|Zy Z fun h1 => ?_; refine Zu<|Vr Z<|Vd Z<|Zs<|Zx Z (fun h2 => ?_) (fun h2 => ?_); refine Zu<|Vy Z<|Wo Z (Xh (l := 1) Ku Z Z Ka) ?_; refine Vm pv Z<|Vc Z<|Zv Z (Uv (a := .string _) (b := pv) (c := .int _ _) Zd Z Z Z) (i1 _ _ (hpv)) ?_; rintro _ w1 ⟨rfl, E1⟩; refine Xd Z<|Vd Z<|Zs<|Vb ?_; exact ⟨rfl, E1⟩; contradiction
 | S f ih =>
   intro w pv z hpv hz h60
   have hn : ((Fm.enc (.S f)).getD 0 0).toNat = 83 := rfl
   have hl : (Fm.enc (.S f)).length = f.enc.length + 1 := rfl
   have hzl : z.toNat < p.length := Ka
   have hrow := hp.row hzl
   have i1 : ∀ (w : World) (pv : Value) (y : Int), ESl Ints w pv p → 0 ≤ y ∧ y < p.length → Does Tryz.prog 164 [str ((Fm.enc (.S f)).drop 1), pv, .int .i64 y] w (Ret w (.bool (f.holds p y.toNat))) := fun w pv y h9 hy => ih w pv y h9 hy Ka
   have hval : Fm.holds p (.S f) z.toNat = (List.range p.length).any fun j => decide (p[z.toNat].getD j 0 = 1) && f.holds p j := arr_any hp hzl _
   rw [hval]
   refine Vu Tryz.func164 Z Tryz.results164 Tryz.ntmps164 Z ?_
   focus
     refine Zu<|Vd Z<|Zs<|Zw<|Zu<|Vy Z<|Wo Z (Vt (k := 0) Ku Z Z Ka) ?_; refine Zs<|Ve<|Zu<|Vr Z<|Vd Z<|Zs<|Zy Z fun h1 => ?_; refine Zu<|Vr Z<|Vd Z<|Zs<|Zy Z fun h2 => ?_; refine Zu<|Vr Z<|Vd Z<|Zs<|Zx Z (fun h3 => ?_) (fun h3 => ?_); refine Zw<|Zu<|Yb Z<|Zs<|Ve ?_; rotate_left; contradiction
   refine Yw [6, 7, 26, 27, 28, 29, 30, 31, 32, 33, 34, 35, 36, 37, 38, 39, 40, 41, 42, 43, 44, 45, 46] (fun (k : Nat) => [(7, .int .i64 (k : Nat))]) (fun k w' => Ext w w' ∧ k ≤ p.length ∧ ((List.range k).any fun j => decide (p[z.toNat].getD j 0 = 1) && f.holds p j) = false) (fun x => p.length - x) 0 Kg ?_ ?_
   · exact ⟨Ext.refl _, Nat.zero_le _, Ki⟩
   rintro k ρj w1 ⟨E1, hk, hg⟩
   by_cases hlt : k < p.length
   · have hgd := Yo (l := p[z.toNat]) (i := k) (d := 0) Ka
     have hsu := Nq (fun j => decide (p[z.toNat].getD j 0 = 1) && f.holds p j) k
     rw [hg, hgd] at hsu
     focus
       have szE1 := E1.size; refine Zw<|Zu<|Vc Z<|Vm pv Z<|Vv Kp Z hpv<|Yc Z<|Zs<|Zx Z (fun h4 => ?_) (fun h4 => ?_); refine Zz<|Zw<|Ve<|Zu<|Vm pv Z<|Vc Z<|Rf Kp Kz Jc Z (fun _ => Z) Z hpv E1 Z Kf ?_; rintro _ u1 hu1; refine Vc Z<|Yy Ko Kl Kn Z (fun _ => Z) Z hu1 E1 Z Kf ?_; rintro _ _ rfl; refine Vr Z<|Ym Z (fun h5 => ?_) (fun h5 => ?_); refine Vy Z<|Wo Z (Xh (l := 1) Ku Z Z Ka) ?_; refine Vm pv Z<|Vc Z<|Zv Z (Uv (a := .string _) (b := pv) (c := .int _ _) Zd Z Z Z) (i1 _ _ _ ((Mono.mono E1 hpv)) Ka) ?_; rintro _ w2 ⟨rfl, E2⟩
       have hs1 := E2.size; refine Xb Z<|Zs<|Xr Z (fun h6 => ?_) (fun h6 => ?_); refine Zu<|Vd Z<|Zs<|Vb ?_; refine Vk (v := .bool _) Z ?_; refine ⟨congrArg Value.bool ?_, exq⟩; rotate_left; refine Zz<|Vq<|Vc Z<|Yk Z<|Yb Z<|Zs ?_; rotate_left; refine Zt Z<|Zt Z<|Zt Z<|Zt Z<|Zt Z<|Ye Z<|Zs<|Va Z ?_; refine Zz<|Vq<|Vc Z<|Yk Z<|Yb Z<|Zs ?_; rotate_left; (exfalso; omega)
     · refine (List.any_eq_true.2 ⟨k, List.mem_range.2 hlt, ?_⟩).symm
       rw [hgd, decide_eq_true Kd, Bool.true_and]
       have e : ((k : Int)).toNat = k := rfl
       rw [e] at *
       assumption
     · refine ⟨(k + 1), Kg, Kh, ?_, ?_⟩
       · refine ⟨E1.trans E2, Ka, ?_⟩
         rw [hsu, decide_eq_true Kd, Bool.true_and, Bool.false_or]
         assumption
       · omega
     · refine ⟨(k + 1), Kg, Kh, ?_, ?_⟩
       · refine ⟨E1, Ka, ?_⟩
         rw [hsu, decide_eq_false Kd]; rfl
       · omega
   · obtain rfl : k = p.length := by omega
     focus
       refine Zw<|Zu<|Vc Z<|Vm pv Z<|Vv Kp Z hpv<|Yc Z<|Zs<|Zy Z fun h4 => ?_; refine Yp ?_; refine Vp ?_; refine Zu<|Vd Z<|Zs<|Vb ?_; refine Vk (v := .bool _) Z ?_; refine ⟨congrArg Value.bool ?_, E1⟩
     exact hg.symm
 | A f ih =>
   intro w pv z hpv hz h60
   have hn : ((Fm.enc (.A f)).getD 0 0).toNat = 65 := rfl
   have hl : (Fm.enc (.A f)).length = f.enc.length + 1 := rfl
   have hzl : z.toNat < p.length := Ka
   have hrow := hp.row hzl
   have i1 : ∀ (w : World) (pv : Value) (y : Int), ESl Ints w pv p → 0 ≤ y ∧ y < p.length → Does Tryz.prog 164 [str ((Fm.enc (.A f)).drop 1), pv, .int .i64 y] w (Ret w (.bool (f.holds p y.toNat))) := fun w pv y h9 hy => ih w pv y h9 hy Ka
   have hval : Fm.holds p (.A f) z.toNat = !((List.range p.length).any fun j => decide (p[z.toNat].getD j 0 = 1) && !(f.holds p j)) := congrArg not (arr_any hp hzl _)
   rw [hval]
   refine Vu Tryz.func164 Z Tryz.results164 Tryz.ntmps164 Z ?_
   focus
     refine Zu<|Vd Z<|Zs<|Zw<|Zu<|Vy Z<|Wo Z (Vt (k := 0) Ku Z Z Ka) ?_; refine Zs<|Ve<|Zu<|Vr Z<|Vd Z<|Zs<|Zy Z fun h1 => ?_; refine Zu<|Vr Z<|Vd Z<|Zs<|Zy Z fun h2 => ?_; refine Zu<|Vr Z<|Vd Z<|Zs<|Zy Z fun h3 => ?_; refine Zu<|Vr Z<|Vd Z<|Zs<|Zx Z (fun h4 => ?_) (fun h4 => ?_); refine Zw<|Zu<|Yb Z<|Zs<|Ve ?_; rotate_left; contradiction
   refine Yw [6, 8, 49, 50, 51, 52, 53, 54, 55, 56, 57, 58, 59, 60, 61, 62, 63, 64, 65, 66, 67, 68, 69, 70] (fun (k : Nat) => [(8, .int .i64 (k : Nat))]) (fun k w' => Ext w w' ∧ k ≤ p.length ∧ ((List.range k).any fun j => decide (p[z.toNat].getD j 0 = 1) && !(f.holds p j)) = false) (fun x => p.length - x) 0 Kg ?_ ?_
   · exact ⟨Ext.refl _, Nat.zero_le _, Ki⟩
   rintro k ρj w1 ⟨E1, hk, hg⟩
   by_cases hlt : k < p.length
   · have hgd := Yo (l := p[z.toNat]) (i := k) (d := 0) Ka
     have hsu := Nq (fun j => decide (p[z.toNat].getD j 0 = 1) && !(f.holds p j)) k
     rw [hg, hgd] at hsu
     focus
       refine Zw<|Zu<|Vc Z<|Vm pv Z<|Vv Kp Z hpv<|Yc Z<|Zs<|Zx Z (fun h5 => ?_) (fun h5 => ?_); refine Zz<|Zw<|Ve<|Zu<|Vm pv Z<|Vc Z<|Rf Kp Kz Jc Z (fun _ => Z) Z hpv E1 Z Kf ?_; rintro _ u1 hu1; refine Vc Z<|Yy Ko Kl Kn Z (fun _ => Z) Z hu1 E1 Z Kf ?_; rintro _ _ rfl; refine Vr Z<|Ym Z (fun h6 => ?_) (fun h6 => ?_); refine Vy Z<|Wo Z (Xh (l := 1) Ku Z Z Ka) ?_; refine Vm pv Z<|Vc Z<|Zv Z (Uv (a := .string _) (b := pv) (c := .int _ _) Zd Z Z Z) (i1 _ _ _ ((Mono.mono E1 hpv)) Ka) ?_; rintro _ w2 ⟨rfl, E2⟩
       refine Xd Z<|Xb Z<|Zs<|Xr Z (fun h7 => ?_) (fun h7 => ?_); refine Zu<|Vd Z<|Zs<|Vb ?_; refine Vk (v := .bool _) Z ?_; refine ⟨congrArg Value.bool ?_, exq⟩; rotate_left; refine Zz<|Vq<|Vc Z<|Yk Z<|Yb Z<|Zs ?_; rotate_left; refine Zt Z<|Zt Z<|Zt Z<|Zt Z<|Zt Z<|Zt Z<|Ye Z<|Zs<|Va Z ?_; refine Zz<|Vq<|Vc Z<|Yk Z<|Yb Z<|Zs ?_; rotate_left; (exfalso; omega)
     · have hany : ((List.range p.length).any fun j => decide (p[z.toNat].getD j 0 = 1) && !(f.holds p j)) = true := by
         refine List.any_eq_true.2 ⟨k, List.mem_range.2 hlt, ?_⟩
         have e : (!(f.holds p k)) = true := Kd
         rw [hgd, decide_eq_true Kd, Bool.true_and, e]
       rw [hany]; rfl
     · refine ⟨(k + 1), Kg, Kh, ?_, ?_⟩
       · refine ⟨E1.trans E2, Ka, ?_⟩
         have e : (!(f.holds p k)) = false := Kd
         rw [hsu, decide_eq_true Kd, Bool.true_and, e]; rfl
       · omega
     · refine ⟨(k + 1), Kg, Kh, ?_, ?_⟩
       · refine ⟨E1, Ka, ?_⟩
         rw [hsu, decide_eq_false Kd]; rfl
       · omega
   · obtain rfl : k = p.length := by omega
     focus
       refine Zw<|Zu<|Vc Z<|Vm pv Z<|Vv Kp Z hpv<|Yc Z<|Zs<|Zy Z fun h5 => ?_; refine Yp ?_; refine Vp ?_; refine Zu<|Vd Z<|Zs<|Vb ?_; refine Vk (v := .bool _) Z ?_; refine ⟨congrArg Value.bool ?_, E1⟩
     rw [hg]; rfl
 | and f g ih1 ih2=>exact bin (.and f g) f g 38 rfl (.inl ⟨rfl,fun _=>rfl⟩) ih1 ih2
 | or f g ih1 ih2=>exact bin (.or f g) f g 124 rfl (.inr ⟨rfl,fun _=>rfl⟩) ih1 ih2
theorem spec_HoldsAt_ok (s:List UInt8) (w:World) (pv:Value) (p:List (List Int)) (z:Int) (hl:s.length≤lim) (h:ESl Ints w pv p):Does Tryz.prog 124 [str s,pv,.int .i64 z] w (Ret w (.bool (holdsV s p z))):=by
 cases hs:theF s with
 | none =>
   have e : holdsV s p z = false := by unfold holdsV; rw [hs]
   rw [e]
   have h1 : ∀ w, Does Tryz.prog 123 [str s] w (Ret w (.bool false)) := fun w => by
     have := Tf s w hl
     rw [okF, hs] at this
     exact this
   refine Vu Tryz.func124 Z Tryz.results124 Tryz.ntmps124 Z ?_
   focus
     refine Zu<|Vd Z<|Zs<|Zu<|Vy Z<|Zv Z (Yl (a := .string _) Zj Z) (h1 _) ?_; rintro _ w1 ⟨rfl, E1⟩; refine Yt Z<|Zt Z<|Zt Z<|Zt Z<|Ye Z<|Yt Z<|Zt Z<|Zt Z<|Zt Z<|Zt Z<|Ye Z<|Vd Z<|Zs<|Vb ?_; exact ⟨rfl, E1⟩
 | some f =>
   have e : holdsV s p z = (decide (Nod p z) && f.holds p z.toNat) := by unfold holdsV; rw [hs]
   rw [e]
   obtain ⟨rfl, h60⟩ := theF_some.1 hs
   have h1 : ∀ w, Does Tryz.prog 123 [str f.enc] w (Ret w (.bool true)) := fun w => by
     have := Tf f.enc w hl
     rw [okF, hs] at this
     exact this
   by_cases hn : Nod p z
   · rw [decide_eq_true hn, Bool.true_and]
     have hh : ∀ (w : World) (pv : Value), ESl Ints w pv p → Does Tryz.prog 164 [str f.enc, pv, .int .i64 z] w (Ret w (.bool (f.holds p z.toNat))) := fun w pv h2 => l10Holds_ok p hn.1 f w pv z h2 hn.2 h60
     have hnd : ∀ (w : World) (pv : Value), ESl Ints w pv p → Does Tryz.prog 118 [pv, .int .i64 z] w (Ret w (.bool true)) := fun w pv h => by
       have := Qx w pv p h z
       rw [decide_eq_true hn] at this; exact this
     refine Vu Tryz.func124 Z Tryz.results124 Tryz.ntmps124 Z ?_
     focus
       refine Zu<|Vd Z<|Zs<|Zu<|Vy Z<|Zv Z (Yl (a := .string _) Zj Z) (h1 _) ?_; rintro _ w1 ⟨rfl, E1⟩; refine Yt Z<|Vm pv Z<|Vc Z<|Zv Z (Yd (a := pv) (b := .int _ _) Ge Z Z) (hnd _ _ ((Mono.mono E1 h))) ?_; rintro _ w2 ⟨rfl, E2⟩; refine Xb Z<|Yt Z<|Vy Z<|Vm pv Z<|Vc Z<|Zv Z (Uv (a := .string _) (b := pv) (c := .int _ _) Zd Z Z Z) (hh _ _ ((Mono.mono exq h))) ?_; rintro _ w3 ⟨rfl, E3⟩; refine Xb Z<|Vd Z<|Zs<|Vb ?_; exact ⟨rfl, exq⟩
   · rw [decide_eq_false hn, Bool.false_and]
     have hnd : ∀ (w : World) (pv : Value), ESl Ints w pv p → Does Tryz.prog 118 [pv, .int .i64 z] w (Ret w (.bool false)) := fun w pv h => by
       have := Qx w pv p h z
       rw [decide_eq_false hn] at this; exact this
     refine Vu Tryz.func124 Z Tryz.results124 Tryz.ntmps124 Z ?_
     focus
       refine Zu<|Vd Z<|Zs<|Zu<|Vy Z<|Zv Z (Yl (a := .string _) Zj Z) (h1 _) ?_; rintro _ w1 ⟨rfl, E1⟩; refine Yt Z<|Vm pv Z<|Vc Z<|Zv Z (Yd (a := pv) (b := .int _ _) Ge Z Z) (hnd _ _ ((Mono.mono E1 h))) ?_; rintro _ w2 ⟨rfl, E2⟩; refine Xb Z<|Yt Z<|Zt Z<|Zt Z<|Zt Z<|Zt Z<|Ye Z<|Vd Z<|Zs<|Vb ?_; exact ⟨rfl, exq⟩
open Go.Lib (decDigits)
theorem l11Yes_ok (w:World) (b:Bool):Does Tryz.prog 66 [.bool b] w (Ret w (str (ynV b))):=by
 cases b with
 | true =>
   refine Vu Tryz.func66 Z Tryz.results66 Tryz.ntmps66 Z ?_
   focus
     refine Zu<|Yu Z<|Zs<|Zw<|Zu<|Yt Z<|Zs<|Yi Z ?_; refine Zu<|Yu Z<|Zs<|Vb ?_; exact ⟨rfl, (Ext.refl _)⟩
 | false =>
   refine Vu Tryz.func66 Z Tryz.results66 Tryz.ntmps66 Z ?_
   focus
     refine Zu<|Yu Z<|Zs<|Zw<|Zu<|Yt Z<|Zs<|Va Z ?_; refine Zz<|Zu<|Yu Z<|Zs<|Vb ?_; exact ⟨rfl, (Ext.refl _)⟩
open Classical in
theorem l11Ask_ok (w:World) (v:Value) (p:List (List Int)) (h:ESl Ints w v p) (hp:Pic p) (wd R:List UInt8) (hR:R.length≤1048576):Does Tryz.prog 71 [v,str wd,str R] w (Ret w (str (ask2 p wd R))):=by
 have hp1:=hp.1
 have hRl':R.length≤lim:=by unfold lim;omega
 have yn:=l11Yes_ok
 have c8 : ∀ w,Does Tryz.prog 122 [str R] w (RetOB w XR ((rdP R).getD []) (rdP R).isSome):=fun w=>Sq w R hR
 have c9 : ∀ w,Does Tryz.prog 123 [str R] w (Ret w (.bool (okF R))):=fun w=>Tf R w hRl'
 have c10 : ∀ (w:World) (v:Value),ESl Ints w v p→Does Tryz.prog 124 [str R,v,.int .i64 0] w (Ret w (.bool (holdsV R p 0))):=fun w v h=>spec_HoldsAt_ok R w v p 0 hRl' h
 refine Vu Tryz.func71 Z Tryz.results71 Tryz.ntmps71 Z ?_
 cases hq:rdP R with
 | none =>
   rw [hq] at c8
   cases ho : okF R with
   | false =>
     rw [ho] at c9
     have ea : ask2 p wd R = [119, 104, 97, 116] := by unfold ask2; rw [ho, hq]; simp
     rw [ea]
     focus
       refine Zu<|Yu Z<|Zs<|Zu<|Vy Z<|Zv Z (Yl (a := .string _) Jq Z) (c8 _) ?_; rintro _ w1 ⟨u1, rfl, E1, hO1⟩; refine Xx Z<|Qh u1 Z<|Uf Z<|Xg u1 Z<|Vd Z<|Zs<|Zw<|Ve<|Zw<|Vq<|Vy Z<|Wo Z (Vl Z Z)<|Ym Z (fun h1 => ?_) (fun h1 => ?_); refine Vy Z<|Zv Z (Yl (a := .string _) Zj Z) (c9 _) ?_; rintro _ w2 ⟨rfl, E2⟩; refine Xb Z<|Vd Z<|Zs<|Va Z ?_; refine Zu<|Vy Z<|Wo Z (Vl Z Z)<|Ym Z (fun h2 => ?_) (fun h2 => ?_); refine Yt Z<|Xb Z<|Vd Z<|Zs<|Xn Z fun h3 => ?_; refine Zu<|Vy Z<|Wo Z (Vl Z Z)<|Ym Z (fun h4 => ?_) (fun h4 => ?_); refine Yt Z<|Xb Z<|Vd Z<|Zs<|Xn Z fun h5 => ?_
       refine Zz<|Zu<|Yu Z<|Zs<|Vb ?_; exact ⟨rfl, exq⟩; refine Zt Z<|Ye Z<|Vd Z<|Zs<|Va Z ?_; refine Zz<|Zu<|Yu Z<|Zs<|Vb ?_; exact ⟨rfl, exq⟩; refine Zt Z<|Ye Z<|Vd Z<|Zs<|Va Z ?_; refine Zu<|Vy Z<|Wo Z (Vl Z Z)<|Ym Z (fun h3 => ?_) (fun h3 => ?_); refine Yt Z<|Xb Z<|Vd Z<|Zs<|Xn Z fun h4 => ?_; refine Zz<|Zu<|Yu Z<|Zs<|Vb ?_; exact ⟨rfl, exq⟩; refine Zt Z<|Ye Z<|Vd Z<|Zs<|Va Z ?_; refine Zz<|Zu<|Yu Z<|Zs<|Vb ?_; exact ⟨rfl, exq⟩; refine Zt Z<|Zt Z<|Ye Z<|Vd Z<|Zs<|Va Z ?_; refine Zu<|Vy Z<|Wo Z (Vl Z Z)<|Ym Z (fun h2 => ?_) (fun h2 => ?_)
       refine Yt Z<|Xb Z<|Vd Z<|Zs<|Xn Z fun h3 => ?_; refine Zu<|Vy Z<|Wo Z (Vl Z Z)<|Ym Z (fun h4 => ?_) (fun h4 => ?_); refine Yt Z<|Xb Z<|Vd Z<|Zs<|Xn Z fun h5 => ?_; refine Zz<|Zu<|Yu Z<|Zs<|Vb ?_; exact ⟨rfl, E1⟩; refine Zt Z<|Ye Z<|Vd Z<|Zs<|Va Z ?_; refine Zz<|Zu<|Yu Z<|Zs<|Vb ?_; exact ⟨rfl, E1⟩; refine Zt Z<|Ye Z<|Vd Z<|Zs<|Va Z ?_; refine Zu<|Vy Z<|Wo Z (Vl Z Z)<|Ym Z (fun h3 => ?_) (fun h3 => ?_); refine Yt Z<|Xb Z<|Vd Z<|Zs<|Xn Z fun h4 => ?_; refine Zz<|Zw<|Vq<|Yu Z<|Zs<|Vb ?_; exact ⟨rfl, E1⟩; refine Zt Z<|Ye Z<|Vd Z<|Zs<|Va Z ?_
       refine Zz<|Zu<|Yu Z<|Zs<|Vb ?_; exact ⟨rfl, E1⟩
   | true =>
     rw [ho] at c9
     have ea : ask2 p wd R = if wd = [104, 111, 108, 100, 115] then ynV (holdsV R p 0) else [119, 104, 97, 116] := by unfold ask2; rw [ho, hq]; simp
     rw [ea]
     focus
       refine Zu<|Yu Z<|Zs<|Zu<|Vy Z<|Zv Z (Yl (a := .string _) Jq Z) (c8 _) ?_; rintro _ w1 ⟨u1, rfl, E1, hO1⟩; refine Xx Z<|Qh u1 Z<|Uf Z<|Xg u1 Z<|Vd Z<|Zs<|Zw<|Ve<|Zw<|Vq<|Vy Z<|Wo Z (Vl Z Z)<|Ym Z (fun h1 => ?_) (fun h1 => ?_); refine Vy Z<|Zv Z (Yl (a := .string _) Zj Z) (c9 _) ?_; rintro _ w2 ⟨rfl, E2⟩; refine Xb Z<|Vd Z<|Zs<|Yi Z ?_; refine Zu<|Vy Z<|Vm v Z<|Zv Z (Uv (a := .string _) (b := v) (c := .int _ _) Tryz.call124 Z Z Z) (c10 _ _ ((Mono.mono exq h))) ?_; rintro _ w3 ⟨rfl, E3⟩; refine Zv Z (Yl (a := .bool _) Jy Z) (yn _ _) ?_; rintro _ w4 ⟨rfl, E4⟩; refine Yu Z<|Zs<|Vb ?_; refine Vk (v := .string _) Z ?_
       refine ⟨congrArg str ?_, exq⟩; rotate_left; refine Zt Z<|Zt Z<|Ye Z<|Vd Z<|Zs<|Va Z ?_; refine Zu<|Vy Z<|Wo Z (Vl Z Z)<|Ym Z (fun h2 => ?_) (fun h2 => ?_); refine Yt Z<|Xb Z<|Vd Z<|Zs<|Xn Z fun h3 => ?_; refine Zu<|Vy Z<|Wo Z (Vl Z Z)<|Ym Z (fun h4 => ?_) (fun h4 => ?_); refine Yt Z<|Xb Z<|Vd Z<|Zs<|Xn Z fun h5 => ?_; refine Zz<|Zu<|Yu Z<|Zs<|Vb ?_; refine Vk (v := .string _) Z ?_; refine ⟨congrArg str ?_, E1⟩; rotate_left; refine Zt Z<|Ye Z<|Vd Z<|Zs<|Va Z ?_; refine Zz<|Zu<|Yu Z<|Zs<|Vb ?_; refine Vk (v := .string _) Z ?_; refine ⟨congrArg str ?_, E1⟩; rotate_left
       refine Zt Z<|Ye Z<|Vd Z<|Zs<|Va Z ?_; refine Zu<|Vy Z<|Wo Z (Vl Z Z)<|Ym Z (fun h3 => ?_) (fun h3 => ?_); refine Yt Z<|Xb Z<|Vd Z<|Zs<|Xn Z fun h4 => ?_; refine Zz<|Zw<|Vq<|Yu Z<|Zs<|Vb ?_; refine Vk (v := .string _) Z ?_; refine ⟨congrArg str ?_, E1⟩; rotate_left; refine Zt Z<|Ye Z<|Vd Z<|Zs<|Va Z ?_; refine Zz<|Zu<|Yu Z<|Zs<|Vb ?_; refine Vk (v := .string _) Z ?_; refine ⟨congrArg str ?_, E1⟩; rotate_left
     all_goals first | rw [if_pos Kd] | rw [if_neg Kd]
 | some q =>
   rw [hq] at c8
   have hqp := (Sr hq).1
   have hq1 := hqp.1
   have c11 : ∀ (w : World) (v u : Value), ESl Ints w v p → ESl Ints w u q → Does Tryz.prog 67 [v, .int .i64 0, u, .int .i64 0] w (Ret w (.bool (hasV p 0 q 0))) := fun w v u h h' => spec_HasSet_ok w v u p q h h' hp hqp
   have c12 : ∀ (w : World) (v u : Value), ESl Ints w v p → ESl Ints w u q → Does Tryz.prog 121 [v, .int .i64 0, u, .int .i64 0] w (Ret w (.bool (ssetV p 0 q 0))) := fun w v u h h' => by
     have := Sw w v u p q h h' 0 0 ⟨hp, Ka⟩ ⟨hqp, Ka⟩
     rwa [show ssetV p 0 q 0 = decide (Bis p (0 : Int).toNat q (0 : Int).toNat) from decide_eq_decide.2 ⟨fun h => h.2.2, fun h => ⟨⟨hp, Ka⟩, ⟨hqp, Ka⟩, h⟩⟩]
   cases ho : okF R with
   | false =>
     rw [ho] at c9
     have ea : ask2 p wd R = if wd = [104, 97, 115] then ynV (hasV p 0 q 0) else if wd = [105, 115] then ynV (ssetV p 0 q 0) else [119, 104, 97, 116] := by unfold ask2; rw [ho, hq]; simp
     rw [ea]
     focus
       refine Zu<|Yu Z<|Zs<|Zu<|Vy Z<|Zv Z (Yl (a := .string _) Jq Z) (c8 _) ?_; rintro _ w1 ⟨u1, rfl, E1, hO1⟩; refine Xx Z<|Qh u1 Z<|Uf Z<|Xg u1 Z<|Vd Z<|Zs<|Zw<|Ve<|Zw<|Vq<|Vy Z<|Wo Z (Vl Z Z)<|Ym Z (fun h1 => ?_) (fun h1 => ?_); refine Vy Z<|Zv Z (Yl (a := .string _) Zj Z) (c9 _) ?_; rintro _ w2 ⟨rfl, E2⟩; refine Xb Z<|Vd Z<|Zs<|Va Z ?_; refine Zu<|Vy Z<|Wo Z (Vl Z Z)<|Ym Z (fun h2 => ?_) (fun h2 => ?_); refine Yt Z<|Xb Z<|Vd Z<|Zs<|Xr Z (fun h3 => ?_) (fun h3 => ?_)
       refine Zu<|Vm v Z<|Vm u1 Z<|Zv Z (Rx (a := v) (b := .int _ _) (c := u1) (d := .int _ _) Gu Z Z Z Z) (c11 _ _ _ ((Mono.mono exq h)) ((Mono.mono E2 (Owned.read hO1)))) ?_; rintro _ w3 ⟨rfl, E3⟩; refine Zv Z (Yl (a := .bool _) Jy Z) (yn _ _) ?_; rintro _ w4 ⟨rfl, E4⟩; refine Yu Z<|Zs<|Vb ?_; refine Vk (v := .string _) Z ?_; refine ⟨congrArg str ?_, exq⟩; rotate_left; contradiction; refine Zt Z<|Ye Z<|Vd Z<|Zs<|Va Z ?_; refine Zu<|Vy Z<|Wo Z (Vl Z Z)<|Ym Z (fun h3 => ?_) (fun h3 => ?_); refine Yt Z<|Xb Z<|Vd Z<|Zs<|Xr Z (fun h4 => ?_) (fun h4 => ?_)
       refine Zu<|Vm v Z<|Vm u1 Z<|Zv Z (Rx (a := v) (b := .int _ _) (c := u1) (d := .int _ _) Zh Z Z Z Z) (c12 _ _ _ ((Mono.mono exq h)) ((Mono.mono E2 (Owned.read hO1)))) ?_; rintro _ w3 ⟨rfl, E3⟩; refine Zv Z (Yl (a := .bool _) Jy Z) (yn _ _) ?_; rintro _ w4 ⟨rfl, E4⟩; refine Yu Z<|Zs<|Vb ?_; refine Vk (v := .string _) Z ?_; refine ⟨congrArg str ?_, exq⟩; rotate_left; contradiction; refine Zt Z<|Ye Z<|Vd Z<|Zs<|Va Z ?_; refine Zz<|Zu<|Yu Z<|Zs<|Vb ?_; refine Vk (v := .string _) Z ?_; refine ⟨congrArg str ?_, exq⟩; rotate_left; refine Zt Z<|Zt Z<|Ye Z<|Vd Z<|Zs<|Va Z ?_; refine Zu<|Vy Z<|Wo Z (Vl Z Z)<|Ym Z (fun h2 => ?_) (fun h2 => ?_)
       refine Yt Z<|Xb Z<|Vd Z<|Zs<|Xr Z (fun h3 => ?_) (fun h3 => ?_); refine Zu<|Vm v Z<|Vm u1 Z<|Zv Z (Rx (a := v) (b := .int _ _) (c := u1) (d := .int _ _) Gu Z Z Z Z) (c11 _ _ _ ((Mono.mono E1 h)) ((Owned.read hO1))) ?_; rintro _ w2 ⟨rfl, E2⟩; refine Zv Z (Yl (a := .bool _) Jy Z) (yn _ _) ?_; rintro _ w3 ⟨rfl, E3⟩; refine Yu Z<|Zs<|Vb ?_; refine Vk (v := .string _) Z ?_; refine ⟨congrArg str ?_, exq⟩; rotate_left; contradiction; refine Zt Z<|Ye Z<|Vd Z<|Zs<|Va Z ?_; refine Zu<|Vy Z<|Wo Z (Vl Z Z)<|Ym Z (fun h3 => ?_) (fun h3 => ?_); refine Yt Z<|Xb Z<|Vd Z<|Zs<|Xr Z (fun h4 => ?_) (fun h4 => ?_)
       refine Zu<|Vm v Z<|Vm u1 Z<|Zv Z (Rx (a := v) (b := .int _ _) (c := u1) (d := .int _ _) Zh Z Z Z Z) (c12 _ _ _ ((Mono.mono E1 h)) ((Owned.read hO1))) ?_; rintro _ w2 ⟨rfl, E2⟩; refine Zv Z (Yl (a := .bool _) Jy Z) (yn _ _) ?_; rintro _ w3 ⟨rfl, E3⟩; refine Yu Z<|Zs<|Vb ?_; refine Vk (v := .string _) Z ?_; refine ⟨congrArg str ?_, exq⟩; rotate_left; contradiction; refine Zt Z<|Ye Z<|Vd Z<|Zs<|Va Z ?_; refine Zz<|Zu<|Yu Z<|Zs<|Vb ?_; refine Vk (v := .string _) Z ?_; refine ⟨congrArg str ?_, E1⟩; rotate_left
     all_goals first | rw [if_pos Kd] | (rw [if_neg Kd]; first | rw [if_pos Kd] | rw [if_neg Kd])
   | true =>
     rw [ho] at c9
     have ea : ask2 p wd R = if wd = [104, 111, 108, 100, 115] then ynV (holdsV R p 0) else if wd = [104, 97, 115] then ynV (hasV p 0 q 0) else if wd = [105, 115] then ynV (ssetV p 0 q 0) else [119, 104, 97, 116] := by unfold ask2; rw [ho, hq]; simp
     rw [ea]
     focus
       refine Zu<|Yu Z<|Zs<|Zu<|Vy Z<|Zv Z (Yl (a := .string _) Jq Z) (c8 _) ?_; rintro _ w1 ⟨u1, rfl, E1, hO1⟩; refine Xx Z<|Qh u1 Z<|Uf Z<|Xg u1 Z<|Vd Z<|Zs<|Zw<|Ve<|Zw<|Vq<|Vy Z<|Wo Z (Vl Z Z)<|Ym Z (fun h1 => ?_) (fun h1 => ?_); refine Vy Z<|Zv Z (Yl (a := .string _) Zj Z) (c9 _) ?_; rintro _ w2 ⟨rfl, E2⟩; refine Xb Z<|Vd Z<|Zs<|Yi Z ?_; refine Zu<|Vy Z<|Vm v Z<|Zv Z (Uv (a := .string _) (b := v) (c := .int _ _) Tryz.call124 Z Z Z) (c10 _ _ ((Mono.mono exq h))) ?_; rintro _ w3 ⟨rfl, E3⟩; refine Zv Z (Yl (a := .bool _) Jy Z) (yn _ _) ?_; rintro _ w4 ⟨rfl, E4⟩; refine Yu Z<|Zs<|Vb ?_; refine Vk (v := .string _) Z ?_
       refine ⟨congrArg str ?_, exq⟩; rotate_left; refine Zt Z<|Zt Z<|Ye Z<|Vd Z<|Zs<|Va Z ?_; refine Zu<|Vy Z<|Wo Z (Vl Z Z)<|Ym Z (fun h2 => ?_) (fun h2 => ?_); refine Yt Z<|Xb Z<|Vd Z<|Zs<|Xr Z (fun h3 => ?_) (fun h3 => ?_); refine Zu<|Vm v Z<|Vm u1 Z<|Zv Z (Rx (a := v) (b := .int _ _) (c := u1) (d := .int _ _) Gu Z Z Z Z) (c11 _ _ _ ((Mono.mono E1 h)) ((Owned.read hO1))) ?_; rintro _ w2 ⟨rfl, E2⟩; refine Zv Z (Yl (a := .bool _) Jy Z) (yn _ _) ?_; rintro _ w3 ⟨rfl, E3⟩; refine Yu Z<|Zs<|Vb ?_; refine Vk (v := .string _) Z ?_; refine ⟨congrArg str ?_, exq⟩; rotate_left; contradiction; refine Zt Z<|Ye Z<|Vd Z<|Zs<|Va Z ?_
       refine Zu<|Vy Z<|Wo Z (Vl Z Z)<|Ym Z (fun h3 => ?_) (fun h3 => ?_); refine Yt Z<|Xb Z<|Vd Z<|Zs<|Xr Z (fun h4 => ?_) (fun h4 => ?_); refine Zu<|Vm v Z<|Vm u1 Z<|Zv Z (Rx (a := v) (b := .int _ _) (c := u1) (d := .int _ _) Zh Z Z Z Z) (c12 _ _ _ ((Mono.mono E1 h)) ((Owned.read hO1))) ?_; rintro _ w2 ⟨rfl, E2⟩; refine Zv Z (Yl (a := .bool _) Jy Z) (yn _ _) ?_; rintro _ w3 ⟨rfl, E3⟩; refine Yu Z<|Zs<|Vb ?_; refine Vk (v := .string _) Z ?_; refine ⟨congrArg str ?_, exq⟩; rotate_left; contradiction; refine Zt Z<|Ye Z<|Vd Z<|Zs<|Va Z ?_; refine Zz<|Zu<|Yu Z<|Zs<|Vb ?_; refine Vk (v := .string _) Z ?_; refine ⟨congrArg str ?_, E1⟩; rotate_left
     all_goals first | rw [if_pos Kd] | (rw [if_neg Kd]; first | rw [if_pos Kd] | (rw [if_neg Kd]; first | rw [if_pos Kd] | rw [if_neg Kd]))
theorem shift_row {n:Nat} {r:List Int} {o:Nat} (j:Nat) (hj:j < r.length) (hn:o+r.length≤n):(List.replicate o 0++r.take j++List.replicate (n - o - j) 0).set (o+j) r[j]=List.replicate o 0++r.take (j+1)++List.replicate (n - o - (j+1)) 0:=by
 rw [List.append_assoc,List.set_append_right _ _ Ki,List.append_assoc]
 congr 1
 rw [List.length_replicate,Nat.add_sub_cancel_left,List.set_append_right _ _ (by simp;omega)]
 rw [show j - (r.take j).length=0 by simp;omega,show n - o - j=(n - o - (j+1))+1 by omega,List.replicate_succ,List.set_cons_zero,Xc _ _ hj,List.append_assoc]
 rfl
theorem l6Put_ok (w:World) (v u vl vr:Value) (p q:List (List Int)) (L R:List Nat) (h:ESl Ints w v p) (h':ESl Ints w u q) (hL:Ints w vl (ints L)) (hR:Ints w vr (ints R)) (hp:Pic p) (hq:Pic q∨q=[])
  (hl : ∀ x ∈ L,x < p.length) (hr : ∀ x ∈ R,x < q.length) (hll:L.length≤1000) (hrl:R.length≤1000) :
  Does Tryz.prog 176 [v,u,vl,vr] w (RetO w XR (put (bes p q) (L++R.map (p.length + ·)))):=by
 have hp5:=hp.2.1
 have hq5:q.length≤5:=by rcases hq with hq | rfl;exact hq.2.1;simp
 have hqrow : ∀ (k:Nat) (hk:k < q.length),q[k].length=q.length:=fun k hk=>by
  rcases hq with hq | rfl
  ·exact hq.row hk
  ·cases hk
 have hil:=Xo L
 have hir:=Xo R
 obtain ⟨g,hg⟩ : ∃ g,g=p.length+q.length:=⟨_,rfl⟩
 refine Vu Tryz.func176 Z Tryz.results176 Tryz.ntmps176 Z ?_
 have keepR:True:=trivial
 focus
  refine Zu<|Xm Z<|Zs<|Zu<|Vm v Z<|Vv Kp Z h<|Yk Z<|Vm u Z<|Vv Kp Z h'<|Yk Z<|Yb Z<|Zs<|Zu<|Vc Z<|Nu Z Qq (int_z Ka Z) Ka ?_;rintro b1 w1 hb1 b1lt E1 hO1;refine Yj (ps:=[(0,.slice _ _ _)]) (cs:=[_]) Z Kp Kz Js Z Z Z Z ?_;rintro b2 w2 hb2 E2 hB1 hHb2;refine Xm Z<|Zs<|Zw<|Zu<|Yb Z<|Zs<|Ve ?_
 clear keepR
 obtain ⟨N,hN⟩ : ∃ N,N=(1+(p.length:Int)+(q.length:Int)).toNat:=⟨_,rfl⟩
 have hNg:N=g+1:=Ka
 rw [← hN] at hO1 hHb2
 have hO0:Owned w.heap.size XR w2 (.slice (some ⟨b2,0,none⟩) 1 1) [ro g []]:=by
  rw [ro_nil,← hNg]
  exact Owned.single (hO1.toB.ext E2) hHb2 Ka Ka
 clear hO1 hHb2 hB1
 have hrl0 : ∀ ms,(ro g ms).length=g+1:=fun ms=>ro_len
 refine Yw [11,28,29,30,31,32,33,34,35,36,37,38,39,40,41,42] (fun ((k,rows):Nat × List (List Int))=>[(11,.int .i64 (k:Nat))]) (fun (k,rows) w'=>Ext w w'∧k≤L.length∧Owned w.heap.size XR w' (.slice (some ⟨b2,0,none⟩) 1 1) rows∧rows=[ro g (L.take k)]) (fun x=>L.length - x.1) (0,[ro g []]) Kg ?_ ?_
 ·exact ⟨by exact (E1.trans E2),Nat.zero_le _,hO0,rfl⟩
 clear hO0
 rintro ⟨k,rows⟩ ρj w3 ⟨E3,hk,hO0,hrw⟩
 have hlr:rows.length=1:=by rw [hrw];rfl
 have hr0:rows[0]'Ka=ro g (L.take k):=by simp only [hrw,List.getElem_cons_zero]
 have hr0l:(rows[0]'Ka).length=g+1:=by rw [hr0];exact hrl0 _
 obtain ⟨br,cr,hRw,hbr1,hbr2⟩:=hO0.rowAt (i:=0) Ka Ka
 by_cases hlt:k < L.length
 ·have hgk:(ints L)[k]'Ka=(L[k]:Int):=Uo hlt
  have hLk:=hl L[k] (List.getElem_mem hlt)
  have hcell:=Mw hRw
  have heldS:w=w:=rfl
  focus
   refine Zw<|Zu<|Vc Z<|Vm vl Z<|Vv Ko Z hL<|Yc Z<|Zs<|Zx Z (fun h1=>?_) (fun h1=>?_);refine Zz<|Zw<|Ve<|Qr (fun w'=>Ext w w') Xy Z Kb ?_;intro w4 E4 K1 hz1;refine WtmS 0 Z Z exq<|Vf 1 Z Kb Kb Z (fun _ _=>Vn (k:=0) Kp Kz Z Z Ka) exq ?_;refine WtmV 3 vl Z Z exq<|Nh 4 Z Z exq<|Wh_get 5 6 Z Kb Kb Z Z Kb Kb (fun _=>Z) Ko Kl Kn Z hL (fun w' hw'=>Ext.trans (Ext.refl _) hw') Z Kf exq ?_;rintro _ _ rfl;refine Vf 7 Z Kb Kb Z (fun _ _=>Ub Z Z Ka) exq ?_
   refine Wha [2]<|Wh1 Z<|Wo Z (Yg Jc Z (E4.cell hcell))<|Wnx exq<|Vf 8 Z Kb Kb Z (fun _ _=>Ux Ko Kl Z Z Ka) exq ?_;refine Wha [9]<|Wh1 Z<|Sn Z Kl Z Z (hO0.toB.ext E4) (hRw.ext E4) Kf Kf ?_;rintro w5 hO0 hRw On1 K2 hz2;have E5:=On1.ext1 (E3.trans E4) Ka;refine Wnx E5<|Vs Kb ?_;refine Vq<|Vc Z<|Yk Z<|Yb Z<|Zs ?_;rotate_left;(exfalso;omega)
  refine ⟨((k+1,rows.set 0 (rows[0].set (1+(ints L)[k]'Ka).toNat 1))),Kg,Kh,?_,?_⟩
  ·refine ⟨by exact E5,Ka,by exact hO0,?_⟩
   rw [row_next (Q:=rows) (i:=0) (r:=ro g (L.take k)) (r':=ro g (L.take (k+1))) (by rw [hrw];rfl) Ka ?_]
   ·rw [hrw];rfl
   ·rw [hr0,show (1+(ints L)[k]'Ka).toNat=L[k]+1 by rw [hgk];omega,ro_step Ka,← Xc]
  ·simp only;omega
 ·obtain rfl:k=L.length:=by omega
  rw [List.take_length] at hrw hr0
  clear hRw
  focus
   refine Zw<|Zu<|Vc Z<|Vm vl Z<|Vv Ko Z hL<|Yc Z<|Zs<|Zy Z fun h1=>?_;refine Yp ?_;refine Vp ?_;refine Zw<|Zu<|Yb Z<|Zs<|Ve ?_
  refine Yw [12,43,44,45,46,47,48,49,50,51,52,53,54,55,56,57,58,59,60] (fun ((k,rows):Nat × List (List Int))=>[(12,.int .i64 (k:Nat))]) (fun (k,rows) w'=>Ext w w'∧k≤R.length∧Owned w.heap.size XR w' (.slice (some ⟨b2,0,none⟩) 1 1) rows∧rows=[ro g (L++(R.take k).map (p.length + ·))]) (fun x=>R.length - x.1) (0,rows) Kg ?_ ?_
  ·exact ⟨by exact E3,Nat.zero_le _,hO0,by rw [hrw];simp⟩
  clear hO0 hr0 hr0l hlr hrw
  rintro ⟨k,rows⟩ ρk w4 ⟨E4,hk,hO0,hrw⟩
  have hlr:rows.length=1:=by rw [hrw];rfl
  have hr0:rows[0]'Ka=ro g (L++(R.take k).map (p.length + ·)):=by simp only [hrw,List.getElem_cons_zero]
  have hr0l:(rows[0]'Ka).length=g+1:=by rw [hr0];exact hrl0 _
  obtain ⟨br,cr,hRw,hbr1,hbr2⟩:=hO0.rowAt (i:=0) Ka Ka
  by_cases hlt:k < R.length
  ·have hgk:(ints R)[k]'Ka=(R[k]:Int):=Uo hlt
   have hRk:=hr R[k] (List.getElem_mem hlt)
   have hcell:=Mw hRw
   have heldS:w=w:=rfl
   focus
    refine Zw<|Zu<|Vc Z<|Vm vr Z<|Vv Ko Z hR<|Yc Z<|Zs<|Zx Z (fun h2=>?_) (fun h2=>?_);refine Zz<|Zw<|Ve<|Qr (fun w'=>Ext w w') Xy Z Kb ?_;intro w5 E5 K1 hz1;refine WtmS 0 Z Z exq<|Vf 1 Z Kb Kb Z (fun _ _=>Vn (k:=0) Kp Kz Z Z Ka) exq ?_;refine WtmV 3 v Z Z exq<|Vf 4 Z Kb Kb Z (fun _ _=>Qt Kp Z h) exq ?_;refine Vf 5 Z Kb Kb Z (fun _ _=>Ub Z Z Ka) exq ?_
    refine WtmV 6 vr Z Z exq<|Nh 7 Z Z exq<|Wh_get 8 9 Z Kb Kb Z Z Kb Kb (fun _=>Z) Ko Kl Kn Z hR (fun w' hw'=>Ext.trans (Ext.refl _) hw') Z Kf exq ?_;rintro _ _ rfl;refine Vf 10 Z Kb Kb Z (fun _ _=>Ub Z Z Ka) exq ?_;refine Wha [2]<|Wh1 Z<|Wo Z (Yg Jc Z (E5.cell hcell))<|Wnx exq<|Vf 11 Z Kb Kb Z (fun _ _=>Ux Ko Kl Z Z Ka) exq ?_;refine Wha [12]<|Wh1 Z<|Sn Z Kl Z Z (hO0.toB.ext E5) (hRw.ext E5) Kf Kf ?_;rintro w6 hO0 hRw On1 K2 hz2;have E6:=On1.ext1 (E4.trans E5) Ka
    refine Wnx E6<|Vs Kb ?_;refine Vq<|Vc Z<|Yk Z<|Yb Z<|Zs ?_;rotate_left;(exfalso;omega)
   refine ⟨((k+1,rows.set 0 (rows[0].set (1+(p.length:Int)+(ints R)[k]'Ka).toNat 1))),Kg,Kh,?_,?_⟩
   ·refine ⟨by exact E6,Ka,by exact hO0,?_⟩
    rw [row_next (Q:=rows) (i:=0) (r:=ro g (L++(R.take k).map (p.length + ·))) (r':=ro g (L++(R.take (k+1)).map (p.length + ·))) (by rw [hrw];rfl) Ka ?_]
    ·rw [hrw];rfl
    ·rw [hr0,show (1+(p.length:Int)+(ints R)[k]'Ka).toNat=(p.length+R[k])+1 by rw [hgk];omega,ro_step Ka,Xc _ _ hlt,List.map_append,List.append_assoc]
     rfl
   ·simp only;omega
  ·obtain rfl:k=R.length:=by omega
   rw [List.take_length] at hrw hr0
   obtain ⟨ms,hms⟩ : ∃ ms,ms=L++R.map (p.length + ·):=⟨_,rfl⟩
   rw [← hms] at hrw hr0 ⊢
   clear hRw
   focus
    have szE4:=E4.size;have szE3:=E3.size;have szE2:=E2.size;have szE1:=E1.size;refine Zw<|Zu<|Vc Z<|Vm vr Z<|Vv Ko Z hR<|Yc Z<|Zs<|Zy Z fun h2=>?_;refine Yp ?_;refine Vp ?_;refine Zw<|Zu<|Yb Z<|Zs<|Ve ?_
   refine Yw [10,13,14,15,61,62,63,64,65,66,67,68,69,70,71,72,73,74,75,76,77,78,79,80,81,82,83,84,85,86,87,88,89] (fun ((k,o):Nat × Value)=>[(13,.int .i64 (k:Nat)),(10,o)]) (fun (k,o) w'=>Ext w w'∧k≤p.length∧Owned w.heap.size XR w' o (ro g ms::(p.take k).map fun r=>List.replicate 1 0++r++List.replicate q.length 0)) (fun x=>p.length - x.1) (0,.slice (some ⟨b2,0,none⟩) 1 1) Kg ?_ ?_
   ·exact ⟨by exact E4,Nat.zero_le _,by rw [hrw] at hO0;exact hO0⟩
   clear hO0 hr0 hr0l hlr hrw
   rintro ⟨k,o⟩ ρl w5 ⟨E5,hk,hO0⟩
   have htl:(ro g ms::(p.take k).map fun r=>List.replicate 1 0++r++List.replicate q.length 0).length=k+1:=by simp;omega
   by_cases hlt:k < p.length
   ·have hrow:=hp.row hlt
    focus
     have szE5:=E5.size;refine Zw<|Zu<|Vc Z<|Vm v Z<|Vv Kp Z h<|Yc Z<|Zs<|Zx Z (fun h3=>?_) (fun h3=>?_);refine Zz<|Zw<|Ve<|Zu<|Vc Z<|Nu Z Qq (int_z Ka Z) Ka ?_;rintro b3 w6 hb3 b3lt E6 hO1;have hs3:=E6.size;refine Xm Z<|Zs<|Zw<|Zu<|Yb Z<|Zs<|Ve ?_;rotate_left;(exfalso;omega)
    have hrl3 : ∀ j,j≤p.length→(List.replicate 1 (0:Int)++p[k].take j++List.replicate ((1+(p.length:Int)+(q.length:Int)).toNat - 1 - j) 0).length=g+1:=fun j hj=>by simp;omega
    refine Yw [15,69,70,71,72,73,74,75,76,77,78,79,80,81,82,83,84,85] (fun (j:Nat)=>[(15,.int .i64 (j:Nat))]) (fun j w'=>Ext w w'∧w5.heap.size≤w'.heap.size∧j≤p.length∧OwnedB w.heap.size w5.heap.size XR w' o (ro g ms::(p.take k).map fun r=>List.replicate 1 0++r++List.replicate q.length 0)∧Owned w5.heap.size XI w' (.slice (some ⟨b3,0,none⟩) (1+(p.length:Int)+(q.length:Int)).toNat (1+(p.length:Int)+(q.length:Int)).toNat) (List.replicate 1 0++p[k].take j++List.replicate ((1+(p.length:Int)+(q.length:Int)).toNat - 1 - j) 0)) (fun j=>p.length - j) 0 Kg ?_ ?_
    ·refine ⟨by exact (E5.trans E6),Ka,Nat.zero_le _,hO0.toB.ext (by exact E6),?_⟩
     rw [show List.replicate 1 (0:Int)++p[k].take 0++List.replicate ((1+(p.length:Int)+(q.length:Int)).toNat - 1 - 0) 0=List.replicate (1+(p.length:Int)+(q.length:Int)).toNat 0 by
      rw [List.take_zero,List.append_nil,List.replicate_append_replicate];congr 1;omega]
     exact hO1
    clear hO0 hO1
    rintro j ρm w7 ⟨E7,hs7,hj,hO0,hO1⟩
    have hrj:=hrl3 j hj
    by_cases hjl:j < p.length
    ·focus
      refine Zw<|Zu<|Vc Z<|Vm v Z<|Vv Kp Z h<|Yc Z<|Zs<|Zx Z (fun h4=>?_) (fun h4=>?_);refine Zz<|Zw<|Ve<|Vq<|Qo Z<|Vc Z<|Yk Z<|Vm v Z<|Vc Z<|Yy Kp Kz Jc Z (fun _=>Z) Z h E7 Z Kf ?_;rintro _ u1 hu1;refine Vc Z<|Yy Ko Kl Kn Z (fun _=>Z) Z hu1 E7 Z Kf ?_;rintro _ _ rfl;refine Wo Z (Ux Ko Kl Z Z Ka) ?_;refine Wo_set Z Kl Z Z hO1.toB Kf Owned.int (Nat.le_refl _) Ka ?_;rintro w8 hO1 On1 K1 hz1;have E8:=On1.ext1 E7 Ka;have hO0:=hO0.wrote K1 Ka
      refine Zs<|Vq<|Vc Z<|Yk Z<|Yb Z<|Zs ?_;rotate_left;(exfalso;omega)
     refine ⟨(j+1),Kg,Kh,?_,?_⟩
     ·refine ⟨by exact E8,Ka,Ka,by exact hO0,?_⟩
      rw [← shift_row j Ka Ka]
      have e:(1+(j:Int)).toNat=1+j:=Ka
      rw [← e]
      assumption
     ·omega
    ·obtain rfl:j=p.length:=by omega
     focus
      have szE7:=E7.size;have szE5:=E5.size;refine Zw<|Zu<|Vc Z<|Vm v Z<|Vv Kp Z h<|Yc Z<|Zs<|Zy Z fun h4=>?_;refine Yp ?_;refine Vp ?_;refine Vq<|Vm o Z<|Qo Z<|Yf (ps:=[(0,.slice _ _ _)]) (cs:=[_]) Z Kp Kz Js Z Z Z Z ?_;rintro b4 w8 hb4 E8 hB1;have hs4:=E8.size;refine Xu Z Rp Z Z hB1 (hO0.ext E8) (hO1.toB.ext E8).o Ka Kf Ka Ka (E7.trans E8) Ka ?_;rintro v1 w9 hO0 E9 M1;refine Xg v1 Z<|Zs<|Vq<|Vc Z<|Yk Z<|Yb Z<|Zs ?_
     refine ⟨((k+1,v1)),Kg,Kh,?_,?_⟩
     ·refine ⟨by exact E9,Ka,?_⟩
      rw [Xc _ _ hlt,List.map_append,← List.cons_append]
      have e:List.replicate 1 (0:Int)++p[k].take p.length++List.replicate ((1+(p.length:Int)+(q.length:Int)).toNat - 1 - p.length) 0=List.replicate 1 0++p[k]++List.replicate q.length 0:=by
       rw [List.take_of_length_le Ka];congr 2;omega
      simp only [List.map_cons,List.map_nil]
      rw [← e]
      assumption
     ·simp only;omega
   ·obtain rfl:k=p.length:=by omega
    rw [List.take_length] at hO0 htl
    focus
     refine Zw<|Zu<|Vc Z<|Vm v Z<|Vv Kp Z h<|Yc Z<|Zs<|Zy Z fun h3=>?_;refine Yp ?_;refine Vp ?_;refine Zw<|Zu<|Yb Z<|Zs<|Ve ?_
    refine Yw [10,16,17,18,90,91,92,93,94,95,96,97,98,99,100,101,102,103,104,105,106,107,108,109,110,111,112,113,114,115,116,117,118,119,120,121] (fun ((k,o):Nat × Value)=>[(16,.int .i64 (k:Nat)),(10,o)]) (fun (k,o) w'=>Ext w w'∧k≤q.length∧Owned w.heap.size XR w' o ((ro g ms::p.map fun r=>List.replicate 1 0++r++List.replicate q.length 0)++(q.take k).map fun r=>List.replicate (1+p.length) 0++r)) (fun x=>q.length - x.1) (0,o) Kg ?_ ?_
    ·exact ⟨by exact E5,Nat.zero_le _,by simpa using hO0⟩
    clear hO0
    rintro ⟨k,o2⟩ ρm w6 ⟨E6,hk,hO0⟩
    have htl2:((ro g ms::p.map fun r=>List.replicate 1 0++r++List.replicate q.length 0)++(q.take k).map fun r=>List.replicate (1+p.length) 0++r).length=p.length+1+k:=by rw [List.length_append,htl];simp;omega
    by_cases hlt:k < q.length
    ·have hrow:=hqrow k hlt
     focus
      have szE6:=E6.size;refine Zw<|Zu<|Vc Z<|Vm u Z<|Vv Kp Z h'<|Yc Z<|Zs<|Zx Z (fun h4=>?_) (fun h4=>?_);refine Zz<|Zw<|Ve<|Zu<|Vc Z<|Nu Z Qq (int_z Ka Z) Ka ?_;rintro b3 w7 hb3 b3lt E7 hO1;have hs3:=E7.size;refine Xm Z<|Zs<|Zw<|Zw<|Vq<|Yb Z<|Zs<|Ve ?_;rotate_left;(exfalso;omega)
     have hrl3 : ∀ j,j≤q.length→(List.replicate (1+p.length) (0:Int)++q[k].take j++List.replicate ((1+(p.length:Int)+(q.length:Int)).toNat - (1+p.length) - j) 0).length=g+1:=fun j hj=>by simp;omega
     refine Yw [18,98,99,100,101,102,103,104,105,106,107,108,109,110,111,112,113,114,115,116,117] (fun (j:Nat)=>[(18,.int .i64 (j:Nat))]) (fun j w'=>Ext w w'∧w6.heap.size≤w'.heap.size∧j≤q.length∧OwnedB w.heap.size w6.heap.size XR w' o2 ((ro g ms::p.map fun r=>List.replicate 1 0++r++List.replicate q.length 0)++(q.take k).map fun r=>List.replicate (1+p.length) 0++r)∧Owned w6.heap.size XI w' (.slice (some ⟨b3,0,none⟩) (1+(p.length:Int)+(q.length:Int)).toNat (1+(p.length:Int)+(q.length:Int)).toNat) (List.replicate (1+p.length) 0++q[k].take j++List.replicate ((1+(p.length:Int)+(q.length:Int)).toNat - (1+p.length) - j) 0)) (fun j=>q.length - j) 0 Kg ?_ ?_
     ·refine ⟨by exact (E6.trans E7),Ka,Nat.zero_le _,hO0.toB.ext (by exact E7),?_⟩
      rw [show List.replicate (1+p.length) (0:Int)++q[k].take 0++List.replicate ((1+(p.length:Int)+(q.length:Int)).toNat - (1+p.length) - 0) 0=List.replicate (1+(p.length:Int)+(q.length:Int)).toNat 0 by
       rw [List.take_zero,List.append_nil,List.replicate_append_replicate];congr 1;omega]
      exact hO1
     clear hO0 hO1
     rintro j ρn w8 ⟨E8,hs8,hj,hO0,hO1⟩
     have hrj:=hrl3 j hj
     by_cases hjl:j < q.length
     ·focus
       refine Zw<|Zu<|Vc Z<|Vm u Z<|Vv Kp Z h'<|Yc Z<|Zs<|Zx Z (fun h5=>?_) (fun h5=>?_);refine Zz<|Zw<|Ve<|Vq<|Qo Z<|Vm v Z<|Vv Kp Z h<|Yk Z<|Vc Z<|Yk Z<|Vm u Z<|Vc Z<|Yy Kp Kz Jc Z (fun _=>Z) Z h' E8 Z Kf ?_;rintro _ u1 hu1;refine Vc Z<|Yy Ko Kl Kn Z (fun _=>Z) Z hu1 E8 Z Kf ?_;rintro _ _ rfl;refine Wo Z (Ux Ko Kl Z Z Ka) ?_;refine Wo_set Z Kl Z Z hO1.toB Kf Owned.int (Nat.le_refl _) Ka ?_;rintro w9 hO1 On1 K1 hz1;have E9:=On1.ext1 E8 Ka
       have hO0:=hO0.wrote K1 Ka;refine Zs<|Vq<|Vc Z<|Yk Z<|Yb Z<|Zs ?_;rotate_left;(exfalso;omega)
      refine ⟨(j+1),Kg,Kh,?_,?_⟩
      ·refine ⟨by exact E9,Ka,Ka,by exact hO0,?_⟩
       rw [← shift_row j Ka Ka]
       have e:(1+(p.length:Int)+(j:Int)).toNat=1+p.length+j:=Ka
       rw [← e]
       assumption
      ·omega
     ·obtain rfl:j=q.length:=by omega
      focus
       have szE8:=E8.size;have szE6:=E6.size;refine Zw<|Zu<|Vc Z<|Vm u Z<|Vv Kp Z h'<|Yc Z<|Zs<|Zy Z fun h5=>?_;refine Yp ?_;refine Vp ?_;refine Vq<|Vm o2 Z<|Qo Z<|Yf (ps:=[(0,.slice _ _ _)]) (cs:=[_]) Z Kp Kz Js Z Z Z Z ?_;rintro b4 w9 hb4 E9 hB1;have hs4:=E9.size;refine Xu Z Rp Z Z hB1 (hO0.ext E9) (hO1.toB.ext E9).o Ka Kf Ka Ka (E8.trans E9) Ka ?_;rintro v1 w10 hO0 E10 M1;refine Xg v1 Z<|Zs<|Vq<|Vc Z<|Yk Z<|Yb Z<|Zs ?_
      refine ⟨((k+1,v1)),Kg,Kh,?_,?_⟩
      ·refine ⟨by exact E10,Ka,?_⟩
       rw [Xc _ _ hlt,List.map_append,← List.append_assoc]
       have e:List.replicate (1+p.length) (0:Int)++q[k].take q.length++List.replicate ((1+(p.length:Int)+(q.length:Int)).toNat - (1+p.length) - q.length) 0=List.replicate (1+p.length) 0++q[k]:=by
        rw [List.take_of_length_le Ka,show (1+(p.length:Int)+(q.length:Int)).toNat - (1+p.length) - q.length=0 by omega];simp
       simp only [List.map_cons,List.map_nil]
       rw [← e]
       assumption
      ·simp only;omega
    ·obtain rfl:k=q.length:=by omega
     focus
      refine Zw<|Zu<|Vc Z<|Vm u Z<|Vv Kp Z h'<|Yc Z<|Zs<|Zy Z fun h4=>?_;refine Yp ?_;refine Vp ?_;refine Zu<|Vm o2 Z<|Xg o2 Z<|Zs<|Vb ?_;refine ⟨E6,(congrArg (Owned _ _ _ _) ?_).mp (hO0.toB.o.mono Ka)⟩
     rw [List.take_length,put_eq,bes_len,← hg]
     unfold bes
     rw [List.map_append,List.map_map,List.map_map]
     simp only [List.cons_append,List.cons.injEq,true_and]
     congr 1
     ·refine List.map_congr_left fun r _=>?_
      simp [Nat.add_comm 1,List.replicate_succ]
theorem l6Least_ok (w:World) (v:Value) (p:List (List Int)) (h:ESl Ints w v p) (hp:Gr p) :
  Does Tryz.prog 175 [v] w (RetOB w XR (if (lst p 0).length≤5 then lst p 0 else []) (decide ((lst p 0).length≤5))):=by
 have hp5:=hp.2.1
 have hp1:=hp.1
 have hkl:=Tl (p:=p)
 have k1 : ∀ w,Does Tryz.prog 202 [.int .i64 (p.length:Int)] w (RetO w XR (matV p (bsm p 0))):=fun w=>by
  have:=l3Start_ok w p.length hp5
  rwa [matV_zero] at this
 have k2 : ∀ (n:Nat) (w:World) (v v':Value),ESl Ints w v p→ESl Ints w v' (matV p (bsm p n))→Does Tryz.prog 203 [v,v'] w (RetO w XR (matV p (bsm p (n+1)))):=fun n w v v' h h'=>l3Round_ok w v v' p h hp _ h'
 refine Ue Tryz.func175 Z Tryz.results175 Tryz.ntmps175 Z ?_
 focus
  refine Zu<|Xm Z<|Vd Z<|Zs<|Zu<|Vm v Z<|Vv Kp Z h<|Zv Z (Yl (a:=.int _ _) Tryz.call202 Z) (k1 _) ?_;rintro u1 w1 ⟨E1,hO1⟩;refine Xg u1 Z<|Zs<|Zw<|Zu<|Yb Z<|Zs<|Ve ?_
 refine Yw [4,5,17,18,19,20,21,22,23,24,25] (fun ((n,u):Nat × Value)=>[(5,.int .i64 (n:Nat)),(4,u)]) (fun (n,u) w'=>Ext w w'∧n≤p.length∧Owned w.heap.size XR w' u (matV p (bsm p n))) (fun x=>p.length - x.1) (0,u1) Kg ?_ ?_
 ·exact ⟨by exact E1,Nat.zero_le _,hO1⟩
 clear hO1
 rintro ⟨n,um⟩ ρj w2 ⟨E2,hn,hO1⟩
 have k2n:=k2 n
 by_cases hnl:n < p.length
 ·focus
   have szE2:=E2.size;refine Zw<|Zu<|Vc Z<|Vm v Z<|Vv Kp Z h<|Yc Z<|Zs<|Zx Z (fun h1=>?_) (fun h1=>?_);refine Zz<|Zw<|Ve<|Vq<|Vm v Z<|Vm um Z<|Zv Z (Yd (a:=v) (b:=um) Tryz.call203 Z Z) (k2n _ _ _ ((Mono.mono E2 h)) ((Owned.read hO1))) ?_;rintro u2 w3 ⟨E3,hO2⟩;refine Xg u2 Z<|Zs<|Vq<|Vc Z<|Yk Z<|Yb Z<|Zs ?_;rotate_left;(exfalso;omega)
  refine ⟨((n+1,u2)),Kg,Kh,?_,?_⟩
  ·exact ⟨by exact exq,Ka,hO2.mono Ka⟩
  ·simp only;omega
 ·obtain rfl:n=p.length:=by omega
  clear k1 k2 k2n
  have hml:=Qu (p:=p) (bsm p p.length)
  have rM:=hO1.read
  clear hO1
  focus
   have szE2:=E2.size;refine Zw<|Zu<|Vc Z<|Vm v Z<|Vv Kp Z h<|Yc Z<|Zs<|Zy Z fun h1=>?_;refine Yp ?_;refine Vp ?_;refine Zw<|Vq<|Xq XInt Z Qq Kl ?_;rintro b1 w3 hb1 b1lt E3 hO1;refine Xm Z<|Zs<|Zw<|Zw<|Vq<|Yb Z<|Zs<|Ve ?_
  refine Yw [6,7,8,27,28,29,30,31,32,33,34,35,36,37,38,39,40,41,42,43,44,45,46,47,48,49,50] (fun ((k,u):Nat × Value)=>[(7,.int .i64 (k:Nat)),(6,u)]) (fun (k,u) w'=>Ext w2 w'∧k≤p.length∧Owned w2.heap.size XI w' u ((ints (kndL p)).take k)) (fun x=>p.length - x.1) (0,.slice (some ⟨b1,0,none⟩) 0 0) Kg ?_ ?_
  ·exact ⟨by exact E3,Nat.zero_le _,by simpa using hO1⟩
  clear hO1
  rintro ⟨k,uk⟩ ρk w4 ⟨E4,hk,hO1⟩
  have htl:((ints (kndL p)).take k).length=k:=by simp;omega
  by_cases hlt:k < p.length
  ·obtain ⟨g1,g2,g3⟩:=Ty hlt
   focus
    have szE4:=E4.size;refine Zw<|Zu<|Vc Z<|Vm v Z<|Vv Kp Z h<|Yc Z<|Zs<|Zx Z (fun h2=>?_) (fun h2=>?_);refine Zz<|Zw<|Ve<|Zu<|Yb Z<|Zs<|Ve ?_;rotate_left;(exfalso;omega)
   refine Yw [6,8,33,34,35,36,37,38,39,40,41,42,43,44,45,46,47,48,49,50] (fun (j:Nat)=>[(8,.int .i64 (j:Nat)),(6,uk)]) (fun j w'=>w'=w4∧j≤knd p k) (fun j=>p.length - j) 0 Kg ?_ ?_
   ·exact ⟨rfl,Nat.zero_le _⟩
   rintro j ρl w5 ⟨rfl,hj⟩
   have hmr:=Rt (p:=p) (S:=bsm p p.length) hlt
   have hma:=Su (p:=p) (S:=bsm p p.length) (a:=k) (b:=j) hlt Ka
   rcases Nat.lt_or_ge j (knd p k) with hjl | hjl
   ·have h0:((matV p (bsm p p.length))[k]'Ka)[j]'Ka=0:=by rw [hma,show bsm p p.length k j=false from g3 j hjl];rfl
    focus
     refine Zw<|Zu<|Vc Z<|Vm v Z<|Vv Kp Z h<|Yc Z<|Zs<|Zx Z (fun h3=>?_) (fun h3=>?_);refine Zz<|Zw<|Ve<|Zu<|Vm um Z<|Vc Z<|Yy Kp Kz Jc Z (fun _=>Z) Z rM E4 Z Kf ?_;rintro _ u2 hu1;refine Vc Z<|Yy Ko Kl Kn Z (fun _=>Z) Z hu1 E4 Z Kf ?_;rintro _ _ rfl;refine Vr Z<|Zs<|Zy Z fun h4=>?_;refine Zz<|Vq<|Vc Z<|Yk Z<|Yb Z<|Zs ?_;rotate_left;(exfalso;omega)
    refine ⟨(j+1),Kg,Kh,?_,?_⟩
    ·exact ⟨rfl,Ka⟩
    ·omega
   ·obtain rfl:j=knd p k:=by omega
    have h1:((matV p (bsm p p.length))[k]'Ka)[knd p k]'Ka=1:=by rw [hma,show bsm p p.length k (knd p k)=true from g2];rfl
    focus
     have szE4:=E4.size;have szE2:=E2.size;refine Zw<|Zu<|Vc Z<|Vm v Z<|Vv Kp Z h<|Yc Z<|Zs<|Zx Z (fun h3=>?_) (fun h3=>?_);refine Zz<|Zw<|Ve<|Zu<|Vm um Z<|Vc Z<|Yy Kp Kz Jc Z (fun _=>Z) Z rM E4 Z Kf ?_;rintro _ u2 hu1;refine Vc Z<|Yy Ko Kl Kn Z (fun _=>Z) Z hu1 E4 Z Kf ?_;rintro _ _ rfl;refine Vr Z<|Zs<|Zx Z (fun h4=>?_) (fun h4=>?_);refine Zu<|Vm uk Z<|Vc Z<|Yj (ps:=[(0,.int _ _)]) (cs:=[_]) Z Ko Kl Ji Z Z Z Z ?_;rintro b2 w4 hb2 E5 hB1 hHb2;have hs3:=E5.size
     refine Xu Z Qq Z Z hB1 (hO1.toB.ext E5) Owned.int (Nat.le_refl _) Kf Ka Ka ((E2.trans E4).trans E5) Ka ?_;have hT1:=(hO1.toB.ext E5);rintro v1 w6 hO1 E6 M1;have E7:=M1.ext hT1 (E4.trans E5) Ka;refine Xg v1 Z<|Zs<|Yp ?_;refine exitX_other Z ?_;refine Vp ?_;refine Vq<|Vc Z<|Yk Z<|Yb Z<|Zs ?_;rotate_left;contradiction;(exfalso;omega)
    refine ⟨((k+1,v1)),Kg,Kh,?_,?_⟩
    ·refine ⟨by exact E7,Ka,?_⟩
     rw [Xc _ _ Ka,Rz]
     exact hO1
    ·simp only;omega
  ·obtain rfl:k=p.length:=by omega
   rw [List.take_of_length_le Ka] at hO1
   have rK:=hO1.read
   clear hO1
   focus
    have szE4:=E4.size;refine Zw<|Zu<|Vc Z<|Vm v Z<|Vv Kp Z h<|Yc Z<|Zs<|Vw Z fun h2=>?_;refine Yp ?_;refine Vp ?_;refine Zu<|Yj (ps:=[(0,.int _ _)]) (cs:=[_]) Z Ko Kl Ji Z Z Z Z ?_;rintro b2 w5 hb2 E5 hB1 hHb2;refine Xm Z<|Zs<|Zw<|Zu<|Yb Z<|Zs<|Ve ?_
   have hO2:Owned w4.heap.size XI w5 (.slice (some ⟨b2,0,none⟩) 1 1) (ints [0]):=Owned.block hHb2 hb2 rfl Kc ⟨⟨rfl,rfl⟩,trivial⟩
   clear hHb2 hB1
   refine Yw [9,10,11,12,13,52,53,54,55,56,57,58,59,60,61,62,63,64,65,66,67,68,69,70,71,72,73,74,75,76,77,78,79,80,81,82,83,84,85,86,87,88,89,90,91,92,93,94,95,96,97,98,99,100] (fun ((t,u,L):Nat × Value × List Nat)=>[(10,.int .i64 (t:Nat)),(9,u)]) (fun (t,u,L) w'=>Ext w4 w'∧Owned w4.heap.size XI w' u (ints L)∧Wlk p L∧t≤L.length∧∀ x ∈ L.take t,∀ j ∈ arr p x,knd p j ∈ L.map (knd p)) (fun x=>p.length - x.1) (0,.slice (some ⟨b2,0,none⟩) 1 1,[0]) Kg ?_ ?_
   ·exact ⟨by exact E5,hO2,Wlk.zero,Nat.zero_le _,Ki⟩
   clear hO2
   rintro ⟨t,u,L⟩ ρl w6 ⟨E6,hO2,hW,ht,hcl⟩
   have hLl:=hW.len hp
   have hLil:=Xo L
   by_cases htl:t < L.length
   ·obtain ⟨X,hX⟩ : ∃ X,X=L[t]:=⟨_,rfl⟩
    have hXl:X < p.length:=hX ▸ hW.lt hp (List.getElem_mem htl)
    have hrow:=hp.row hXl
    focus
     refine Zw<|Zu<|Vc Z<|Vm u Z<|Vv Ko Z (Owned.read hO2)<|Yc Z<|Zs<|Zx Z (fun h3=>?_) (fun h3=>?_);refine Zz<|Zw<|Ve<|Zu<|Yb Z<|Zs<|Ve ?_;rotate_left;(exfalso;omega)
    refine Yw [9,11,12,13,58,59,60,61,62,63,64,65,66,67,68,69,70,71,72,73,74,75,76,77,78,79,80,81,82,83,84,85,86,87,88,89,90,91,92,93,94,95,96,97,98,99,100] (fun ((j,u,L'):Nat × Value × List Nat)=>[(11,.int .i64 (j:Nat)),(9,u)]) (fun (j,u,L') w'=>Ext w4 w'∧j≤p.length∧Owned w4.heap.size XI w' u (ints L')∧Wlk p L'∧(∃ e,L'=L++e)∧∀ j' ∈ arr p X,j' < j→knd p j' ∈ L'.map (knd p)) (fun x=>p.length - x.1) (0,u,L) Kg ?_ ?_
    ·exact ⟨by exact E6,Nat.zero_le _,hO2,hW,⟨[],Ki⟩,fun j' _ h=>Ka⟩
    clear hO2
    rintro ⟨j,u',L'⟩ ρm w7 ⟨E7,hj,hO2,hW',⟨e,he⟩,hcl'⟩
    have hLl':=hW'.len hp
    have hLil':=Xo L'
    have htl':t < L'.length:=by rw [he];simp;omega
    have hXt:L'[t]=X:=by simp only [he];rw [List.getElem_append_left htl,hX]
    have hXm:X ∈ L':=hXt ▸ List.getElem_mem htl'
    have hgt:(ints L')[t]'Ka=(X:Int):=by rw [Uo htl',hXt]
    by_cases hjl:j < p.length
    ·have hgX:(p[((ints L')[t]'Ka).toNat]'(by rw [hgt];omega))=p[X]:=by simp only [hgt,Int.toNat_natCast]
     have hgXl:(p[((ints L')[t]'Ka).toNat]'(by rw [hgt];omega)).length=p.length:=by rw [hgX];exact hrow
     have hgXj:(p[((ints L')[t]'Ka).toNat]'(by rw [hgt];omega))[j]'Ka=p[X][j]:=by simp only [hgt,Int.toNat_natCast]
     have harX:j ∈ arr p X↔p[X][j]=1:=by
      rw [Qi hp hXl];unfold bit;rw [Yo hXl,Yo (show j < p[X].length by omega)]
      exact ⟨fun h=>h.2,fun h=>⟨hjl,h⟩⟩
     focus
      have szE7:=E7.size;refine Zw<|Zu<|Vc Z<|Vm v Z<|Vv Kp Z h<|Yc Z<|Zs<|Zx Z (fun h4=>?_) (fun h4=>?_);refine Zz<|Zw<|Ve<|Zu<|Vm v Z<|Vm u' Z<|Vc Z<|Yy Ko Kl Kn Z (fun _=>Z) Z (Owned.read hO2) (Ext.refl _) Z Kf ?_;rintro _ _ rfl;refine Rf Kp Kz Jc Z (fun _=>Z) Z h exq Z Kf ?_;rintro _ u2 hu1;refine Vc Z<|Yy Ko Kl Kn Z (fun _=>Z) Z hu1 exq Z Kf ?_;rintro _ _ rfl;refine Vr Z<|Vd Z<|Zs<|Zw<|Zu<|Yb Z<|Zs<|Ve ?_;rotate_left;(exfalso;omega)
     refine Yw [12,13,75,76,77,78,79,80,81,82,83,84,85,86,87,88,89,90,91,92,93,94,95] (fun ((m,f):Nat × Bool)=>[(13,.int .i64 (m:Nat)),(12,.bool f)]) (fun (m,f) w'=>Ext w7 w'∧m≤L'.length∧(f=true↔j ∈ arr p X∧knd p j ∉ (L'.take m).map (knd p))) (fun x=>L'.length - x.1) (0,decide ((p[((ints L')[t]'Ka).toNat]'(by rw [hgt];omega))[j]'Ka=1)) Kg ?_ ?_
     ·refine ⟨Ext.refl _,Nat.zero_le _,?_⟩
      rw [decide_eq_true_iff,hgXj,harX];simp
     rintro ⟨m,f⟩ ρn w9 ⟨E9,hm,hf⟩
     by_cases hml2:m < L'.length
     ·have hLm:=hW'.lt hp (List.getElem_mem hml2)
      have hgm:(ints L')[m]'Ka=(L'[m]:Int):=Uo hml2
      have hkm:(ints (kndL p))[((ints L')[m]'Ka).toNat]'(by rw [hgm,hkl];omega)=(knd p L'[m]:Int):=by
       simp only [hgm,Int.toNat_natCast];exact Rz _
      have hkj:(ints (kndL p))[j]'Ka=(knd p j:Int):=Rz _
      have hts:=Xc _ _ hml2
      have bm:((ints L')[m]'Ka).toNat < (ints (kndL p)).length:=by rw [hkl,hgm];omega
      cases f
      ·focus
        refine Zw<|Zu<|Vc Z<|Vm u' Z<|Vv Ko Z (Owned.read hO2)<|Yc Z<|Zs<|Zx Z (fun h5=>?_) (fun h5=>?_);refine Zz<|Zw<|Ve<|Ul Xy Kb Z ?_;refine Sh Z<|Sh Z<|Vg Z<|Vg Z<|Vg Z<|Vg Z<|Vg Z<|Vg Z<|Vg Z<|Vg Z<|Vg Z<|Vg Z<|Vg Z<|Vg Z<|Rq Z<|Na Z<|Ud (fun w8 E8=>?_);refine Vq<|Vc Z<|Yk Z<|Yb Z<|Zs ?_;rotate_left;(exfalso;omega)
       refine ⟨((m+1,false)),Kg,Kh,?_,?_⟩
       ·refine ⟨by exact exq,Ka,⟨fun h=>(by cases h),fun h=>?_⟩⟩
        rw [hts,List.map_append,List.mem_append,not_or] at h
        exact absurd (hf.2 ⟨h.1,h.2.1⟩) Ki
       ·simp only;omega
      ·focus
        refine Zw<|Zu<|Vc Z<|Vm u' Z<|Vv Ko Z (Owned.read hO2)<|Yc Z<|Zs<|Zx Z (fun h5=>?_) (fun h5=>?_);refine Zz<|Zw<|Ve<|Ul Xy Kb Z ?_;refine Sh Z<|Sh Z<|Rg uk Z<|Rg u' Z<|Sa Z<|Uk Ko Kl Kn Z (fun _=>Z) Z (Owned.read hO2) E9 Z Kf ?_;rintro _ _ rfl;refine Ti Ko Kl Kn Z (fun _=>Z) Z rK exq Z Kf ?_;rintro _ _ rfl;refine Rg uk Z<|Sa Z<|Uk Ko Kl Kn Z (fun _=>Z) Z rK exq Z Kf ?_;rintro _ _ rfl;refine Wqneq Z<|Ni Z<|Na Z<|Ud (fun w8 E8=>?_)
        refine Vq<|Vc Z<|Yk Z<|Yb Z<|Zs ?_;rotate_left;(exfalso;omega)
       refine ⟨((m+1,!decide ((ints (kndL p))[((ints L')[m]'Ka).toNat]'bm=(ints (kndL p))[j]'Ka))),Kg,Kh,?_,?_⟩
       ·refine ⟨by exact exq,Ka,?_⟩
        rw [hkm,hkj,hts,List.map_append,List.mem_append,not_or]
        have hf':=hf.1 rfl
        simp only [List.map_cons,List.map_nil,List.mem_singleton,Bool.not_eq_true',decide_eq_false_iff_not]
        constructor
        ·intro h;exact ⟨hf'.1,hf'.2,fun e=>h (by rw [e])⟩
        ·intro h e;exact h.2.2 Ka
       ·simp only;omega
     ·obtain rfl:m=L'.length:=by omega
      rw [List.take_length] at hf
      cases f
      ·focus
        refine Zw<|Zu<|Vc Z<|Vm u' Z<|Vv Ko Z (Owned.read hO2)<|Yc Z<|Zs<|Zy Z fun h5=>?_;refine Yp ?_;refine Vp ?_;refine Zu<|Yt Z<|Zs<|Va Z ?_;refine Zz<|Vq<|Vc Z<|Yk Z<|Yb Z<|Zs ?_
       refine ⟨((j+1,u',L')),Kg,Kh,?_,?_⟩
       ·refine ⟨by exact exq,Ka,by exact (Mono.mono E9 hO2),hW',⟨e,he⟩,fun j' h1 h2=>?_⟩
        rcases Nat.lt_or_ge j' j with h3 | h3
        ·exact hcl' j' h1 h3
        ·obtain rfl:j'=j:=by omega
         exact Classical.byContradiction fun h=>absurd (hf.2 ⟨h1,h⟩) Ki
       ·simp only;omega
      ·obtain ⟨hf1,hf2⟩:=hf.1 rfl
       focus
        have szE9:=E9.size;have szE7:=E7.size;refine Zw<|Zu<|Vc Z<|Vm u' Z<|Vv Ko Z (Owned.read hO2)<|Yc Z<|Zs<|Zy Z fun h5=>?_;refine Yp ?_;refine Vp ?_;refine Zu<|Yt Z<|Zs<|Yi Z ?_;refine Vq<|Vm u' Z<|Vc Z<|Yj (ps:=[(0,.int _ _)]) (cs:=[_]) Z Ko Kl Ji Z Z Z Z ?_;rintro b3 w8 hb3 E8 hB1 hHb3;have hs4:=E8.size;refine Xu Z Qq Z Z hB1 (hO2.toB.ext (E9.trans E8)) Owned.int (Nat.le_refl _) Kf Ka Ka ((((E2.trans E4).trans E7).trans E9).trans E8) Ka ?_;have hT1:=(hO2.toB.ext (E9.trans E8));rintro v1 w10 hO2 E10 M1;have E12:=M1.ext hT1 ((E7.trans E9).trans E8) Ka;have hB1:=hB1.moves M1 hT1 Ka
        refine Xg v1 Z<|Zs<|Vq<|Vc Z<|Yk Z<|Yb Z<|Zs ?_
       refine ⟨((j+1,v1,L'++[j])),Kg,Kh,?_,?_⟩
       ·refine ⟨by exact E12,Ka,?_,hW'.step hXm hf1 hf2,⟨e++[j],by rw [he,List.append_assoc]⟩,fun j' h1 h2=>?_⟩
        ·rw [ints_append];assumption
        ·rw [List.map_append,List.mem_append]
         rcases Nat.lt_or_ge j' j with h3 | h3
         ·exact .inl (hcl' j' h1 h3)
         ·obtain rfl:j'=j:=by omega
          exact .inr Ki
       ·simp only;omega
    ·obtain rfl:j=p.length:=by omega
     focus
      refine Zw<|Zu<|Vc Z<|Vm v Z<|Vv Kp Z h<|Yc Z<|Zs<|Vw Z fun h4=>?_;refine Yp ?_;refine Vp ?_;refine Vq<|Vc Z<|Yk Z<|Yb Z<|Zs ?_
     refine ⟨((t+1,u',L')),Kg,Kh,?_,?_⟩
     ·refine ⟨by exact E7,by exact hO2,hW',Ka,fun x hx j' hj'=>?_⟩
      rw [Xc _ _ htl'] at hx
      rcases List.mem_append.1 hx with hx | hx
      ·have hx2:x ∈ L.take t:=by rw [he,List.take_append_of_le_length Ka] at hx;exact hx
       have:=hcl x hx2 j' hj'
       rw [he,List.map_append]
       exact List.mem_append_left _ this
      ·rw [List.mem_singleton.1 hx,hXt] at hj'
       exact hcl' j' hj' (Un hp hXl hj')
     ·simp only;omega
   ·obtain rfl:t=L.length:=by omega
    rw [List.take_length] at hcl
    have hKds:=hW.kds hp hcl
    have hLlt : ∀ x ∈ L,x < p.length:=fun x hx=>hW.lt hp hx
    have hC:Cand p 0 (qp p (L.map (knd p))):=⟨_,hKds,rfl⟩
    have hcl2:(qp p (L.map (knd p))).length=L.length:=by rw [qp_len,List.length_map]
    have hll:=lst_len hp hp1 hC
    rw [hcl2] at hll
    by_cases h5:L.length≤5
    ·have h5':(lst p 0).length≤5:=by omega
     have hPc:=hC.pic hp hp1 Ka
     have k4 : ∀ (w:World) (v u t:Value),ESl Ints w v p→Ints w u (ints (kndL p))→Ints w t (ints L)→Does Tryz.prog 195 [v,u,t] w (RetO w XR (qp p (L.map (knd p)))):=fun w v u t h1 h2 h3=>by
      rw [← ptV_qp hp hLlt]
      refine l4Part_ok w v u t p _ _ h1 h2 h3 hp hkl (fun x hx=>?_) (by rw [Xo];omega)
      obtain ⟨y,hy,rfl⟩:=List.mem_map.1 hx
      have:=hLlt y hy
      omega
     have k5 : ∀ (w:World) (v:Value),ESl Ints w v (qp p (L.map (knd p)))→Does Tryz.prog 126 [v,.int .i64 0] w (RetO w XR (lst p 0)):=fun w v h=>by
      have:=Sl w v _ h 0
      rw [if_pos ⟨hPc,Kc,by have:=hPc.1;omega⟩] at this
      rw [(lst_same hp (hC.gr hp hp1) hp1 hPc.1).2 (hC.bis hp hp1)]
      exact this
     rw [if_pos h5',decide_eq_true h5']
     focus
      have szE6:=E6.size;refine Zw<|Zu<|Vc Z<|Vm u Z<|Vv Ko Z (Owned.read hO2)<|Yc Z<|Zs<|Zy Z fun h3=>?_;refine Yp ?_;refine Vp ?_;refine Zw<|Zu<|Vm u Z<|Vv Ko Z (Owned.read hO2)<|Ut Z<|Zs<|Zy Z fun h4=>?_;refine Zz<|Zw<|Vq<|Vm v Z<|Vm uk Z<|Vm u Z<|Zv Z (Uv (a:=v) (b:=uk) (c:=u) Tryz.call195 Z Z Z) (k4 _ _ _ _ ((Mono.mono exq h)) ((Mono.mono E6 rK)) ((Owned.read hO2))) ?_;rintro u2 w7 ⟨E7,hO1⟩;have hs4:=E7.size;refine Zv Z (Yd (a:=u2) (b:=.int _ _) Gk Z Z) (k5 _ _ ((Owned.read hO1))) ?_;rintro u3 w8 ⟨E8,hO3⟩;refine Xg u3 Z<|Vd Z<|Zs<|Vb ?_;refine Vk (v:=.tuple #[u3,.bool _]) Z ?_;exact ⟨_,rfl,exq,hO3.toB.o.mono Ka⟩
    ·have h5' : ¬(lst p 0).length≤5:=by omega
     rw [if_neg h5',decide_eq_false h5']
     focus
      have szE6:=E6.size;refine Zw<|Zu<|Vc Z<|Vm u Z<|Vv Ko Z (Owned.read hO2)<|Yc Z<|Zs<|Zy Z fun h3=>?_;refine Yp ?_;refine Vp ?_;refine Zw<|Zu<|Vm u Z<|Vv Ko Z (Owned.read hO2)<|Ut Z<|Zs<|Zx Z (fun h4=>?_) (fun h4=>?_);refine Zu<|Xq (XSl 3 XInt) Z Rp Kz ?_;rintro b3 w7 hb3 b3lt E7 hO1;refine Xm Z<|Vd Z<|Zs<|Vb ?_;refine Vk (v:=.tuple #[.slice _ _ _,.bool _]) Z ?_;exact ⟨_,rfl,exq,hO1.toB.o.mono Ka⟩;(exfalso;omega)
theorem l6Least_put (w:World) (v:Value) (g:List (List Int)) (ms:List Nat) (h:ESl Ints w v (put g ms)) (hg:Gr g) (hn:g.length≤10) :
  Does Tryz.prog 175 [v] w (RetOB w XR (og (putV g ms)) (putV g ms).isSome):=by
 rw [putV_og,putV_is]
 exact l6Least_ok w v _ h (put_gr hg hn)
theorem PairOf_ok (w:World) (v u:Value) (p q:List (List Int)) (h:ESl Ints w v p) (h':ESl Ints w u q) (a b:Nat) (ha:Nod p a) (hb:Nod q b):Does Tryz.prog 141 [v,.int .i64 (a:Int),u,.int .i64 (b:Int)] w (RetOB w XR (og (pairV p a q b)) (pairV p a q b).isSome):=by
 have la:a < p.length:=by have:=ha.2;omega
 have lb:b < q.length:=by have:=hb.2;omega
 have hle:=h.le
 have hle':=h'.le
 have hG:=ha.1.bes5 hb.1
 have n1 : ∀ (w:World) (v:Value),ESl Ints w v p→Does Tryz.prog 118 [v,.int .i64 (a:Int)] w (Ret w (.bool true)):=fun w v h=>by
  have:=Qx w v p h (a:Int);rwa [decide_eq_true ha] at this
 have n2 : ∀ (w:World) (v:Value),ESl Ints w v q→Does Tryz.prog 118 [v,.int .i64 (b:Int)] w (Ret w (.bool true)):=fun w v h=>by
  have:=Qx w v q h (b:Int);rwa [decide_eq_true hb] at this
 have k1 : ∀ (w:World) (v u vl vr:Value),ESl Ints w v p→ESl Ints w u q→Ints w vl [(a:Int)]→Ints w vr [(b:Int)]→Does Tryz.prog 176 [v,u,vl,vr] w (RetO w XR (put (bes p q) [a,p.length+b])):=fun w v u vl vr h1 h2 h3 h4 =>
  l6Put_ok w v u vl vr p q [a] [b] h1 h2 h3 h4 ha.1 (.inl hb.1) (fun x hx=>by rw [List.mem_singleton.1 hx];exact la) (fun x hx=>by rw [List.mem_singleton.1 hx];exact lb) Ki Ki
 have k2 : ∀ (w:World) (v:Value),ESl Ints w v (put (bes p q) [a,p.length+b])→Does Tryz.prog 175 [v] w (RetOB w XR (og (pairV p a q b)) (pairV p a q b).isSome):=fun w v h=>l6Least_put w v _ _ h hG.1 hG.2
 refine Ue Tryz.func141 Z Tryz.results141 Tryz.ntmps141 Z ?_
 have litown:True:=trivial
 focus
  refine Zu<|Xm Z<|Vd Z<|Zs<|Zw<|Zu<|Vm v Z<|Vc Z<|Zv Z (Yd (a:=v) (b:=.int _ _) Ge Z Z) (n1 _ _ (h)) ?_;rintro _ w1 ⟨rfl,E1⟩;have hs1:=E1.size;refine Xd Z<|Xi Z (Yh (v:=.bool _) Z) (fun h1=>?_) (fun h1=>?_);contradiction;refine Vm u Z<|Vc Z<|Zv Z (Yd (a:=u) (b:=.int _ _) Ge Z Z) (n2 _ _ ((Mono.mono E1 h'))) ?_;rintro _ w2 ⟨rfl,E2⟩;have hs2:=E2.size;refine Xd Z<|Ye Z<|Zs<|Xn Z fun h2=>?_;refine Zz<|Zu<|Vm v Z<|Vm u Z<|Vc Z<|Yj (ps:=[(0,.int _ _)]) (cs:=[_]) Z Ko Kl Ji Z Z Z Z ?_;rintro b1 w3 hb1 E3 hB1 hHb1;have hlb1:=hB1.lt;have hLb1:=own_lit1 hHb1 hb1;clear hHb1;have hs3:=E3.size
  refine Vc Z<|Yj (ps:=[(0,.int _ _)]) (cs:=[_]) Z Ko Kl Ji Z Z Z Z ?_;rintro b2 w4 hb2 E4 hB2 hHb2;have hlb2:=hB2.lt;have hLb2:=own_lit1 hHb2 hb2;clear hHb2;have hs4:=E4.size;refine Zv Z (Rx (a:=v) (b:=u) (c:=.slice _ _ _) (d:=.slice _ _ _) Tryz.call176 Z Z Z Z) (k1 _ _ _ _ _ ((Mono.mono exq h)) ((Mono.mono exq h')) ((Mono.mono E4 (Owned.read hLb1))) ((Owned.read hLb2))) ?_;rintro u1 w5 ⟨E5,hO1⟩;have ichO1:=OwnedB.isC (Owned.toB hO1);have hs5:=E5.size;refine Zv Z (Yl (a:=u1) Tryz.call175 Z) (k2 _ _ ((Owned.read hO1))) ?_;rintro _ w6 ⟨u2,rfl,E6,hO2⟩;have ichO2:=OwnedB.isC (Owned.toB hO2);have hs6:=E6.size;refine Qh u2 Z<|Uf Z<|Xg u2 Z<|Vd Z<|Zs<|Vb ?_;refine Vk (v:=.tuple #[u2,.bool _]) Z ?_
  exact ⟨_,rfl,exq,hO2.toB.o.mono Ka⟩
theorem TogetherOf_ok (w:World) (v u:Value) (p q:List (List Int)) (h:ESl Ints w v p) (h':ESl Ints w u q) (a b:Nat) (ha:Nod p a) (hb:Nod q b):Does Tryz.prog 142 [v,.int .i64 (a:Int),u,.int .i64 (b:Int)] w (RetOB w XR (og (togV p a q b)) (togV p a q b).isSome):=by
 have la:a < p.length:=by have:=ha.2;omega
 have lb:b < q.length:=by have:=hb.2;omega
 have hle:=h.le
 have hle':=h'.le
 have hG:=ha.1.bes5 hb.1
 have n1 : ∀ (w:World) (v:Value),ESl Ints w v p→Does Tryz.prog 118 [v,.int .i64 (a:Int)] w (Ret w (.bool true)):=fun w v h=>by
  have:=Qx w v p h (a:Int);rwa [decide_eq_true ha] at this
 have n2 : ∀ (w:World) (v:Value),ESl Ints w v q→Does Tryz.prog 118 [v,.int .i64 (b:Int)] w (Ret w (.bool true)):=fun w v h=>by
  have:=Qx w v q h (b:Int);rwa [decide_eq_true hb] at this
 have c1 : ∀ (w:World) (v:Value),ESl Ints w v p→Does Tryz.prog 119 [v,.int .i64 (a:Int)] w (RetO w XI (ints (arr p a))):=fun w v h=>Ta w v p h ha.1.gr a la
 have c2 : ∀ (w:World) (v:Value),ESl Ints w v q→Does Tryz.prog 119 [v,.int .i64 (b:Int)] w (RetO w XI (ints (arr q b))):=fun w v h=>Ta w v q h hb.1.gr b lb
 have k1 : ∀ (w:World) (v u vl vr:Value),ESl Ints w v p→ESl Ints w u q→Ints w vl (ints (arr p a))→Ints w vr (ints (arr q b))→Does Tryz.prog 176 [v,u,vl,vr] w (RetO w XR (put (bes p q) (arr p a++(arr q b).map (p.length + ·)))):=fun w v u vl vr h1 h2 h3 h4 =>
  l6Put_ok w v u vl vr p q _ _ h1 h2 h3 h4 ha.1 (.inl hb.1) (fun x hx=>Un ha.1.gr la hx) (fun x hx=>Un hb.1.gr lb hx) (by have:=Mu ha.1.gr la;have:=ha.1.2.1;omega) (by have:=Mu hb.1.gr lb;have:=hb.1.2.1;omega)
 have k2 : ∀ (w:World) (v:Value),ESl Ints w v (put (bes p q) (arr p a++(arr q b).map (p.length + ·)))→Does Tryz.prog 175 [v] w (RetOB w XR (og (togV p a q b)) (togV p a q b).isSome):=fun w v h=>by
  rw [togV_eq ha.1.gr hb.1.gr la lb]
  exact l6Least_put w v _ _ h hG.1 hG.2
 refine Ue Tryz.func142 Z Tryz.results142 Tryz.ntmps142 Z ?_
 focus
  refine Zu<|Xm Z<|Vd Z<|Zs<|Zw<|Zu<|Vm v Z<|Vc Z<|Zv Z (Yd (a:=v) (b:=.int _ _) Ge Z Z) (n1 _ _ (h)) ?_;rintro _ w1 ⟨rfl,E1⟩;have hs1:=E1.size;refine Xd Z<|Xi Z (Yh (v:=.bool _) Z) (fun h1=>?_) (fun h1=>?_);contradiction;refine Vm u Z<|Vc Z<|Zv Z (Yd (a:=u) (b:=.int _ _) Ge Z Z) (n2 _ _ ((Mono.mono E1 h'))) ?_;rintro _ w2 ⟨rfl,E2⟩;have hs2:=E2.size;refine Xd Z<|Ye Z<|Zs<|Xn Z fun h2=>?_;refine Zz<|Zu<|Vm v Z<|Vm u Z<|Vm v Z<|Vc Z<|Zv Z (Yd (a:=v) (b:=.int _ _) Gw Z Z) (c1 _ _ ((Mono.mono exq h))) ?_;rintro u1 w3 ⟨E3,hO1⟩;have hs3:=E3.size
  refine Vm u Z<|Vc Z<|Zv Z (Yd (a:=u) (b:=.int _ _) Gw Z Z) (c2 _ _ ((Mono.mono exq h'))) ?_;rintro u2 w4 ⟨E4,hO2⟩;have hs4:=E4.size;refine Zv Z (Rx (a:=v) (b:=u) (c:=u1) (d:=u2) Tryz.call176 Z Z Z Z) (k1 _ _ _ _ _ ((Mono.mono exq h)) ((Mono.mono exq h')) ((Mono.mono E4 (Owned.read hO1))) ((Owned.read hO2))) ?_;rintro u3 w5 ⟨E5,hO3⟩;have hs5:=E5.size;refine Zv Z (Yl (a:=u3) Tryz.call175 Z) (k2 _ _ ((Owned.read hO3))) ?_;rintro _ w6 ⟨u4,rfl,E6,hO4⟩;have hs6:=E6.size;refine Qh u4 Z<|Uf Z<|Xg u4 Z<|Vd Z<|Zs<|Vb ?_;refine Vk (v:=.tuple #[u4,.bool _]) Z ?_;exact ⟨_,rfl,exq,hO4.toB.o.mono Ka⟩
open Classical in
theorem WithoutSet_ok (w:World) (v u:Value) (p q:List (List Int)) (h:ESl Ints w v p) (h':ESl Ints w u q) (a b:Nat) (ha:Nod p a) (hb:Nod q b):Does Tryz.prog 143 [v,.int .i64 (a:Int),u,.int .i64 (b:Int)] w (RetOB w XR (og (wosV p a q b)) (wosV p a q b).isSome):=by
 have la:a < p.length:=by have:=ha.2;omega
 have lb:b < q.length:=by have:=hb.2;omega
 have hle:=h.le
 have hle':=h'.le
 have n1 : ∀ (w:World) (v:Value),ESl Ints w v p→Does Tryz.prog 118 [v,.int .i64 (a:Int)] w (Ret w (.bool true)):=fun w v h=>by
  have:=Qx w v p h (a:Int);rwa [decide_eq_true ha] at this
 have n2 : ∀ (w:World) (v:Value),ESl Ints w v q→Does Tryz.prog 118 [v,.int .i64 (b:Int)] w (Ret w (.bool true)):=fun w v h=>by
  have:=Qx w v q h (b:Int);rwa [decide_eq_true hb] at this
 have c1 : ∀ (w:World) (v:Value),ESl Ints w v p→Does Tryz.prog 119 [v,.int .i64 (a:Int)] w (RetO w XI (ints (arr p a))):=fun w v h=>Ta w v p h ha.1.gr a la
 have hal:=Mu ha.1.gr la
 have hail:=Xo (arr p a)
 have hp5:=ha.1.2.1
 refine Ue Tryz.func143 Z Tryz.results143 Tryz.ntmps143 Z ?_
 focus
  refine Zu<|Xm Z<|Vd Z<|Zs<|Zw<|Zu<|Vm v Z<|Vc Z<|Zv Z (Yd (a:=v) (b:=.int _ _) Ge Z Z) (n1 _ _ (h)) ?_;rintro _ w1 ⟨rfl,E1⟩;have hs1:=E1.size;refine Xd Z<|Xi Z (Yh (v:=.bool _) Z) (fun h1=>?_) (fun h1=>?_);contradiction;refine Vm u Z<|Vc Z<|Zv Z (Yd (a:=u) (b:=.int _ _) Ge Z Z) (n2 _ _ ((Mono.mono E1 h'))) ?_;rintro _ w2 ⟨rfl,E2⟩;have hs2:=E2.size;refine Xd Z<|Ye Z<|Zs<|Xn Z fun h2=>?_;refine Zz<|Zu<|Xq XInt Z Qq Kl ?_;rintro b1 w3 hb1 b1lt E3 hO1;have hs3:=E3.size;refine Xm Z<|Zs<|Zu<|Vm v Z<|Vc Z<|Zv Z (Yd (a:=v) (b:=.int _ _) Gw Z Z) (c1 _ _ ((Mono.mono exq h))) ?_;rintro u1 w4 ⟨E4,hO2⟩;have hs4:=E4.size
  refine Xg u1 Z<|Zs<|Zw<|Zu<|Yb Z<|Zs<|Ve ?_
 have hO3:Owned w.heap.size XI w4 (.slice (some ⟨b1,0,none⟩) 0 0) (ints []):=(hO1.ext E4).mono Ka
 have hBe:Besides (Value.ownBlock (.slice (some ⟨b1,0,none⟩) 0 0)) Ints w4 u1 (ints (arr p a)):=Besides.start hO1 hO2.above
 clear hO1 hO2
 have E0:Ext w w4:=by exact (((E1.trans E2).trans E3).trans E4)
 refine Yw [10,12,28,29,30,31,32,33,34,35,36,37,38,39,40,41,42,43,44,45,46,47,48,49] (fun ((k,u,L):Nat × Value × List Nat)=>[(12,.int .i64 (k:Nat)),(10,u)]) (fun (k,u,L) w'=>Ext w w'∧k≤(arr p a).length∧Owned w.heap.size XI w' u (ints L)∧Besides u.ownBlock Ints w' u1 (ints (arr p a))∧L=((arr p a).take k).filter fun v=>!decide (Bis p v q b)) (fun x=>(arr p a).length - x.1) (0,.slice (some ⟨b1,0,none⟩) 0 0,[]) Kg ?_ ?_
 ·exact ⟨by exact E0,Nat.zero_le _,hO3,hBe,Ki⟩
 clear hO3 hBe
 rintro ⟨k,uk,L⟩ ρj w5 ⟨E5,hk,hO3,hBe,hL⟩
 have hLle:L.length≤(arr p a).length:=by rw [hL];exact Nat.le_trans (List.length_filter_le _ _) (by rw [List.length_take];omega)
 have hLil:=Xo L
 by_cases hkl:k < (arr p a).length
 ·have hm:=Un ha.1.gr la (List.getElem_mem hkl)
  have hgk:(ints (arr p a))[k]'Ka=((arr p a)[k]:Int):=Uo hkl
  have hts:=Xc _ _ hkl
  have hnk:Nod p ((arr p a)[k]:Nat):=⟨ha.1,Ka,Ka⟩
  by_cases hB:Bis p (arr p a)[k] q b
  ·have k3 : ∀ (w:World) (v u:Value),ESl Ints w v p→ESl Ints w u q→Does Tryz.prog 121 [v,.int .i64 ((ints (arr p a))[k]'Ka),u,.int .i64 (b:Int)] w (Ret w (.bool true)):=fun w v u h1 h2=>by
    have:=Sw w v u p q h1 h2 (((arr p a)[k]:Nat):Int) (b:Int) hnk hb
    rw [hgk];simp only [Int.toNat_natCast] at this
    rwa [decide_eq_true hB] at this
   focus
    have szE5:=E5.size;have szE0:=E0.size;have szE4:=E4.size;have szE3:=E3.size;have szE2:=E2.size;have szE1:=E1.size;refine Zw<|Zu<|Vc Z<|Vm u1 Z<|Vv Ko Z (Besides.here hBe)<|Yc Z<|Zs<|Zx Z (fun h3=>?_) (fun h3=>?_);refine Zz<|Zw<|Ve<|Zu<|Vm v Z<|Vm u1 Z<|Vc Z<|Yy Ko Kl Kn Z (fun _=>Z) Z (Besides.here hBe) (Ext.refl _) Z Kf ?_;rintro _ _ rfl;refine Vm u Z<|Vc Z<|Zv Z (Rx (a:=v) (b:=.int _ _) (c:=u) (d:=.int _ _) Zh Z Z Z Z) (k3 _ _ _ ((Mono.mono E5 h)) ((Mono.mono E5 h'))) ?_;rintro _ w6 ⟨rfl,E6⟩;have hs5:=E6.size;refine Xd Z<|Zs<|Xn Z fun h4=>?_
    refine Zz<|Vq<|Vc Z<|Yk Z<|Yb Z<|Zs ?_;rotate_left;(exfalso;omega)
   refine ⟨((k+1,uk,L)),Kg,Kh,?_,?_⟩
   ·refine ⟨by exact (E5.trans E6),Ka,by exact (Mono.mono E6 hO3),by exact (hBe.ext E6),?_⟩
    rw [hL,hts,List.filter_append];simp [hB]
   ·simp only;omega
  ·have k3 : ∀ (w:World) (v u:Value),ESl Ints w v p→ESl Ints w u q→Does Tryz.prog 121 [v,.int .i64 ((ints (arr p a))[k]'Ka),u,.int .i64 (b:Int)] w (Ret w (.bool false)):=fun w v u h1 h2=>by
    have:=Sw w v u p q h1 h2 (((arr p a)[k]:Nat):Int) (b:Int) hnk hb
    rw [hgk];simp only [Int.toNat_natCast] at this
    rwa [decide_eq_false hB] at this
   focus
    have szE5:=E5.size;have szE0:=E0.size;have szE4:=E4.size;have szE3:=E3.size;have szE2:=E2.size;have szE1:=E1.size;refine Zw<|Zu<|Vc Z<|Vm u1 Z<|Vv Ko Z (Besides.here hBe)<|Yc Z<|Zs<|Zx Z (fun h3=>?_) (fun h3=>?_);refine Zz<|Zw<|Ve<|Zu<|Vm v Z<|Vm u1 Z<|Vc Z<|Yy Ko Kl Kn Z (fun _=>Z) Z (Besides.here hBe) (Ext.refl _) Z Kf ?_;rintro _ _ rfl;refine Vm u Z<|Vc Z<|Zv Z (Rx (a:=v) (b:=.int _ _) (c:=u) (d:=.int _ _) Zh Z Z Z Z) (k3 _ _ _ ((Mono.mono E5 h)) ((Mono.mono E5 h'))) ?_;rintro _ w6 ⟨rfl,E6⟩;have hs5:=E6.size;refine Xd Z<|Zs<|Xr Z (fun h4=>?_) (fun h4=>?_)
    refine Vq<|Vm uk Z<|Vm u1 Z<|Vc Z<|Yy Ko Kl Kn Z (fun _=>Z) Z (Besides.here hBe) E6 Z Kf ?_;rintro _ _ rfl;refine Yj (ps:=[(0,.int _ _)]) (cs:=[_]) Z Ko Kl Ji Z Z Z Z ?_;rintro b2 w7 hb2 E7 hB1 hHb2;have hlb2:=hB1.lt;have hs6:=E7.size;refine Xu Z Qq Z Z hB1 (hO3.toB.ext (E6.trans E7)) Owned.int (Nat.le_refl _) Kf Ka Ka ((E5.trans E6).trans E7) Ka ?_;have hT1:=(hO3.toB.ext (E6.trans E7));rintro v1 w8 hO3 E8 M1;have hBe:=(hBe.ext exq).moves M1;have hB1:=hB1.moves M1 hT1 Ka;have hs7:=E8.size;refine Xg v1 Z<|Zs<|Vq<|Vc Z<|Yk Z<|Yb Z<|Zs ?_;rotate_left;contradiction;(exfalso;omega)
   refine ⟨((k+1,v1,L++[(arr p a)[k]])),Kg,Kh,?_,?_⟩
   ·refine ⟨by exact E8,Ka,?_,by exact hBe,?_⟩
    ·rw [ints_append,show ints [(arr p a)[k]]=[(ints (arr p a))[k]'Ka] by rw [hgk];rfl]
     assumption
    ·rw [hL,hts,List.filter_append];simp [hB]
   ·simp only;omega
 ·obtain rfl:k=(arr p a).length:=by omega
  rw [List.take_length] at hL
  have hLm : ∀ x ∈ L,x < p.length:=fun x hx=>Un ha.1.gr la (List.mem_filter.1 (hL ▸ hx)).1
  have rL:=hO3.read
  have rA:=hBe.here
  clear hO3 hBe
  have hpp:=ha.1.gr
  have k1 : ∀ (w:World) (v u vl vr:Value),ESl Ints w v p→ESl Ints w u []→Ints w vl (ints L)→Ints w vr []→Does Tryz.prog 176 [v,u,vl,vr] w (RetO w XR (put (bes p []) (L++([]:List Nat).map (p.length + ·)))):=fun w v u vl vr h1 h2 h3 h4 =>
   l6Put_ok w v u vl vr p [] _ [] h1 h2 h3 h4 ha.1 (.inr rfl) hLm (fun x hx=>by cases hx) Ka Ki
  have k2 : ∀ (w:World) (v:Value),ESl Ints w v (put (bes p []) (L++([]:List Nat).map (p.length + ·)))→Does Tryz.prog 175 [v] w (RetOB w XR (og (wosV p a q b)) (wosV p a q b).isSome):=fun w v h=>by
   rw [wosV_eq,← hL]
   exact l6Least_put w v _ _ h (by rw [bes_nil];exact hpp) (by rw [bes_nil];omega)
  focus
   have szE5:=E5.size;have szE0:=E0.size;have szE4:=E4.size;have szE3:=E3.size;have szE2:=E2.size;have szE1:=E1.size;refine Zw<|Zu<|Vc Z<|Vm u1 Z<|Vv Ko Z rA<|Yc Z<|Zs<|Zy Z fun h3=>?_;refine Yp ?_;refine Vp ?_;refine Zu<|Vm v Z<|Xq (XSl 3 XInt) Z Rp Kz ?_;rintro b2 w6 hb2 b2lt E6 hO1;have hs5:=E6.size;refine Vm uk Z<|Xq XInt Z Qq Kl ?_;rintro b3 w7 hb3 b3lt E7 hO2;have hs6:=E7.size;refine Zv Z (Rx (a:=v) (b:=.slice _ _ _) (c:=uk) (d:=.slice _ _ _) Tryz.call176 Z Z Z Z) (k1 _ _ _ _ _ ((Mono.mono exq h)) ((Mono.mono E7 (Owned.read hO1))) ((Mono.mono exq rL)) ((Owned.read hO2))) ?_;rintro u2 w8 ⟨E8,hO3⟩;have hs7:=E8.size
   refine Zv Z (Yl (a:=u2) Tryz.call175 Z) (k2 _ _ ((Owned.read hO3))) ?_;rintro _ w9 ⟨u3,rfl,E9,hO4⟩;have hs8:=E9.size;refine Qh u3 Z<|Uf Z<|Xg u3 Z<|Vd Z<|Zs<|Vb ?_;refine Vk (v:=.tuple #[u3,.bool _]) Z ?_;exact ⟨_,rfl,exq,hO4.toB.o.mono Ka⟩
local notation "XD" => XSl 23 XR
theorem l11Rows_ok (w:World) (v:Value) (p:List (List Int)) (h:ESl Ints w v p) (hp:p.length≤100) (hr : ∀ r ∈ p,r.length≤100):Does Tryz.prog 113 [v] w (RetO w XR p):=by
 refine Vu Tryz.func113 Z Tryz.results113 Tryz.ntmps113 Z ?_
 focus
  refine Zu<|Xm Z<|Zs<|Zu<|Xq (XSl 3 XInt) Z Rp Kz ?_;rintro b1 w1 hb1 b1lt E1 hO1;refine Xm Z<|Zs<|Zw<|Zu<|Yb Z<|Zs<|Ve ?_
 refine Yw [3,4,6,7,8,9,10,11,12,13,14,15,16,17,18,19,20] (fun ((k,u):Nat × Value)=>[(4,.int .i64 (k:Nat)),(3,u)]) (fun (k,u) w'=>Ext w w'∧k≤p.length∧Owned w.heap.size XR w' u (p.take k)) (fun x=>p.length - x.1) (0,.slice (some ⟨b1,0,none⟩) 0 0) Kg ?_ ?_
 ·exact ⟨by exact E1,Nat.zero_le _,by simpa using hO1⟩
 clear hO1
 rintro ⟨k,u⟩ ρj w2 ⟨E2,hk,hO1⟩
 have hlt':(p.take k).length=k:=by simp;omega
 by_cases hlt:k < p.length
 ·have hrl:=hr _ (List.getElem_mem hlt)
  have heldS:w=w:=rfl
  focus
   have szE2:=E2.size;refine Zw<|Zu<|Vc Z<|Vm v Z<|Vv Kp Z h<|Yc Z<|Zs<|Zx Z (fun h1=>?_) (fun h1=>?_);refine Zz<|Zw<|Ve<|Vq<|Vm u Z<|Xq XInt Z Qq Kl ?_;rintro b2 w3 hb2 b2lt E3 hO2;have hs2:=E3.size;refine Vm v Z<|Vc Z<|Yy Kp Kz Jc Z (fun _=>Z) Z h exq Z Kf ?_;rintro _ u1 hu1;refine Wo_appS Z Qq Z Z (Mono.mono (E2.trans E3) hu1) hO2.toB Kf Ka Ka (E2.trans E3) Ka ?_;have hT1:=hO2.toB;rintro v1 w4 hO2 E4 M1;have hO1:=(hO1.toB.ext E3).moves M1 hT1 Ka;have szM1:=M1.1.size;refine Ui Z Kp Kz Js Z (OwnedB.isC hO2.toB) Z ?_
   rintro b3 w5 hb3 E6 hB1 hHb3;have hs4:=E6.size;refine Xu Z Rp Z Z hB1 (hO1.ext E6) (hO2.toB.ext E6).o Ka Kf Ka Ka (E4.trans E6) Ka ?_;rintro v2 w6 hO1 E7 M2;refine Xg v2 Z<|Zs<|Vq<|Vc Z<|Yk Z<|Yb Z<|Zs ?_;rotate_left;(exfalso;omega)
  refine ⟨((k+1,v2)),Kg,Kh,?_,?_⟩
  ·refine ⟨by exact E7,Ka,?_⟩
   rw [Xc _ _ hlt]
   exact hO1
  ·simp only;omega
 ·obtain rfl:k=p.length:=by omega
  rw [List.take_length] at hO1
  focus
   refine Zw<|Zu<|Vc Z<|Vm v Z<|Vv Kp Z h<|Yc Z<|Zs<|Zy Z fun h1=>?_;refine Yp ?_;refine Vp ?_;refine Zw<|Vq<|Vm u Z<|Xg u Z<|Zs<|Vb ?_;exact ⟨E2,hO1.toB.o.mono Ka⟩
theorem l11Copy_ok (w:World) (u1 u2:Value) (now:List (List Int)) (past:List (List (List Int))) (h1:ESl Ints w u1 now) (h2:ESl (ESl Ints) w u2 past) (hn:now.length≤100∧∀ r ∈ now,r.length≤100) (hpl:past.length≤100) (hp : ∀ p ∈ past,p.length≤100∧∀ r ∈ p,r.length≤100) :
  Does Tryz.prog 60 [.agg #[u1,u2]] w (RetDk w 23 88 3 now past):=by
 have k1 : ∀ (w:World) (v:Value),ESl Ints w v now→Does Tryz.prog 113 [v] w (RetO w XR now):=fun w v h=>l11Rows_ok w v now h hn.1 hn.2
 have k2 : ∀ (k:Nat) (hk:k < past.length) (w:World) (v:Value),ESl Ints w v past[k]→Does Tryz.prog 113 [v] w (RetO w XR past[k]):=fun k hk w v h=>l11Rows_ok w v _ h (hp _ (List.getElem_mem hk)).1 (hp _ (List.getElem_mem hk)).2
 refine fn_of_Wc Tryz.func60 Z Tryz.results60 Tryz.ntmps60 Z Kt Km ?_
 focus
  refine Zu<|Yx Z Z Z ?_;rintro b1 w1 hb1 E1 hB1;have hlb1:=hB1.lt;refine Yn Z Xj ?_;rintro b2 w2 hb2 E2 hB2;have hlb2:=hB2.lt;have hs2:=E2.size;refine Zs<|Zu<|Vo Kw Ja Z<|Yz u1 Kx (hB1.ext E2) Z<|Zv Z (Yl (a:=u1) Tryz.call113 Z) (k1 _ _ ((Mono.mono exq h1))) ?_;rintro u3 w3 ⟨E3,hO1⟩;have ichO1:=OwnedB.isC (Owned.toB hO1);have hs3:=E3.size;refine Wo Z (opv_buildF0 Xj Z (OwnedB.isC hO1.toB))<|Yn Z Xj ?_;rintro b3 w4 hb3 E4 hB3;have hlb3:=hB3.lt;have hs4:=E4.size;refine Xz Z Km Z Z Ke Ke hB3 Ka (((E1.trans E2).trans E3).trans E4) ?_;rintro w5 E5 hB3 K1 hz1;have E6:=((E2.trans E3).trans E4).wroteAt exq E5 K1 hz1 Ka;have szE6:=E6.size
  have E7:=(E3.trans E4).wroteAt exq E5 K1 hz1 Ka;have szE7:=E7.size;have E8:=E4.wroteAt exq E5 K1 hz1 Ka;simp only [List.set] at hB3;have hB1:=(hB1.ext exq).of_heap (K1 _ Ka);have hB2:=(hB2.ext exq).of_heap (K1 _ Ka);have hO1:=(hO1.toB.ext E4).wrote K1 Ka;refine Zs<|Zw<|Zu<|Yb Z<|Zs<|Ve ?_
 have hO0:Owned w4.heap.size XD w5 (.slice none 0 0) ([]:List (List (List Int))):=Owned.nil
 have hN:=hO1
 clear hO1 hB1 hB2 k1
 refine Yw [4,9,10,11,12,13,14,15,16,17,18,19,20,21,22,23,24,25,26] (fun ((k,u):Nat × Value)=>[(4,.int .i64 (k:Nat))]) (fun (k,u) w'=>Ext w3 w'∧k≤past.length∧w4.heap.size≤w'.heap.size∧Blk w' b3 [u3,u]∧Owned w4.heap.size XD w' u (past.take k)∧OwnedB w2.heap.size w3.heap.size XR w' u3 now) (fun x=>past.length - x.1) (0,.slice none 0 0) Kg ?_ ?_
 ·exact ⟨by exact E8,Nat.zero_le _,Ka,hB3,by simpa using hO0,hN⟩
 clear hO0 hB3 hN
 rintro ⟨k,u⟩ ρj w6 ⟨E6,hk,hsz,hB4,hO1,hN⟩
 have icu:isCell u=true:=OwnedB.isC hO1.toB
 have hlt':(past.take k).length=k:=by simp;omega
 by_cases hlt:k < past.length
 ·have k2k:=k2 k hlt
  have ht:=Xc _ _ hlt
  have heldS:w=w:=rfl
  focus
   have szE5:=E5.size;have szE4:=E4.size;refine Zw<|Zw<|Vq<|Vc Z<|Vo Kw Jd Z<|Yz u2 Jg (hB1.ext exq) Z<|Vv Jf Z h2<|Yc Z<|Zs<|Zx Z (fun h3=>?_) (fun h3=>?_);refine Zz<|Zw<|Ve<|Qr (fun w'=>Ext w w') Xy Z Kb ?_;intro w7 E9 K2 hz2;have hs5:=E9.size;refine Sb 0 Kw Jd Z Z exq<|Sb 2 Kw Jd Z Z exq<|Nh 4 Z Z exq<|Wha [1,3]<|Vi Z ?_ ?_
   refine Yz u Jg (hB4.ext E9) Z<|Wnx exq<|Wha [3]<|Wh1 Z<|Yz u2 Jg (hB1.ext exq) Z<|Wnx exq<|Wh_get 5 6 Z Kb Kb Z Z Kb Kb (fun _=>Z) Jf Ja Kx Z h2 (fun w' hw'=>Ext.trans (Ext.refl _) hw') Z Kf exq ?_;rintro _ u4 hu1;refine Wha [7]<|Wh1 Z<|Zv Z (Yl (a:=u4) Tryz.call113 Z) (k2k _ _ ((Mono.mono exq hu1))) ?_;rintro u5 w8 ⟨E10,hO2⟩;have hs6:=E10.size;refine Wnx exq<|Wha [8]<|Wh1 Z<|Ui Z Jf Ja Gf Z (OwnedB.isC hO2.toB) Z ?_;rintro b4 w9 hb4 E11 hB5 hHb4;have hlb4:=hB5.lt;have hs7:=E11.size
   refine Wnx exq<|Wha [9]<|Wh1 Z<|Xu Z el24 Z Z hB5 (hO1.toB.ext ((E9.trans E10).trans E11)) (hO2.toB.ext E11).o Ka Kf Ka Ka ((((((E1.trans E2).trans E3).trans E6).trans E9).trans E10).trans E11) Ka ?_;have hT1:=(hO1.toB.ext ((E9.trans E10).trans E11));rintro v1 w10 hO1 E12 M1;have E15:=M1.ext hT1 (((E6.trans E9).trans E10).trans E11) Ka;have hB4:=(hB4.ext exq).moves M1 hT1 Ka;have hN:=(hN.ext exq).moves M1 hT1 Ka;have szM1:=M1.1.size;refine Wnx E12<|Sb 10 Kw Jd Z Z E12<|Wha [11]<|Wh1 Z<|Xp (v:=v1) Z Jd Z Z (OwnedB.isC hO1.toB) hB4 Ki Ka E12 ?_;rintro w11 E16 hB4 K3 hz3;have E19:=E15.wroteAt E12 E16 K3 hz3 Ka;simp only [List.set] at hB4
   have hO1:=hO1.toB.wrote K3 Ka;have hN:=hN.wrote K3 Ka;refine Wnx E16<|Vs Kb ?_;refine Vq<|Vc Z<|Yk Z<|Yb Z<|Zs ?_;rotate_left;refine Wh1 Z<|Yz u2 Jg (hB1.ext exq) Z<|Wnx exq<|Wh_get 5 6 Z Kb Kb Z Z Kb Kb (fun _=>Z) Jf Ja Kx Z h2 (fun w' hw'=>Ext.trans (Ext.refl _) hw') Z Kf exq ?_;rintro _ u4 hu1;refine Wha [1,7]<|Vi Z ?_ ?_;refine Yz u Jg (hB4.ext E9) Z<|Wnx exq<|Wha [7]<|Wh1 Z<|Zv Z (Yl (a:=u4) Tryz.call113 Z) (k2k _ _ ((Mono.mono exq hu1))) ?_;rintro u5 w8 ⟨E10,hO2⟩;have hs6:=E10.size
   refine Wnx exq<|Wha [8]<|Wh1 Z<|Ui Z Jf Ja Gf Z (OwnedB.isC hO2.toB) Z ?_;rintro b4 w9 hb4 E11 hB5 hHb4;have hlb4:=hB5.lt;have hs7:=E11.size;refine Wnx exq<|Wha [9]<|Wh1 Z<|Xu Z el24 Z Z hB5 (hO1.toB.ext ((E9.trans E10).trans E11)) (hO2.toB.ext E11).o Ka Kf Ka Ka ((((((E1.trans E2).trans E3).trans E6).trans E9).trans E10).trans E11) Ka ?_;have hT1:=(hO1.toB.ext ((E9.trans E10).trans E11));rintro v1 w10 hO1 E12 M1;have E15:=M1.ext hT1 (((E6.trans E9).trans E10).trans E11) Ka;have hB4:=(hB4.ext exq).moves M1 hT1 Ka;have hN:=(hN.ext exq).moves M1 hT1 Ka;have szM1:=M1.1.size
   refine Wnx E12<|Sb 10 Kw Jd Z Z E12<|Wha [11]<|Wh1 Z<|Xp (v:=v1) Z Jd Z Z (OwnedB.isC hO1.toB) hB4 Ki Ka E12 ?_;rintro w11 E16 hB4 K3 hz3;have E19:=E15.wroteAt E12 E16 K3 hz3 Ka;simp only [List.set] at hB4;have hO1:=hO1.toB.wrote K3 Ka;have hN:=hN.wrote K3 Ka;refine Wnx E16<|Vs Kb ?_;refine Vq<|Vc Z<|Yk Z<|Yb Z<|Zs ?_;rotate_left;refine Wh1 Z<|Zv Z (Yl (a:=u4) Tryz.call113 Z) (k2k _ _ ((Mono.mono exq hu1))) ?_;rintro u5 w8 ⟨E10,hO2⟩;have hs6:=E10.size;refine Wnx exq<|Wha [1,8]<|Vi Z ?_ ?_;refine Yz u Jg (hB4.ext exq) Z<|Wnx exq<|Wha [8]<|Wh1 Z<|Ui Z Jf Ja Gf Z (OwnedB.isC hO2.toB) Z ?_
   rintro b4 w9 hb4 E11 hB5 hHb4;have hlb4:=hB5.lt;have hs7:=E11.size;refine Wnx exq<|Wha [9]<|Wh1 Z<|Xu Z el24 Z Z hB5 (hO1.toB.ext ((E9.trans E10).trans E11)) (hO2.toB.ext E11).o Ka Kf Ka Ka ((((((E1.trans E2).trans E3).trans E6).trans E9).trans E10).trans E11) Ka ?_;have hT1:=(hO1.toB.ext ((E9.trans E10).trans E11));rintro v1 w10 hO1 E12 M1;have E15:=M1.ext hT1 (((E6.trans E9).trans E10).trans E11) Ka;have hB4:=(hB4.ext exq).moves M1 hT1 Ka;have hN:=(hN.ext exq).moves M1 hT1 Ka;have szM1:=M1.1.size;refine Wnx E12<|Sb 10 Kw Jd Z Z E12<|Wha [11]<|Wh1 Z<|Xp (v:=v1) Z Jd Z Z (OwnedB.isC hO1.toB) hB4 Ki Ka E12 ?_;rintro w11 E16 hB4 K3 hz3
   have E19:=E15.wroteAt E12 E16 K3 hz3 Ka;simp only [List.set] at hB4;have hO1:=hO1.toB.wrote K3 Ka;have hN:=hN.wrote K3 Ka;refine Wnx E16<|Vs Kb ?_;refine Vq<|Vc Z<|Yk Z<|Yb Z<|Zs ?_;rotate_left;refine Wh1 Z<|Ui Z Jf Ja Gf Z (OwnedB.isC hO2.toB) Z ?_;rintro b4 w9 hb4 E11 hB5 hHb4;have hlb4:=hB5.lt;have hs7:=E11.size;refine Wnx exq<|Wha [1]<|Wh1 Z<|Yz u Jg (hB4.ext exq) Z<|Wnx exq<|Wha [9]<|Wh1 Z<|Xu Z el24 Z Z hB5 (hO1.toB.ext ((E9.trans E10).trans E11)) (hO2.toB.ext E11).o Ka Kf Ka Ka ((((((E1.trans E2).trans E3).trans E6).trans E9).trans E10).trans E11) Ka ?_;have hT1:=(hO1.toB.ext ((E9.trans E10).trans E11))
   rintro v1 w10 hO1 E12 M1;have E15:=M1.ext hT1 (((E6.trans E9).trans E10).trans E11) Ka;have hB4:=(hB4.ext exq).moves M1 hT1 Ka;have hN:=(hN.ext exq).moves M1 hT1 Ka;have szM1:=M1.1.size;refine Wnx E12<|Sb 10 Kw Jd Z Z E12<|Wha [11]<|Wh1 Z<|Xp (v:=v1) Z Jd Z Z (OwnedB.isC hO1.toB) hB4 Ki Ka E12 ?_;rintro w11 E16 hB4 K3 hz3;have E19:=E15.wroteAt E12 E16 K3 hz3 Ka;simp only [List.set] at hB4;have hO1:=hO1.toB.wrote K3 Ka;have hN:=hN.wrote K3 Ka;refine Wnx E16<|Vs Kb ?_;refine Vq<|Vc Z<|Yk Z<|Yb Z<|Zs ?_;rotate_left;(exfalso;omega)
  ·refine ⟨((k+1,v1)),Kg,Kh,?_,?_⟩
   ·refine ⟨by exact E19,Ka,Ka,hB4,?_,hN⟩
    rw [ht];exact hO1.o
   ·simp only;omega
  ·refine ⟨((k+1,v1)),Kg,Kh,?_,?_⟩
   ·refine ⟨by exact E19,Ka,Ka,hB4,?_,hN⟩
    rw [ht];exact hO1.o
   ·simp only;omega
  ·refine ⟨((k+1,v1)),Kg,Kh,?_,?_⟩
   ·refine ⟨by exact E19,Ka,Ka,hB4,?_,hN⟩
    rw [ht];exact hO1.o
   ·simp only;omega
  ·refine ⟨((k+1,v1)),Kg,Kh,?_,?_⟩
   ·refine ⟨by exact E19,Ka,Ka,hB4,?_,hN⟩
    rw [ht];exact hO1.o
   ·simp only;omega
 ·obtain rfl:k=past.length:=by omega
  rw [List.take_length] at hO1
  focus
   have szE6:=E6.size;have szE4:=E4.size;refine Zw<|Zw<|Vq<|Vc Z<|Vo Kw Jd Z<|Yz u2 Jg (hB1.ext exq) Z<|Vv Jf Z h2<|Yc Z<|Zs<|Zy Z fun h3=>?_;refine Yp ?_;refine Vp ?_;refine Zu<|Xk Kt Km hB4 Z<|Xz Z Km Z Z Ke Ke (hB2.ext (E3.trans E6)) Ka (((E1.trans E2).trans E3).trans E6) ?_;rintro w7 E9 hB2 K2 hz2;have hN:=hN.wrote K2 Ka;have hO1:=hO1.toB.wrote K2 Ka;refine Zs<|Vb ?_
  refine ⟨b2,u3,u,Z,Kd,u3,u,w3.heap.size,Z,by exact E9,?_,hO1.o.mono Ka,Ka,Ka⟩
  exact hN.wide Ka (Nat.le_refl _)
end Go.Proofs.YtbgpppaljpngmaaGreatDoor
