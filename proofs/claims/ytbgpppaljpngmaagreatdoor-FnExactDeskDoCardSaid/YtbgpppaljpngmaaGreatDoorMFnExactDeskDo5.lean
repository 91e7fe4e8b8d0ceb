/- Lemmas for FnExactDeskDo. -/
import Derived.Test.YtbgpppaljpngmaaGreatDoorMFnExactDeskDo4
namespace Go.Proofs.YtbgpppaljpngmaaGreatDoor
open Go.Hs
set_option maxRecDepth 10000
set_option maxHeartbeats 4000000
set_option linter.unusedVariables false
set_option linter.unusedSimpArgs false
theorem l6Arrows_ok (w:World) (v:Value) (p:List (List Int)) (h:ESl Ints w v p) (hp:Gr p) (a:Nat) (ha:a < p.length):Does Tryz.prog 119 [v,.int .i64 (a:Int)] w (RetO w XI (ints (arr p a))):=by
 have hle:=h.le
 have hp5:=hp.2.1
 have hrow:=hp.row ha
 have har:arr p a=(List.range p.length).filter fun j=>decide (p[a].getD j 0=1):=by unfold arr arrR;rw [getD_lt ha,hrow]
 refine Jc Tryz.func119 rfl Tryz.results119 Tryz.ntmps119 rfl ?_
 focus
  refine Ke <| Kc rfl <| Wo rfl (Kb (v:=.slice _ _ _) rfl) <| Kd <| Ke <| Kc rfl <| Js XInt rfl el88 Tryz.sizeOf3 ?_;rintro b1 w1 hb1 b1lt E1 hO1
  have hs1:=E1.size;refine Wo rfl (Kb (v:=.slice _ _ _) rfl) <| Kd <| Ke <| Ke <| Kc rfl <| Wo rfl (Kb (v:=.int _ _) rfl) <| Kd ?_
  refine Kr ?_
 refine Jh [5,6,8,9,10,11,12,13,14,15,16,17,18,19,20,21,22,23,24,25] (fun ((k,u):Nat × Value)=>[(6,.int .i64 (k:Nat)),(5,u)]) (fun (k,u) w'=>Ext w w'∧k≤p.length∧Owned w.heap.size XI w' u (ints ((List.range k).filter fun j=>decide (p[a].getD j 0=1)))) (fun x=>p.length - x.1) (0,.slice (some ⟨b1,0,none⟩) 0 0) (by repeat (first | exact trivial | refine And.intro rfl ?_)) ?_ ?_
 ·exact ⟨by exact E1,Nat.zero_le _,hO1⟩
 clear hO1
 rintro ⟨k,u⟩ ρj w2 ⟨E2,hk,hO1⟩
 have hfl:(ints ((List.range k).filter fun j=>decide (p[a].getD j 0=1))).length≤11:=by
  rw [ints_len];exact Nat.le_trans (List.length_filter_le _ _) (by rw [List.length_range];omega)
 by_cases hlt:k < p.length
 ·have hg:p[a].getD k 0=p[a][k]:=getD_lt (by omega)
  by_cases hc:p[a][k]=1
  ·focus
    have szE2:=E2.size;have szE1:=E1.size;refine Ke <| Ke <| Kc rfl <| Wo rfl (Ka (v:=.int _ _) rfl) <| Wo rfl (Ka (v:=v) rfl) ?_
    refine Wo rfl (Ko Tryz.underlying23 rfl h) <| Wo rfl (Ks rfl rfl) <| Kd <| Kg rfl (fun h1=>?_) (fun h1=>?_);refine Kt ?_;refine Ke <| Kr <| Ke ?_
    refine Kc rfl <| Wo rfl (Ka (v:=v) rfl) <| Wo rfl (Ka (v:=.int _ _) rfl) ?_
    refine Ji Tryz.underlying23 Tryz.sizeOf88 Tryz.isAgg88 rfl (fun _=>rfl) rfl h E2 rfl (by first | omega | (simp <;> omega)) ?_;rintro _ u1 hu1;refine Wo rfl (Ka (v:=.int _ _) rfl) ?_
    refine Ji Tryz.underlying88 Tryz.sizeOf3 Tryz.isAgg3 rfl (fun _=>rfl) rfl hu1 E2 rfl (by first | omega | (simp <;> omega)) ?_;rintro _ _ rfl;refine Wo rfl (Kx rfl rfl) <| Kd ?_
    refine Kg rfl (fun h2=>?_) (fun h2=>?_);refine Kc rfl <| Wo rfl (Ka (v:=u) rfl) <| Wo rfl (Ka (v:=.int _ _) rfl) ?_
    refine Jo (ps:=[(0,.int _ _)]) (cs:=[_]) rfl Tryz.underlying88 Tryz.sizeOf3 Tryz.zeroValue3 rfl rfl rfl rfl ?_;rintro b2 w3 hb2 E3 hB1 hHb2;have hlb2:=hB1.lt;have hs2:=E3.size
    refine Jv rfl el88 rfl rfl hB1 (hO1.toB.ext E3) Owned.int (Nat.le_refl _) (by first | omega | (simp <;> omega)) (by omega) (by omega) (E2.trans E3) (by omega) ?_;have hT1:=(hO1.toB.ext E3);rintro v1 w4 hO1 E4 M1
    have hB1:=hB1.moves M1 hT1 (by omega);have hs3:=E4.size;refine Wo rfl (Kb (v:=v1) rfl) <| Kd <| Kc rfl <| Wo rfl (Ka (v:=.int _ _) rfl) ?_
    refine Wo rfl (Kw rfl rfl (by omega)) ?_;refine Wo rfl (Kb (v:=.int _ _) rfl) <| Kd ?_;rotate_left;contradiction;(exfalso;omega)
   refine ⟨((k+1,v1)),by repeat (first | exact trivial | refine And.intro rfl ?_),by repeat (first | with_reducible exact Same.refl | refine Same.upd rfl ?_ | refine Same.upds rfl ?_ | refine Same.mix rfl ?_),?_,?_⟩
   ·refine ⟨by exact E4,by omega,?_⟩
    rw [filter_range_succ,hg,decide_eq_true hc,ints_append]
    exact hO1
   ·simp only;omega
  ·focus
    have szE2:=E2.size;have szE1:=E1.size;refine Ke <| Ke <| Kc rfl <| Wo rfl (Ka (v:=.int _ _) rfl) <| Wo rfl (Ka (v:=v) rfl) ?_
    refine Wo rfl (Ko Tryz.underlying23 rfl h) <| Wo rfl (Ks rfl rfl) <| Kd <| Kg rfl (fun h1=>?_) (fun h1=>?_);refine Kt ?_;refine Ke <| Kr <| Ke ?_
    refine Kc rfl <| Wo rfl (Ka (v:=v) rfl) <| Wo rfl (Ka (v:=.int _ _) rfl) ?_
    refine Ji Tryz.underlying23 Tryz.sizeOf88 Tryz.isAgg88 rfl (fun _=>rfl) rfl h E2 rfl (by first | omega | (simp <;> omega)) ?_;rintro _ u1 hu1;refine Wo rfl (Ka (v:=.int _ _) rfl) ?_
    refine Ji Tryz.underlying88 Tryz.sizeOf3 Tryz.isAgg3 rfl (fun _=>rfl) rfl hu1 E2 rfl (by first | omega | (simp <;> omega)) ?_;rintro _ _ rfl;refine Wo rfl (Kx rfl rfl) <| Kd ?_
    refine Kg rfl (fun h2=>?_) (fun h2=>?_);contradiction;refine Kt ?_;refine Kc rfl <| Wo rfl (Ka (v:=.int _ _) rfl) <| Wo rfl (Kw rfl rfl (by omega)) ?_
    refine Wo rfl (Kb (v:=.int _ _) rfl) <| Kd ?_;rotate_left;(exfalso;omega)
   refine ⟨((k+1,u)),by repeat (first | exact trivial | refine And.intro rfl ?_),by repeat (first | with_reducible exact Same.refl | refine Same.upd rfl ?_ | refine Same.upds rfl ?_ | refine Same.mix rfl ?_),?_,?_⟩
   ·refine ⟨by exact E2,by omega,?_⟩
    rw [filter_range_succ,hg,decide_eq_false hc]
    simp only [Bool.false_eq_true,if_false,List.append_nil]
    exact hO1
   ·simp only;omega
 ·obtain rfl:k=p.length:=by omega
  focus
   have szE2:=E2.size;have szE1:=E1.size;refine Ke <| Ke <| Kc rfl <| Wo rfl (Ka (v:=.int _ _) rfl) <| Wo rfl (Ka (v:=v) rfl) ?_
   refine Wo rfl (Ko Tryz.underlying23 rfl h) <| Wo rfl (Ks rfl rfl) <| Kd <| Kg rfl (fun h1=>?_) (fun h1=>?_);(exfalso;omega);refine Jg ?_;refine exitX_same ?_;refine Ke ?_
   refine Kc rfl <| Wo rfl (Ka (v:=u) rfl) <| Wo rfl (Kb (v:=u) rfl) <| Kd <| Ja ?_;refine ⟨E2,(congrArg (Owned _ _ _ _) ?_).mp (hO1.toB.o.mono (by omega))⟩
  rw [har]
open Classical in
theorem spec_SameSet_ok (w:World) (v u:Value) (p q:List (List Int)) (h:ESl Ints w v p) (h':ESl Ints w u q) (a b:Int) (ha:Nod p a) (hb:Nod q b):Does Tryz.prog 121 [v,.int .i64 a,u,.int .i64 b] w (Ret w (.bool (decide (Bis p a.toNat q b.toNat)))):=by
 have la:a.toNat < p.length:=by have:=ha.2;omega
 have lb:b.toNat < q.length:=by have:=hb.2;omega
 have hx:=lst_pic ha.1 la
 have hy:=lst_pic hb.1 lb
 have hx1:=hx.1
 have k1 : ∀ (w:World) (v:Value),ESl Ints w v p→Does Tryz.prog 126 [v,.int .i64 a] w (RetO w XR (lst p a.toNat)):=fun w v h=>by
  have:=LeastOf_ok w v p h a
  rwa [if_pos ha] at this
 have k2 : ∀ (w:World) (v:Value),ESl Ints w v q→Does Tryz.prog 126 [v,.int .i64 b] w (RetO w XR (lst q b.toNat)):=fun w v h=>by
  have:=LeastOf_ok w v q h b
  rwa [if_pos hb] at this
 have k3 : ∀ (w:World) (v:Value),ESl Ints w v (lst p a.toNat)→Does Tryz.prog 62 [v] w (Ret w (str (txt (lst p a.toNat)))):=fun w v h=>by
  have:=PictureText_ok w v _ h
  rwa [if_pos hx] at this
 have k4 : ∀ (w:World) (v:Value),ESl Ints w v (lst q b.toNat)→Does Tryz.prog 62 [v] w (Ret w (str (txt (lst q b.toNat)))):=fun w v h=>by
  have:=PictureText_ok w v _ h
  rwa [if_pos hy] at this
 have key:(lst p a.toNat=lst q b.toNat)↔Bis p a.toNat q b.toNat:=lst_same ha.1.gr hb.1.gr la lb
 have key2:txt (lst p a.toNat)=txt (lst q b.toNat)→lst p a.toNat=lst q b.toNat:=txt_inj hx.gr hy.gr
 refine Jc Tryz.func121 rfl Tryz.results121 Tryz.ntmps121 rfl ?_
 generalize lst p a.toNat=x at *
 generalize lst q b.toNat=y at *
 focus
  refine Ke <| Kc rfl <| Wo rfl (Kb (v:=.bool _) rfl) <| Kd <| Ke <| Kc rfl <| Wo rfl (Ka (v:=v) rfl) ?_
  refine Wo rfl (Ka (v:=.int _ _) rfl) <| Kj rfl (Jn (a:=v) (b:=.int _ _) Tryz.call126 rfl rfl) (k1 _ _ (h)) ?_;rintro u1 w1 ⟨E1,hO1⟩;have hs1:=E1.size;refine Wo rfl (Kb (v:=u1) rfl) ?_
  refine Kd <| Ke <| Kc rfl <| Wo rfl (Ka (v:=u) rfl) <| Wo rfl (Ka (v:=.int _ _) rfl) ?_
  refine Kj rfl (Jn (a:=u) (b:=.int _ _) Tryz.call126 rfl rfl) (k2 _ _ ((Mono.mono E1 h'))) ?_;rintro u2 w2 ⟨E2,hO2⟩;have hs2:=E2.size;refine Wo rfl (Kb (v:=u2) rfl) <| Kd <| Ke ?_
  refine Kc rfl <| Wo rfl (Ka (v:=u1) rfl) <| Wo rfl (Ko Tryz.underlying23 rfl (Owned.read hO1)) <| Wo rfl (opv_gtr rfl rfl) ?_
  refine Kv rfl (Ka (v:=.bool _) rfl) (fun h1=>?_) (fun h1=>?_);refine Wo rfl (Ka (v:=u1) rfl) <| Wo rfl (Ko Tryz.underlying23 rfl (Owned.read hO1)) ?_
  refine Wo rfl (Ka (v:=u2) rfl) <| Wo rfl (Ko Tryz.underlying23 rfl (Owned.read hO2)) <| Wo rfl (Kx rfl rfl) <| Wo rfl (Kz (v:=.bool _) rfl rfl) ?_
  refine Kv rfl (Ka (v:=.bool _) rfl) (fun h2=>?_) (fun h2=>?_);refine Wo rfl (Ka (v:=u1) rfl) <| Kj rfl (Jk (a:=u1) Tryz.call62 rfl) (k3 _ _ ((Mono.mono E2 (Owned.read hO1)))) ?_
  rintro _ w3 ⟨rfl,E3⟩;have hs3:=E3.size;refine Wo rfl (Ka (v:=u2) rfl) <| Kj rfl (Jk (a:=u2) Tryz.call62 rfl) (k4 _ _ ((Mono.mono E3 (Owned.read hO2)))) ?_;rintro _ w4 ⟨rfl,E4⟩;have hs4:=E4.size
  refine Wo rfl (opv_eql_str rfl rfl) <| Wo rfl (Kz (v:=.bool _) rfl rfl) <| Wo rfl (Kb (v:=.bool _) rfl) <| Kd <| Ja ?_;refine at_ret (v:=.bool _) rfl ?_
  refine ⟨congrArg Value.bool ?_,(((E1.trans E2).trans E3).trans E4)⟩;rotate_left;refine Ki rfl <| Ki rfl <| Ki rfl <| Ki rfl <| Ki rfl ?_
  refine Wo rfl (Kn (v:=.bool _) rfl rfl) <| Wo rfl (Kb (v:=.bool _) rfl) <| Kd <| Ja ?_;refine at_ret (v:=.bool _) rfl ?_;refine ⟨congrArg Value.bool ?_,(E1.trans E2)⟩
  rotate_left;(exfalso;omega)
 ·exact decide_eq_decide.2 ⟨fun e=>key.1 (key2 e),fun e=>by rw [key.2 e]⟩
 ·exact (decide_eq_false fun hb=>by have e:=congrArg List.length (key.2 hb);omega).symm
open Classical in
theorem LeastOk_ok (w:World) (v:Value) (p:List (List Int)) (h:ESl Ints w v p):Does Tryz.prog 73 [v] w (Ret w (.bool (decide (LeastP p)))):=by
 have hle:=h.le
 by_cases hp:Pic p
 ·have hn:Nod p 0:=⟨hp,by omega,by have:=hp.1;omega⟩
  have hx:=lst_pic hp (a:=0) (by have:=hp.1;omega)
  have hx1:=hx.1
  have k1 : ∀ (w:World) (v:Value),ESl Ints w v p→Does Tryz.prog 126 [v,.int .i64 0] w (RetO w XR (lst p 0)):=fun w v h=>by
   have:=LeastOf_ok w v p h 0
   rwa [if_pos hn] at this
  have k3 : ∀ (w:World) (v:Value),ESl Ints w v (lst p 0)→Does Tryz.prog 62 [v] w (Ret w (str (txt (lst p 0)))):=fun w v h=>by
   have:=PictureText_ok w v _ h
   rwa [if_pos hx] at this
  have k4 : ∀ (w:World) (v:Value),ESl Ints w v p→Does Tryz.prog 62 [v] w (Ret w (str (txt p))):=fun w v h=>by
   have:=PictureText_ok w v _ h
   rwa [if_pos hp] at this
  refine Jc Tryz.func73 rfl Tryz.results73 Tryz.ntmps73 rfl ?_
  have key:LeastP p↔lst p 0=p:=⟨fun h=>h.2,fun h=>⟨hp,h⟩⟩
  have key2:txt (lst p 0)=txt p→lst p 0=p:=txt_inj hx.gr hp.gr
  generalize lst p 0=x at *
  focus
   refine Ke <| Kc rfl <| Wo rfl (Kb (v:=.bool _) rfl) <| Kd <| Ke <| Kc rfl <| Wo rfl (Ka (v:=v) rfl) ?_
   refine Kj rfl (Jn (a:=v) (b:=.int _ _) Tryz.call126 rfl rfl) (k1 _ _ (h)) ?_;rintro u1 w1 ⟨E1,hO1⟩;have hs1:=E1.size;refine Wo rfl (Kb (v:=u1) rfl) <| Kd <| Ke ?_
   refine Kc rfl <| Wo rfl (Ka (v:=u1) rfl) <| Wo rfl (Ko Tryz.underlying23 rfl (Owned.read hO1)) <| Wo rfl (opv_gtr rfl rfl) ?_
   refine Kv rfl (Ka (v:=.bool _) rfl) (fun h1=>?_) (fun h1=>?_);refine Wo rfl (Ka (v:=u1) rfl) <| Wo rfl (Ko Tryz.underlying23 rfl (Owned.read hO1)) ?_
   refine Wo rfl (Ka (v:=v) rfl) <| Wo rfl (Ko Tryz.underlying23 rfl h) <| Wo rfl (Kx rfl rfl) <| Wo rfl (Kz (v:=.bool _) rfl rfl) ?_
   refine Kv rfl (Ka (v:=.bool _) rfl) (fun h2=>?_) (fun h2=>?_);refine Wo rfl (Ka (v:=u1) rfl) <| Kj rfl (Jk (a:=u1) Tryz.call62 rfl) (k3 _ _ ((Owned.read hO1))) ?_
   rintro _ w2 ⟨rfl,E2⟩;have hs2:=E2.size;refine Wo rfl (Ka (v:=v) rfl) <| Kj rfl (Jk (a:=v) Tryz.call62 rfl) (k4 _ _ ((Mono.mono (E1.trans E2) h))) ?_;rintro _ w3 ⟨rfl,E3⟩;have hs3:=E3.size
   refine Wo rfl (opv_eql_str rfl rfl) <| Wo rfl (Kz (v:=.bool _) rfl rfl) <| Wo rfl (Kb (v:=.bool _) rfl) <| Kd <| Ja ?_;refine at_ret (v:=.bool _) rfl ?_
   refine ⟨congrArg Value.bool ?_,((E1.trans E2).trans E3)⟩;rotate_left;refine Ki rfl <| Ki rfl <| Ki rfl <| Ki rfl <| Ki rfl ?_
   refine Wo rfl (Kn (v:=.bool _) rfl rfl) <| Wo rfl (Kb (v:=.bool _) rfl) <| Kd <| Ja ?_;refine at_ret (v:=.bool _) rfl ?_;refine ⟨congrArg Value.bool ?_,E1⟩;rotate_left
   (exfalso;omega)
  ·exact decide_eq_decide.2 ⟨fun e=>key.2 (key2 e),fun e=>by rw [key.1 e]⟩
  ·exact (decide_eq_false fun hb=>by have e:=congrArg List.length (key.1 hb);omega).symm
 ·have hn : ¬Nod p 0:=fun h=>hp h.1
  have k1 : ∀ (w:World) (v:Value),ESl Ints w v p→Does Tryz.prog 126 [v,.int .i64 0] w (RetO w XR []):=fun w v h=>by
   have:=LeastOf_ok w v p h 0
   rwa [if_neg hn] at this
  have hnil:(([]:List (List Int)).length:Int)=0:=rfl
  refine Jc Tryz.func73 rfl Tryz.results73 Tryz.ntmps73 rfl ?_
  focus
   refine Ke <| Kc rfl <| Wo rfl (Kb (v:=.bool _) rfl) <| Kd <| Ke <| Kc rfl <| Wo rfl (Ka (v:=v) rfl) ?_
   refine Kj rfl (Jn (a:=v) (b:=.int _ _) Tryz.call126 rfl rfl) (k1 _ _ (h)) ?_;rintro u1 w1 ⟨E1,hO1⟩;have hs1:=E1.size;refine Wo rfl (Kb (v:=u1) rfl) <| Kd <| Ke ?_
   refine Kc rfl <| Wo rfl (Ka (v:=u1) rfl) <| Wo rfl (Ko Tryz.underlying23 rfl (Owned.read hO1)) <| Wo rfl (opv_gtr rfl rfl) ?_
   refine Kv rfl (Ka (v:=.bool _) rfl) (fun h1=>?_) (fun h1=>?_);contradiction;refine Ki rfl <| Ki rfl <| Ki rfl <| Ki rfl <| Ki rfl ?_
   refine Wo rfl (Kn (v:=.bool _) rfl rfl) <| Wo rfl (Ka (v:=.bool _) rfl) <| Ki rfl <| Ki rfl <| Ki rfl <| Ki rfl <| Ki rfl ?_
   refine Wo rfl (Kn (v:=.bool _) rfl rfl) <| Wo rfl (Kb (v:=.bool _) rfl) <| Kd <| Ja ?_;refine at_ret (v:=.bool _) rfl ?_;refine ⟨congrArg Value.bool ?_,E1⟩
  exact (decide_eq_false fun hb=>hp hb.1).symm
open Classical in
theorem spec_DeskOk_ok (w:World) (u1 u2:Value) (d:Dsk) (h1:ESl Ints w u1 d.now) (h2:ESl (ESl Ints) w u2 d.past):Does Tryz.prog 16 [.agg #[u1,u2]] w (Ret w (.bool (decide (DkOk d)))):=by
 obtain ⟨p,pp⟩:=d
 have hle:=h2.le
 simp only at h1 h2 hle
 have icu1:isCell u1=true:=by obtain ⟨_,_,rfl,_⟩:=h1;rfl
 have icu2:isCell u2=true:=by obtain ⟨_,_,rfl,_⟩:=h2;rfl
 refine Jc Tryz.func16 rfl Tryz.results16 Tryz.ntmps16 rfl ?_
 focus
  refine Ke <| Kc rfl <| Jp rfl rfl rfl ?_;rintro b1 w1 hb1 E1 hB1;have hlb1:=hB1.lt;have hs1:=E1.size;refine Wo rfl (Kb (v:=.bool _) rfl) <| Kd <| Ke ?_
  refine Ke <| Kc rfl <| Wo rfl (Kb (v:=.int _ _) rfl) <| Kd <| Kr ?_
 refine Jh [2,3,4,5,6,7,8,9,10,11,12,13,14,15,16,17] (fun (k:Nat)=>[(3,.int .i64 (k:Nat))]) (fun k w'=>Ext w1 w'∧k≤pp.length∧∀ q ∈ pp.take k,LeastP q) (fun x=>pp.length - x) 0 (by repeat (first | exact trivial | refine And.intro rfl ?_)) ?_ ?_
 ·exact ⟨Ext.refl _,Nat.zero_le _,by simp⟩
 rintro k ρj w2 ⟨E2,hk,hall⟩
 by_cases hlt:k < pp.length
 ·by_cases hq:LeastP pp[k]
  ·have kq : ∀ (w:World) (v:Value),ESl Ints w v pp[k]→Does Tryz.prog 73 [v] w (Ret w (.bool true)):=fun w v h=>by
    have:=LeastOk_ok w v _ h
    rwa [decide_eq_true hq] at this
   focus
    have szE2:=E2.size;have szE1:=E1.size;refine Ke <| Ke <| Kc rfl <| Wo rfl (Ka (v:=.int _ _) rfl) <| Wo rfl (Kf Tryz.underlying26 rfl rfl Tryz.sizeOf24 rfl) ?_
    refine Wo (v:=u2) rfl (Km Tryz.isAgg24 rfl ((hB1.ext E2).cell rfl)) <| Wo rfl (Ko Tryz.underlying24 rfl h2) <| Wo rfl (Ks rfl rfl) <| Kd ?_
    refine Kg rfl (fun h3=>?_) (fun h3=>?_);refine Kt ?_;refine Ke <| Kr <| Ke <| Kc rfl <| Wo rfl (Kf Tryz.underlying26 rfl rfl Tryz.sizeOf24 rfl) ?_
    refine Wo (v:=u2) rfl (Km Tryz.isAgg24 rfl ((hB1.ext E2).cell rfl)) <| Wo rfl (Ka (v:=.int _ _) rfl) ?_
    refine Ji Tryz.underlying24 Tryz.sizeOf23 Tryz.isAgg23 rfl (fun _=>rfl) rfl h2 (E1.trans E2) rfl (by first | omega | (simp <;> omega)) ?_;rintro _ u3 hu1
    refine Kj rfl (Jk (a:=u3) Tryz.call73 rfl) (kq _ _ ((Mono.mono (E1.trans E2) hu1))) ?_;rintro _ w3 ⟨rfl,E3⟩;have hs2:=E3.size;refine Wo rfl (Jf rfl) <| Kd ?_
    refine Jx rfl (fun h4=>?_) (fun h4=>?_);contradiction;refine Kt ?_;refine Kc rfl <| Wo rfl (Ka (v:=.int _ _) rfl) <| Wo rfl (Kw rfl rfl (by omega)) ?_
    refine Wo rfl (Kb (v:=.int _ _) rfl) <| Kd ?_;rotate_left;(exfalso;omega)
   refine ⟨(k+1),by repeat (first | exact trivial | refine And.intro rfl ?_),by repeat (first | with_reducible exact Same.refl | refine Same.upd rfl ?_ | refine Same.upds rfl ?_ | refine Same.mix rfl ?_),?_,?_⟩
   ·refine ⟨by exact (E2.trans E3),by omega,fun q hq'=>?_⟩
    rw [take_snoc _ _ hlt] at hq'
    rcases List.mem_append.1 hq' with h | h
    ·exact hall q h
    ·rw [List.mem_singleton.1 h];exact hq
   ·omega
  ·have kq : ∀ (w:World) (v:Value),ESl Ints w v pp[k]→Does Tryz.prog 73 [v] w (Ret w (.bool false)):=fun w v h=>by
    have:=LeastOk_ok w v _ h
    rwa [decide_eq_false hq] at this
   focus
    have szE2:=E2.size;have szE1:=E1.size;refine Ke <| Ke <| Kc rfl <| Wo rfl (Ka (v:=.int _ _) rfl) <| Wo rfl (Kf Tryz.underlying26 rfl rfl Tryz.sizeOf24 rfl) ?_
    refine Wo (v:=u2) rfl (Km Tryz.isAgg24 rfl ((hB1.ext E2).cell rfl)) <| Wo rfl (Ko Tryz.underlying24 rfl h2) <| Wo rfl (Ks rfl rfl) <| Kd ?_
    refine Kg rfl (fun h3=>?_) (fun h3=>?_);refine Kt ?_;refine Ke <| Kr <| Ke <| Kc rfl <| Wo rfl (Kf Tryz.underlying26 rfl rfl Tryz.sizeOf24 rfl) ?_
    refine Wo (v:=u2) rfl (Km Tryz.isAgg24 rfl ((hB1.ext E2).cell rfl)) <| Wo rfl (Ka (v:=.int _ _) rfl) ?_
    refine Ji Tryz.underlying24 Tryz.sizeOf23 Tryz.isAgg23 rfl (fun _=>rfl) rfl h2 (E1.trans E2) rfl (by first | omega | (simp <;> omega)) ?_;rintro _ u3 hu1
    refine Kj rfl (Jk (a:=u3) Tryz.call73 rfl) (kq _ _ ((Mono.mono (E1.trans E2) hu1))) ?_;rintro _ w3 ⟨rfl,E3⟩;have hs2:=E3.size;refine Wo rfl (Jf rfl) <| Kd ?_
    refine Jx rfl (fun h4=>?_) (fun h4=>?_);refine Ke <| Kc rfl <| Wo rfl (Kb (v:=.bool _) rfl) <| Kd <| Ja ?_;refine at_ret (v:=.bool _) rfl ?_
    refine ⟨congrArg Value.bool ?_,((E1.trans E2).trans E3)⟩;rotate_left;contradiction;(exfalso;omega)
   exact (decide_eq_false fun h=>hq (h.2.2 _ (List.getElem_mem hlt))).symm
 ·obtain rfl:k=pp.length:=by omega
  rw [List.take_length] at hall
  by_cases hq:LeastP p
  ·have kq : ∀ (w:World) (v:Value),ESl Ints w v p→Does Tryz.prog 73 [v] w (Ret w (.bool true)):=fun w v h=>by
    have:=LeastOk_ok w v _ h
    rwa [decide_eq_true hq] at this
   focus
    have szE2:=E2.size;have szE1:=E1.size;refine Ke <| Ke <| Kc rfl <| Wo rfl (Ka (v:=.int _ _) rfl) <| Wo rfl (Kf Tryz.underlying26 rfl rfl Tryz.sizeOf24 rfl) ?_
    refine Wo (v:=u2) rfl (Km Tryz.isAgg24 rfl ((hB1.ext E2).cell rfl)) <| Wo rfl (Ko Tryz.underlying24 rfl h2) <| Wo rfl (Ks rfl rfl) <| Kd ?_
    refine Kg rfl (fun h3=>?_) (fun h3=>?_);(exfalso;omega);refine Jg ?_;refine exitX_same ?_;refine Ke <| Kc rfl <| Wo rfl (Kf Tryz.underlying26 rfl rfl Tryz.sizeOf23 rfl) ?_
    refine Wo (v:=u1) rfl (Km Tryz.isAgg23 rfl ((hB1.ext E2).cell rfl)) <| Kj rfl (Jk (a:=u1) Tryz.call73 rfl) (kq _ _ ((Mono.mono (E1.trans E2) h1))) ?_;rintro _ w3 ⟨rfl,E3⟩;have hs2:=E3.size
    refine Wo rfl (Ka (v:=.bool _) rfl) <| Wo rfl (Kf Tryz.underlying26 rfl rfl Tryz.sizeOf24 rfl) <| Wo (v:=u2) rfl (Km Tryz.isAgg24 rfl ((hB1.ext (E2.trans E3)).cell rfl)) ?_
    refine Wo rfl (Ko Tryz.underlying24 rfl h2) <| Wo rfl (opv_leq rfl rfl) <| Wo rfl (Kz (v:=.bool _) rfl rfl) <| Wo rfl (Kb (v:=.bool _) rfl) <| Kd <| Ja ?_
    refine at_ret (v:=.bool _) rfl ?_;refine ⟨congrArg Value.bool ?_,((E1.trans E2).trans E3)⟩
   exact decide_eq_decide.2 ⟨fun h=>⟨hq,show pp.length≤8 by omega,hall⟩,fun h=>by have:pp.length≤8:=h.2.1;omega⟩
  ·have kq : ∀ (w:World) (v:Value),ESl Ints w v p→Does Tryz.prog 73 [v] w (Ret w (.bool false)):=fun w v h=>by
    have:=LeastOk_ok w v _ h
    rwa [decide_eq_false hq] at this
   focus
    have szE2:=E2.size;have szE1:=E1.size;refine Ke <| Ke <| Kc rfl <| Wo rfl (Ka (v:=.int _ _) rfl) <| Wo rfl (Kf Tryz.underlying26 rfl rfl Tryz.sizeOf24 rfl) ?_
    refine Wo (v:=u2) rfl (Km Tryz.isAgg24 rfl ((hB1.ext E2).cell rfl)) <| Wo rfl (Ko Tryz.underlying24 rfl h2) <| Wo rfl (Ks rfl rfl) <| Kd ?_
    refine Kg rfl (fun h3=>?_) (fun h3=>?_);(exfalso;omega);refine Jg ?_;refine exitX_same ?_;refine Ke <| Kc rfl <| Wo rfl (Kf Tryz.underlying26 rfl rfl Tryz.sizeOf23 rfl) ?_
    refine Wo (v:=u1) rfl (Km Tryz.isAgg23 rfl ((hB1.ext E2).cell rfl)) <| Kj rfl (Jk (a:=u1) Tryz.call73 rfl) (kq _ _ ((Mono.mono (E1.trans E2) h1))) ?_;rintro _ w3 ⟨rfl,E3⟩;have hs2:=E3.size
    refine Wo rfl (Ka (v:=.bool _) rfl) <| Ki rfl <| Ki rfl <| Ki rfl <| Ki rfl <| Wo rfl (Kn (v:=.bool _) rfl rfl) ?_
    refine Wo rfl (Kb (v:=.bool _) rfl) <| Kd <| Ja ?_;refine at_ret (v:=.bool _) rfl ?_;refine ⟨congrArg Value.bool ?_,((E1.trans E2).trans E3)⟩
   exact (decide_eq_false fun h=>hq h.1).symm
theorem EqualI_ok (w:World) (v u:Value) (xs ys:List Int) (h:Ints w v xs) (h':Ints w u ys):Does Tryz.prog 140 [v,u] w (Ret w (.bool (decide (xs=ys)))):=by
 have hle:=h.le
 have hle':=h'.le
 refine Jc Tryz.func140 rfl Tryz.results140 Tryz.ntmps140 rfl ?_
 focus
  refine Ke <| Kc rfl <| Wo rfl (Kb (v:=.bool _) rfl) <| Kd <| Ke <| Ke <| Kc rfl <| Wo rfl (Ka (v:=v) rfl) ?_
  refine Wo rfl (Ko Tryz.underlying88 rfl h) <| Wo rfl (Ka (v:=u) rfl) <| Wo rfl (Ko Tryz.underlying88 rfl h') <| Wo rfl (Gb rfl rfl) <| Kd ?_
  refine Jj rfl (fun h1=>?_) (fun h1=>?_);refine Ke <| Kc rfl <| Wo rfl (Kb (v:=.bool _) rfl) <| Kd <| Ja ?_;refine at_ret (v:=.bool _) rfl ?_
  refine ⟨congrArg Value.bool ?_,(Ext.refl _)⟩;rotate_left;refine Kt ?_;refine Ke <| Ke <| Kc rfl <| Wo rfl (Ka (v:=v) rfl) <| Wo rfl (Ko Tryz.underlying88 rfl h) ?_
  refine Wo rfl (Ka (v:=.int _ _) rfl) <| Kd <| Kr ?_;rotate_left
 ·exact (decide_eq_false (fun e=>by subst e;omega)).symm
 refine Jh [4,5,13,14,15,16,17,18,19,20,21,22,23,24,25] (fun (k:Nat)=>[(13,.int .i64 (k:Nat))]) (fun k w'=>Ext w w'∧k≤xs.length∧xs.take k=ys.take k) (fun x=>xs.length - x) 0 (by repeat (first | exact trivial | refine And.intro rfl ?_)) ?_ ?_
 ·exact ⟨Ext.refl _,Nat.zero_le _,by simp⟩
 rintro k ρj w1 ⟨E1,hk,he⟩
 focus
  have szE1:=E1.size;refine Ke <| Kc rfl <| Wo rfl (Ks rfl rfl) <| Kd <| Ke <| Kg rfl (fun h2=>?_) (fun h2=>?_);refine Kt ?_;refine Ke ?_
  refine Kr <| Ke <| Kc rfl <| Wo rfl (Ka (v:=.int _ _) rfl) <| Wo rfl (Kb (v:=.int _ _) rfl) <| Kd <| Ke ?_
  refine W_draw mixed (by kernel_rfl) rfl ?_;refine Jb rfl (fun _ _=>Ka (v:=v) rfl) ?_;refine Jb rfl (fun _ _=>Ka (v:=.int _ _) rfl) ?_
  refine Wq_get Tryz.underlying88 Tryz.sizeOf3 Tryz.isAgg3 rfl (fun _=>rfl) rfl h E1 rfl (by first | omega | (simp <;> omega)) ?_;rintro _ _ rfl;refine Jb rfl (fun _ _=>Ka (v:=u) rfl) ?_
  refine Jb rfl (fun _ _=>Ka (v:=.int _ _) rfl) ?_;refine Wq_get Tryz.underlying88 Tryz.sizeOf3 Tryz.isAgg3 rfl (fun _=>rfl) rfl h' E1 rfl (by first | omega | (simp <;> omega)) ?_;rintro _ _ rfl
  refine Jb rfl (fun _ _=>Gb rfl rfl) ?_;refine Wq_nil (fun w2 E2=>?_);have hs1:=E2.size;refine Jj rfl (fun h3=>?_) (fun h3=>?_);refine Ke <| Kc rfl ?_
  refine Wo rfl (Kb (v:=.bool _) rfl) <| Kd <| Ja ?_;refine at_ret (v:=.bool _) rfl ?_;refine ⟨congrArg Value.bool ?_,(E1.trans E2)⟩;rotate_left;refine Kt ?_;refine Kc rfl ?_
  refine Wo rfl (Kw rfl rfl (by omega)) ?_;refine Wo rfl (Ka (v:=.int _ _) rfl) <| Kd ?_;rotate_left;refine Jg ?_;refine exitX_same ?_;refine Ke <| Kc rfl ?_
  refine Wo rfl (Kb (v:=.bool _) rfl) <| Kd <| Ja ?_;refine at_ret (v:=.bool _) rfl ?_;refine ⟨congrArg Value.bool ?_,E1⟩;rotate_left
 ·exact (decide_eq_false (ne_at (k:=k) (by omega) (by omega) (by assumption))).symm
 ·refine ⟨(k+1),by repeat (first | exact trivial | refine And.intro rfl ?_),by repeat (first | with_reducible exact Same.refl | refine Same.upd rfl ?_ | refine Same.upds rfl ?_ | refine Same.mix rfl ?_),?_,?_⟩
  ·exact ⟨E1.trans E2,by omega,(take_eq_snoc (by omega) (by omega)).2 ⟨he,by assumption⟩⟩
  ·omega
 ·obtain rfl:k=xs.length:=by omega
  exact (decide_eq_true (ext_take (by omega) he)).symm
theorem EqualFunc_ok (w:World) (v u:Value) (xs ys:List (List Int)) (h:ESl Ints w v xs) (h':ESl Ints w u ys) (hc : ∀ args w,Sem.run Tryz.prog (callFunc 140 args) w=.ok (.enter 140 args) w) :
  Does Tryz.prog 139 [v,u,.func (.func 140) [].toArray [].toArray] w (Ret w (.bool (decide (xs=ys)))):=by
 have hle:=h.le
 have hle':=h'.le
 refine Jc Tryz.func139 rfl Tryz.results139 Tryz.ntmps139 rfl ?_
 focus
  refine Ke <| Kc rfl <| Wo rfl (Kb (v:=.bool _) rfl) <| Kd <| Ke <| Ke <| Kc rfl <| Wo rfl (Ka (v:=v) rfl) ?_
  refine Wo rfl (Ko Tryz.underlying23 rfl h) <| Wo rfl (Ka (v:=u) rfl) <| Wo rfl (Ko Tryz.underlying23 rfl h') <| Wo rfl (Gb rfl rfl) <| Kd ?_
  refine Jj rfl (fun h1=>?_) (fun h1=>?_);refine Ke <| Kc rfl <| Wo rfl (Kb (v:=.bool _) rfl) <| Kd <| Ja ?_;refine at_ret (v:=.bool _) rfl ?_
  refine ⟨congrArg Value.bool ?_,(Ext.refl _)⟩;rotate_left;refine Kt ?_;refine Ke <| Ke <| Kc rfl <| Wo rfl (Ka (v:=v) rfl) <| Wo rfl (Ko Tryz.underlying23 rfl h) ?_
  refine Wo rfl (Ka (v:=.int _ _) rfl) <| Kd <| Kr ?_;rotate_left
 ·exact (decide_eq_false (fun e=>by subst e;omega)).symm
 refine Jh [6,7,8,9,17,18,19,20,21,22,23,24,25,26,27,28,29,30,31] (fun (k:Nat)=>[(17,.int .i64 (k:Nat))]) (fun k w'=>Ext w w'∧k≤xs.length∧xs.take k=ys.take k) (fun x=>xs.length - x) 0 (by repeat (first | exact trivial | refine And.intro rfl ?_)) ?_ ?_
 ·exact ⟨Ext.refl _,Nat.zero_le _,by simp⟩
 rintro k ρj w1 ⟨E1,hk,he⟩
 focus
  have szE1:=E1.size;refine Ke <| Kc rfl <| Wo rfl (Ks rfl rfl) <| Kd <| Ke <| Kg rfl (fun h2=>?_) (fun h2=>?_);refine Kt ?_;refine Ke ?_
  refine Kr <| Ke <| Kc rfl <| Wo rfl (Ka (v:=.int _ _) rfl) ?_
  refine Ji Tryz.underlying23 Tryz.sizeOf88 Tryz.isAgg88 rfl (fun _=>rfl) rfl h E1 rfl (by first | omega | (simp <;> omega)) ?_;rintro _ u1 hu1;refine Wo rfl (Kb (v:=.int _ _) rfl) ?_
  refine Wo rfl (Kb (v:=u1) rfl) <| Kd <| Ke <| Kc rfl <| Wo rfl (Ka (v:=u) rfl) <| Wo rfl (Ka (v:=.int _ _) rfl) ?_
  refine Ji Tryz.underlying23 Tryz.sizeOf88 Tryz.isAgg88 rfl (fun _=>rfl) rfl h' E1 rfl (by first | omega | (simp <;> omega)) ?_;rintro _ u2 hu2;refine Wo rfl (Kb (v:=u2) rfl) <| Kd <| Ke ?_
  refine Kc rfl <| Wo rfl (Ka (v:=.func _ _ _) rfl) <| Wo rfl (Ka (v:=u1) rfl) <| Wo rfl (Ka (v:=u2) rfl) ?_
  refine Kj rfl (opc_val2 Tryz.call140 rfl rfl rfl) (EqualI_ok _ _ _ _ _ ((Mono.mono E1 hu1)) ((Mono.mono E1 hu2))) ?_;rintro _ w2 ⟨rfl,E2⟩;have hs1:=E2.size;refine Wo rfl (Jf rfl) <| Kd ?_
  refine Jj rfl (fun h3=>?_) (fun h3=>?_);refine Ke <| Kc rfl <| Wo rfl (Kb (v:=.bool _) rfl) <| Kd <| Ja ?_;refine at_ret (v:=.bool _) rfl ?_
  refine ⟨congrArg Value.bool ?_,(E1.trans E2)⟩;rotate_left;refine Kt ?_;refine Kc rfl <| Wo rfl (Kw rfl rfl (by omega)) ?_;refine Wo rfl (Ka (v:=.int _ _) rfl) <| Kd ?_;rotate_left
  refine Jg ?_;refine exitX_same ?_;refine Ke <| Kc rfl <| Wo rfl (Kb (v:=.bool _) rfl) <| Kd <| Ja ?_;refine at_ret (v:=.bool _) rfl ?_
  refine ⟨congrArg Value.bool ?_,E1⟩;rotate_left
 ·exact (decide_eq_false (ne_at (k:=k) (by omega) (by omega) (by assumption))).symm
 ·refine ⟨(k+1),by repeat (first | exact trivial | refine And.intro rfl ?_),by repeat (first | with_reducible exact Same.refl | refine Same.upd rfl ?_ | refine Same.upds rfl ?_ | refine Same.mix rfl ?_),?_,?_⟩
  ·exact ⟨E1.trans E2,by omega,(take_eq_snoc (by omega) (by omega)).2 ⟨he,by assumption⟩⟩
  ·omega
 ·obtain rfl:k=xs.length:=by omega
  exact (decide_eq_true (ext_take (by omega) he)).symm
theorem IndexFuncP_ok (w:World) (v:Value) (xs:List (List (List Int))) (h:ESl (ESl Ints) w v xs) (fid:FuncId) (cap:List Value) (g:List (List Int)→Bool) (hc : ∀ args w,Sem.run Tryz.prog (callFunc fid args) w=.ok (.enter fid args) w)
  (hf : ∀ (x:List (List Int)) (u:Value) (w':World),ESl Ints w' u x→Ext w w'→Does Tryz.prog fid (u::cap) w' (Ret w' (.bool (g x)))) :
  Does Tryz.prog 154 [v,.func (.func fid) [].toArray cap.toArray] w (RetX w (Value.int .i64) (fun n _=>(n = -1∧xs.any g=false)∨(0≤n∧xs.any g=true))):=by
 have hle:=h.le
 refine Jc Tryz.func154 rfl Tryz.results154 Tryz.ntmps154 rfl ?_
 focus
  refine Ke <| Kc rfl <| Wo rfl (Kb (v:=.int _ _) rfl) <| Kd <| Ke <| Ke <| Kc rfl <| Wo rfl (Ka (v:=v) rfl) ?_
  refine Wo rfl (Ko Tryz.underlying24 rfl h) <| Wo rfl (Ka (v:=.int _ _) rfl) <| Kd <| Kr ?_
 refine Jh [4,5,8,9,10,11,12,13,14,15,16,17,18] (fun (k:Nat)=>[(8,.int .i64 (k:Nat))]) (fun k w'=>Ext w w'∧k≤xs.length∧(xs.take k).any g=false) (fun x=>xs.length - x) 0 (by repeat (first | exact trivial | refine And.intro rfl ?_)) ?_ ?_
 ·exact ⟨Ext.refl _,Nat.zero_le _,by simp⟩
 rintro k ρj w1 ⟨E1,hk,hg⟩
 by_cases hlt:k < xs.length
 ·have hmem:=List.getElem_mem hlt
  have hf':=hf xs[k]
  focus
   have szE1:=E1.size;refine Ke <| Kc rfl <| Wo rfl (Ks rfl rfl) <| Kd <| Ke <| Kg rfl (fun h1=>?_) (fun h1=>?_);refine Kt ?_;refine Ke ?_
   refine Kr <| Ke <| Kc rfl <| Wo rfl (Ka (v:=.int _ _) rfl) <| Wo rfl (Kb (v:=.int _ _) rfl) <| Kd <| Ke <| Kc rfl ?_
   refine Wo rfl (Ka (v:=.func _ _ _) rfl) <| Wo rfl (Ka (v:=v) rfl) <| Wo rfl (Ka (v:=.int _ _) rfl) ?_
   refine Ji Tryz.underlying24 Tryz.sizeOf23 Tryz.isAgg23 rfl (fun _=>rfl) rfl h E1 rfl (by first | omega | (simp <;> omega)) ?_;rintro _ u1 hu1
   refine Kj rfl (opc_val1 (a:=u1) (by assumption) rfl rfl) (hf' _ _ ((Mono.mono E1 hu1)) (E1)) ?_;rintro _ w2 ⟨rfl,E2⟩;have hs1:=E2.size;refine Kd <| Jx rfl (fun h2=>?_) (fun h2=>?_);refine Ke ?_
   refine Kc rfl <| Wo rfl (Ka (v:=.int _ _) rfl) <| Wo rfl (Kb (v:=.int _ _) rfl) <| Kd <| Ja ?_;refine at_ret (v:=.int _ _) rfl ?_;refine ⟨(E1.trans E2),_,rfl,?_⟩
   (try dsimp only);rotate_left;refine Kt ?_;refine Kc rfl <| Wo rfl (Kw rfl rfl (by omega)) ?_;refine Wo rfl (Ka (v:=.int _ _) rfl) <| Kd ?_;rotate_left;(exfalso;omega)
  ·right
   refine ⟨by omega,List.any_eq_true.2 ⟨_,hmem,by assumption⟩⟩
  ·refine ⟨(k+1),by repeat (first | exact trivial | refine And.intro rfl ?_),by repeat (first | with_reducible exact Same.refl | refine Same.upd rfl ?_ | refine Same.upds rfl ?_ | refine Same.mix rfl ?_),?_,?_⟩
   ·refine ⟨E1.trans E2,by omega,?_⟩
    rw [take_snoc _ _ hlt,List.any_append,hg]
    simpa using by assumption
   ·omega
 ·obtain rfl:k=xs.length:=by omega
  focus
   have szE1:=E1.size;refine Ke <| Kc rfl <| Wo rfl (Ks rfl rfl) <| Kd <| Ke <| Kg rfl (fun h1=>?_) (fun h1=>?_);(exfalso;omega);refine Jg ?_
   refine exitX_same ?_;refine Ke <| Kc rfl <| Wo rfl (Kb (v:=.int _ _) rfl) <| Kd <| Ja ?_;refine at_ret (v:=.int _ _) rfl ?_;refine ⟨E1,_,rfl,?_⟩;(try dsimp only)
  exact .inl ⟨rfl,by simpa using hg⟩
theorem ContainsFuncP_ok (w:World) (v:Value) (xs:List (List (List Int))) (h:ESl (ESl Ints) w v xs) (fid:FuncId) (cap:List Value) (g:List (List Int)→Bool) (hc : ∀ args w,Sem.run Tryz.prog (callFunc fid args) w=.ok (.enter fid args) w)
  (hf : ∀ (x:List (List Int)) (u:Value) (w':World),ESl Ints w' u x→Ext w w'→Does Tryz.prog fid (u::cap) w' (Ret w' (.bool (g x)))) :
  Does Tryz.prog 110 [v,.func (.func fid) [].toArray cap.toArray] w (Ret w (.bool (xs.any g))):=by
 have hi:=IndexFuncP_ok w v xs h fid cap g hc hf
 refine Jc Tryz.func110 rfl Tryz.results110 Tryz.ntmps110 rfl ?_
 focus
  refine Ke <| Kc rfl <| Wo rfl (Kb (v:=.bool _) rfl) <| Kd <| Ke <| Kc rfl <| Wo rfl (Ka (v:=v) rfl) ?_
  refine Wo rfl (Ka (v:=.func _ _ _) rfl) <| Kj rfl (Jn (a:=v) (b:=.func _ _ _) Tryz.call154 rfl rfl) (hi) ?_;rintro _ w1 ⟨E1,y1,rfl,hy1⟩;have hs1:=E1.size;refine Wo rfl (opv_geq rfl rfl) ?_
  refine Wo rfl (Kb (v:=.bool _) rfl) <| Kd <| Ja ?_;refine at_ret (v:=.bool _) rfl ?_;refine ⟨congrArg Value.bool ?_,E1⟩
 rcases hy1 with ⟨rfl,h9⟩ | ⟨h8,h9⟩
 ·rw [h9];rfl
 ·rw [h9];exact decide_eq_true h8
open Classical in
theorem isLeast_ok (w:World) (v:Value) (p:List (List Int)) (h:ESl Ints w v p) (hp:Pic p):Does Tryz.prog 109 [v] w (Ret w (.bool (decide (LeastP p)))):=by
 have hl:=lst_pic hp (a:=0) (by have:=hp.1;omega)
 have e:(LeastP p)=(lst p 0=p):=propext ⟨fun h=>h.2,fun h=>⟨hp,h⟩⟩
 have k1 : ∀ (w:World) (v:Value),ESl Ints w v p→Does Tryz.prog 153 [v,.int .i64 0] w (RetOB w XR (lst p 0) true):=fun w v h=>by
  have:=leastOf_ok w v p h hp.gr 0 (by have:=hp.1;omega)
  rwa [if_pos hl.2.1,decide_eq_true hl.2.1] at this
 have k2:=fun (w:World) (v u:Value) (h:ESl Ints w v (lst p 0)) (h':ESl Ints w u p)=>EqualFunc_ok w v u (lst p 0) p h h' Tryz.call140
 rw [show decide (LeastP p)=decide (lst p 0=p) from decide_eq_decide.2 (iff_of_eq e)]
 refine Jc Tryz.func109 rfl Tryz.results109 Tryz.ntmps109 rfl ?_
 focus
  refine Ke <| Kc rfl <| Wo rfl (Kb (v:=.bool _) rfl) <| Kd <| Ke <| Kc rfl <| Wo rfl (Ka (v:=v) rfl) ?_
  refine Kj rfl (Jn (a:=v) (b:=.int _ _) Tryz.call153 rfl rfl) (k1 _ _ (h)) ?_;rintro _ w1 ⟨u1,rfl,E1,hO1⟩;have hs1:=E1.size;refine Wo rfl (Ka (v:=.tuple _) rfl) ?_
  refine Wo rfl (Kk (v:=u1) rfl rfl) <| Wo rfl (Kk (v:=.bool _) rfl rfl) <| Wo rfl (Kb (v:=u1) rfl) <| Wo rfl (Kb (v:=.bool _) rfl) <| Kd ?_
  refine Ke <| Kc rfl <| Wo rfl (Ka (v:=u1) rfl) <| Wo rfl (Ka (v:=v) rfl) ?_
  refine Kj rfl (opc3 (a:=u1) (b:=v) (c:=.func _ _ _) Tryz.call139 rfl rfl rfl) (k2 _ _ _ ((Owned.read hO1)) ((Mono.mono E1 h))) ?_;rintro _ w2 ⟨rfl,E2⟩;have hs2:=E2.size
  refine Wo rfl (Kb (v:=.bool _) rfl) <| Kd <| Ja ?_;exact ⟨rfl,(E1.trans E2)⟩
open Classical in
theorem isDesk1_ok (w:World) (v:Value) (p:List (List Int)) (h:ESl Ints w v p):Does Tryz.prog 111 [v] w (Ret w (.bool (!decide (LeastP p)))):=by
 by_cases hp:Pic p
 ·have k0 : ∀ (w:World) (v:Value),ESl Ints w v p→Does Tryz.prog 78 [v] w (Ret w (.bool true)):=fun w v h=>by
   have:=isPicture_ok w v p h;rwa [decide_eq_true hp] at this
  have k1 : ∀ (w:World) (v:Value),ESl Ints w v p→Does Tryz.prog 109 [v] w (Ret w (.bool (decide (LeastP p)))):=fun w v h=>isLeast_ok w v p h hp
  refine Jc Tryz.func111 rfl Tryz.results111 Tryz.ntmps111 rfl ?_
  focus
   refine Ke <| Kc rfl <| Wo rfl (Kb (v:=.bool _) rfl) <| Kd <| Ke <| Kc rfl <| Wo rfl (Ka (v:=v) rfl) ?_
   refine Kj rfl (Jk (a:=v) Tryz.call78 rfl) (k0 _ _ (h)) ?_;rintro _ w1 ⟨rfl,E1⟩;have hs1:=E1.size;refine Wo rfl (Jf rfl) <| Jy rfl (Ka (v:=.bool _) rfl) (fun h1=>?_) (fun h1=>?_)
   contradiction;refine Wo rfl (Ka (v:=v) rfl) <| Kj rfl (Jk (a:=v) Tryz.call109 rfl) (k1 _ _ ((Mono.mono E1 h))) ?_;rintro _ w2 ⟨rfl,E2⟩;have hs2:=E2.size;refine Wo rfl (Jf rfl) ?_
   refine Wo rfl (Kn (v:=.bool _) rfl rfl) <| Wo rfl (Kb (v:=.bool _) rfl) <| Kd <| Ja ?_;exact ⟨rfl,(E1.trans E2)⟩
 ·have hd:decide (LeastP p)=false:=decide_eq_false fun h=>hp h.1
  rw [hd]
  have k0 : ∀ (w:World) (v:Value),ESl Ints w v p→Does Tryz.prog 78 [v] w (Ret w (.bool false)):=fun w v h=>by
   have:=isPicture_ok w v p h;rwa [decide_eq_false hp] at this
  refine Jc Tryz.func111 rfl Tryz.results111 Tryz.ntmps111 rfl ?_
  focus
   refine Ke <| Kc rfl <| Wo rfl (Kb (v:=.bool _) rfl) <| Kd <| Ke <| Kc rfl <| Wo rfl (Ka (v:=v) rfl) ?_
   refine Kj rfl (Jk (a:=v) Tryz.call78 rfl) (k0 _ _ (h)) ?_;rintro _ w1 ⟨rfl,E1⟩;have hs1:=E1.size;refine Wo rfl (Jf rfl) <| Jy rfl (Ka (v:=.bool _) rfl) (fun h1=>?_) (fun h1=>?_)
   refine Ki rfl <| Ki rfl <| Ki rfl <| Wo rfl (Kz (v:=.bool _) rfl rfl) <| Wo rfl (Kb (v:=.bool _) rfl) <| Kd <| Ja ?_;exact ⟨rfl,E1⟩
   contradiction
open Classical in
theorem isDesk_ok (w:World) (u1 u2:Value) (d:Dsk) (h1:ESl Ints w u1 d.now) (h2:ESl (ESl Ints) w u2 d.past):Does Tryz.prog 58 [.agg #[u1,u2]] w (Ret w (.bool (decide (DkOk d)))):=by
 obtain ⟨p,pp⟩:=d
 have hle:=h2.le
 simp only at h1 h2 hle
 have icu1:isCell u1=true:=ESl_isC h1
 have icu2:isCell u2=true:=ESl_isC h2
 refine Jc Tryz.func58 rfl Tryz.results58 Tryz.ntmps58 rfl ?_
 have k2:=fun (w:World) (v:Value) (h:ESl (ESl Ints) w v pp)=>ContainsFuncP_ok w v pp h 111 [] (fun x=>!decide (LeastP x)) Tryz.call111 (fun x u w' h e=>isDesk1_ok w' u x h)
 by_cases hp:Pic p
 ·have k0 : ∀ (w:World) (v:Value),ESl Ints w v p→Does Tryz.prog 78 [v] w (Ret w (.bool true)):=fun w v h=>by
   have:=isPicture_ok w v p h;rwa [decide_eq_true hp] at this
  have k1 : ∀ (w:World) (v:Value),ESl Ints w v p→Does Tryz.prog 109 [v] w (Ret w (.bool (decide (LeastP p)))):=fun w v h=>isLeast_ok w v p h hp
  focus
   refine Ke <| Kc rfl <| Jp rfl rfl rfl ?_;rintro b1 w1 hb1 E1 hB1;have hlb1:=hB1.lt;have hs1:=E1.size;refine Wo rfl (Kb (v:=.bool _) rfl) <| Kd <| Ke ?_
   refine Ke <| Kc rfl <| Wo rfl (Kf Tryz.underlying26 rfl rfl Tryz.sizeOf23 rfl) <| Wo (v:=u1) rfl (Km Tryz.isAgg23 rfl (hB1.cell rfl)) ?_
   refine Kj rfl (Jk (a:=u1) Tryz.call78 rfl) (k0 _ _ ((Mono.mono E1 h1))) ?_;rintro _ w2 ⟨rfl,E2⟩;have hs2:=E2.size;refine Wo rfl (Jf rfl) ?_
   refine Jy rfl (Ka (v:=.bool _) rfl) (fun h3=>?_) (fun h3=>?_);contradiction;refine Wo rfl (Kf Tryz.underlying26 rfl rfl Tryz.sizeOf23 rfl) ?_
   refine Wo (v:=u1) rfl (Km Tryz.isAgg23 rfl ((hB1.ext E2).cell rfl)) <| Kj rfl (Jk (a:=u1) Tryz.call109 rfl) (k1 _ _ ((Mono.mono (E1.trans E2) h1))) ?_;rintro _ w3 ⟨rfl,E3⟩;have hs3:=E3.size
   refine Wo rfl (Jf rfl) <| Wo rfl (Kn (v:=.bool _) rfl rfl) <| Jw rfl (Ka (v:=.bool _) rfl) (fun h4=>?_) (fun h4=>?_);refine Ki rfl <| Ki rfl ?_
   refine Ki rfl <| Ki rfl <| Wo rfl (Kz (v:=.bool _) rfl rfl) <| Kd <| Ga rfl ?_;refine Ke <| Kc rfl ?_
   refine Wo rfl (Kb (v:=.bool _) rfl) <| Kd <| Ja ?_;refine at_ret (v:=.bool _) rfl ?_;refine ⟨congrArg Value.bool ?_,((E1.trans E2).trans E3)⟩;rotate_left
   refine Wo rfl (Kf Tryz.underlying26 rfl rfl Tryz.sizeOf24 rfl) <| Wo (v:=u2) rfl (Km Tryz.isAgg24 rfl ((hB1.ext (E2.trans E3)).cell rfl)) <| Wo rfl (Ko Tryz.underlying24 rfl h2) ?_
   refine Wo rfl (opv_gtr rfl rfl) <| Wo rfl (Kn (v:=.bool _) rfl rfl) <| Kd <| Kg rfl (fun h5=>?_) (fun h5=>?_);refine Ke <| Kc rfl ?_
   refine Wo rfl (Kb (v:=.bool _) rfl) <| Kd <| Ja ?_;refine at_ret (v:=.bool _) rfl ?_;refine ⟨congrArg Value.bool ?_,((E1.trans E2).trans E3)⟩;rotate_left;refine Kt ?_;refine Ke ?_
   refine Kc rfl <| Wo rfl (Kf Tryz.underlying26 rfl rfl Tryz.sizeOf24 rfl) <| Wo (v:=u2) rfl (Km Tryz.isAgg24 rfl ((hB1.ext (E2.trans E3)).cell rfl)) ?_
   refine Kj rfl (Jn (a:=u2) (b:=.func _ _ _) Tryz.call110 rfl rfl) (k2 _ _ ((Mono.mono ((E1.trans E2).trans E3) h2))) ?_;rintro _ w4 ⟨rfl,E4⟩;have hs4:=E4.size;refine Wo rfl (Jf rfl) ?_
   refine Wo rfl (Kb (v:=.bool _) rfl) <| Kd <| Ja ?_;refine at_ret (v:=.bool _) rfl ?_;refine ⟨congrArg Value.bool ?_,(((E1.trans E2).trans E3).trans E4)⟩;rotate_left
  ·exact (decide_eq_false fun h=>absurd h.1 (by assumption)).symm
  ·exact (decide_eq_false fun h=>by have:=h.2.1;simp only at this;omega).symm
  ·rw [Bool.eq_iff_iff,decide_eq_true_iff,Bool.not_eq_true',List.any_eq_false]
   unfold DkOk
   simp only
   constructor
   ·intro h9
    exact ⟨by assumption,by omega,fun q hq=>by simpa using h9 q hq⟩
   ·rintro ⟨_,_,h9⟩ q hq
    simpa using h9 q hq
 ·have hd:decide (DkOk ⟨p,pp⟩)=false:=decide_eq_false fun h=>hp h.1.1
  rw [hd]
  have k0 : ∀ (w:World) (v:Value),ESl Ints w v p→Does Tryz.prog 78 [v] w (Ret w (.bool false)):=fun w v h=>by
   have:=isPicture_ok w v p h;rwa [decide_eq_false hp] at this
  focus
   refine Ke <| Kc rfl <| Jp rfl rfl rfl ?_;rintro b1 w1 hb1 E1 hB1;have hlb1:=hB1.lt;have hs1:=E1.size;refine Wo rfl (Kb (v:=.bool _) rfl) <| Kd <| Ke ?_
   refine Ke <| Kc rfl <| Wo rfl (Kf Tryz.underlying26 rfl rfl Tryz.sizeOf23 rfl) <| Wo (v:=u1) rfl (Km Tryz.isAgg23 rfl (hB1.cell rfl)) ?_
   refine Kj rfl (Jk (a:=u1) Tryz.call78 rfl) (k0 _ _ ((Mono.mono E1 h1))) ?_;rintro _ w2 ⟨rfl,E2⟩;have hs2:=E2.size;refine Wo rfl (Jf rfl) ?_
   refine Jy rfl (Ka (v:=.bool _) rfl) (fun h3=>?_) (fun h3=>?_);refine Ki rfl <| Ki rfl <| Ki rfl <| Ki rfl <| Wo rfl (Kz (v:=.bool _) rfl rfl) ?_
   refine Wo rfl (Ka (v:=.bool _) rfl) <| Ki rfl <| Ki rfl <| Ki rfl <| Ki rfl <| Wo rfl (Kz (v:=.bool _) rfl rfl) <| Kd ?_
   refine Ga rfl ?_;refine Ke <| Kc rfl <| Wo rfl (Kb (v:=.bool _) rfl) <| Kd <| Ja ?_;exact ⟨rfl,(E1.trans E2)⟩;contradiction
theorem doV_none {d:Dsk} {a:Deed} (h1 : ¬isBack d a) (h2:nextV d.now a=none):doV d a=(d,false):=by
 unfold doV;rw [if_neg h1,h2]
theorem madeV_t {p:List (List Int)} {k n:Int} {t:List UInt8} (h : ¬(k=1∨k=2∨t=[])):madeV p ⟨k,t,n⟩=none:=by
 simp only [madeV]
 rw [if_neg (fun e=>h (.inr (.inr e.2.1))),if_neg (fun e=>h (.inl e.1)),if_neg (fun e=>h (.inr (.inl e.1))),if_neg (fun e=>h (.inr (.inr e.2.1)))]
theorem madeV_n {p:List (List Int)} {k n:Int} {t:List UInt8} (h : ¬(k=3∨n=0)):madeV p ⟨k,t,n⟩=none:=by
 simp only [madeV]
 rw [if_neg (fun e=>h (.inr e.2.2)),if_neg (fun e=>h (.inr e.2)),if_neg (fun e=>h (.inr e.2)),if_neg (fun e=>h (.inl e.1))]
open Classical in
theorem deskDo_ok (w:World) (hM:EMx gMx w (.bool true) ()) (u1 u2:Value) (d:Dsk) (h1:ESl Ints w u1 d.now) (h2:ESl (ESl Ints) w u2 d.past) (hd:DkOk d) (k n:Int) (t:List UInt8) (ht:t.length≤1048576) :
  Does Tryz.prog 92 [.agg #[u1,u2],.agg #[.int .i64 k,str t,.int .i64 n]] w (RetDkB w 23 88 3 (doV d ⟨k,t,n⟩).1.now (doV d ⟨k,t,n⟩).1.past (doV d ⟨k,t,n⟩).2):=by
 obtain ⟨p,pp⟩:=d
 have hle:=h2.le
 have i1:isCell u1=true:=ESl_isC h1
 have i2:isCell u2=true:=ESl_isC h2
 simp only at h1 h2 hle
 have hpp:Pic p:=hd.1.1
 have hppl:pp.length≤8:=hd.2.1
 have bnd : ∀ q,Pic q→q.length≤100∧∀ r ∈ q,r.length≤100:=fun q hq=>⟨by have:=hq.2.1;omega,fun r hr=>by rw [(hq.2.2 r hr).1];have:=hq.2.1;omega⟩
 have hb2 : ∀ q ∈ pp,q.length≤100∧∀ r ∈ q,r.length≤100:=fun q hq=>bnd q (hd.2.2 q hq).1
 have k1 : ∀ w,ESl Ints w u1 p→ESl (ESl Ints) w u2 pp→Does Tryz.prog 77 [.agg #[u1,u2]] w (RetDk w 23 88 3 p pp):=fun w h1 h2=>copyDesk_ok w u1 u2 p pp h1 h2 (bnd p hpp) (by omega) hb2
 refine fn_of_Wct Tryz.func92 rfl Tryz.results92 Tryz.ntmps92 rfl Tryz.isAgg26 Tryz.sizeOf26 ?_
 have litown:True:=trivial
 by_cases hA:k=1∨k=2∨t=[]
 ·by_cases hB:k=3∨n=0
  ·by_cases h4:k=4
   ·subst h4
    have et:t=[]:=by rcases hA with h | h | h;exact absurd h (by decide);exact absurd h (by decide);exact h
    have en:n=0:=by rcases hB with h | h;exact absurd h (by decide);exact h
    subst et en
    by_cases hpl:pp=[]
    ·have hdo:doV ⟨p,pp⟩ ⟨4,[],0⟩=(⟨p,pp⟩,false):=doV_none (fun h=>h.2 hpl) (by simp [nextV,madeV])
     have hpl0:pp.length=0:=by rw [hpl];rfl
     rw [hdo]
     focus
      refine Ke <| Kc rfl <| Jp rfl rfl rfl ?_;rintro b1 w1 hb1 E1 hB1;have hlb1:=hB1.lt;have hs1:=E1.size;refine Jp rfl rfl rfl ?_;rintro b2 w2 hb3 E2 hB2;have hlb2:=hB2.lt
      have hs2:=E2.size;refine Je rfl flat26 ?_;rintro b3 w3 hb4 E3 hB3;have hlb3:=hB3.lt;have hs3:=E3.size;refine Wo rfl (Kb (v:=.bool _) rfl) <| Kd <| Ke <| Kc rfl ?_
      refine Wo (v:=.agg _) rfl (Jd Tryz.isAgg26 Tryz.sizeOf26 rfl (hB1.ext (E2.trans E3))) ?_
      refine Kj rfl (Jk (a:=.agg _) Tryz.call77 rfl) (k1 _ ((Mono.mono ((E1.trans E2).trans E3) h1)) ((Mono.mono ((E1.trans E2).trans E3) h2))) ?_;rintro _ w4 ⟨u3,q1,m1,rfl,E4,hO1,hQ1,hm1,hn1⟩
      have icu3:=OwnedB.isC hO1;have cpu3:=OwnedB.capOk hO1;have icq1:=OwnedB.isC (Owned.toB hQ1);have cpq1:=OwnedB.capOk (Owned.toB hQ1);have hs4:=E4.size;refine Je rfl flat26 ?_;rintro b4 w5 hb5 E5 hB4
      have hlb4:=hB4.lt;have hs5:=E5.size;refine Jl rfl Tryz.sizeOf26 rfl rfl (by first | rfl | assumption) (by first | rfl | assumption) hB4 (by omega) ((((E1.trans E2).trans E3).trans E4).trans E5) ?_;rintro w6 E6 hB4 K1 hz1
      have E7:=(((E2.trans E3).trans E4).trans E5).wroteAt ((((E1.trans E2).trans E3).trans E4).trans E5) E6 K1 hz1 (by omega);have szE7:=E7.size
      have E8:=((E3.trans E4).trans E5).wroteAt ((((E1.trans E2).trans E3).trans E4).trans E5) E6 K1 hz1 (by omega);have szE8:=E8.size
      have E9:=(E4.trans E5).wroteAt ((((E1.trans E2).trans E3).trans E4).trans E5) E6 K1 hz1 (by omega);have szE9:=E9.size;have E10:=E5.wroteAt ((((E1.trans E2).trans E3).trans E4).trans E5) E6 K1 hz1 (by omega)
      have szE10:=E10.size;have hB1:=(hB1.ext (((E2.trans E3).trans E4).trans E5)).of_heap (K1 _ (by omega));have hB2:=(hB2.ext ((E3.trans E4).trans E5)).of_heap (K1 _ (by omega))
      have hB3:=(hB3.ext (E4.trans E5)).of_heap (K1 _ (by omega));have hO1:=(hO1.ext E5).wrote K1 (by omega);have hQ1:=(hQ1.toB.ext E5).wrote K1 (by omega);refine Kd <| Ke <| Kc rfl ?_
      refine Wo rfl (Kf Tryz.underlying48 rfl rfl Tryz.sizeOf3 rfl) <| Wo (v:=.int _ _) rfl (Km Tryz.isAgg3 rfl (hB2.cell rfl)) <| Wo rfl (Kx rfl rfl) ?_
      refine Kv rfl (Ka (v:=.bool _) rfl) (fun h3=>?_) (fun h3=>?_);contradiction;refine Wo rfl (Kf Tryz.underlying48 rfl rfl Tryz.sizeOf3 rfl) ?_
      refine Wo (v:=.int _ _) rfl (Km Tryz.isAgg3 rfl (hB2.cell rfl)) <| Wo rfl (Kx rfl rfl) <| Wo rfl (Kn (v:=.bool _) rfl rfl) <| Wo rfl (Kb (v:=.bool _) rfl) <| Kd ?_
      refine Ke <| Ke <| Kc rfl <| Wo rfl (Ka (v:=.bool _) rfl) <| Wo rfl (Jf rfl) <| Jw rfl (Ka (v:=.bool _) rfl) (fun h4=>?_) (fun h4=>?_)
      refine Wo rfl (Kf Tryz.underlying48 rfl rfl Tryz.sizeOf9 rfl) <| Wo (v:=.string _) rfl (Km Tryz.isAgg9 rfl (hB2.cell rfl)) <| Wo rfl (opv_neq_str rfl rfl) ?_
      refine Wo rfl (Kz (v:=.bool _) rfl rfl) <| Jw rfl (Ka (v:=.bool _) rfl) (fun h5=>?_) (fun h5=>?_);contradiction;refine Wo rfl (Kf Tryz.underlying48 rfl rfl Tryz.sizeOf3 rfl) ?_
      refine Wo (v:=.int _ _) rfl (Km Tryz.isAgg3 rfl (hB2.cell rfl)) <| Wo rfl (Gb rfl rfl) <| Jw rfl (Ka (v:=.bool _) rfl) (fun h6=>?_) (fun h6=>?_)
      refine Wo rfl (Kf Tryz.underlying48 rfl rfl Tryz.sizeOf3 rfl) <| Wo (v:=.int _ _) rfl (Km Tryz.isAgg3 rfl (hB2.cell rfl)) <| Wo rfl (Gb rfl rfl) ?_
      refine Wo rfl (Kz (v:=.bool _) rfl rfl) <| Wo rfl (Kn (v:=.bool _) rfl rfl) <| Kd <| Jj rfl (fun h7=>?_) (fun h7=>?_);contradiction;refine Kt ?_;refine Ke ?_
      refine Ke <| Kc rfl <| Wo rfl (Kf Tryz.underlying48 rfl rfl Tryz.sizeOf3 rfl) <| Wo (v:=.int _ _) rfl (Km Tryz.isAgg3 rfl (hB2.cell rfl)) <| Wo rfl (Kx rfl rfl) ?_
      refine Kd <| Kg rfl (fun h8=>?_) (fun h8=>?_);refine Ke <| Ke <| Kc rfl <| Wo rfl (Kf Tryz.underlying26 rfl rfl Tryz.sizeOf24 rfl) ?_
      refine Wo (v:=q1) rfl (Km Tryz.isAgg24 rfl (hB4.cell rfl)) <| Wo rfl (Ko Tryz.underlying24 rfl (OwnedB.read hQ1)) <| Wo rfl (Kx rfl rfl) <| Kd ?_
      refine Kg rfl (fun h9=>?_) (fun h9=>?_);refine Ke <| Kc rfl <| Wo (v:=.agg _) rfl (Jd Tryz.isAgg26 Tryz.sizeOf26 rfl hB4) ?_
      refine Jl rfl Tryz.sizeOf26 rfl rfl (by first | rfl | assumption) (by first | rfl | assumption) hB3 (by omega) E6 ?_;rintro w7 E11 hB3 K2 hz2;have E12:=E7.wroteAt E6 E11 K2 hz2 (by omega);have szE12:=E12.size
      have E13:=E8.wroteAt E6 E11 K2 hz2 (by omega);have szE13:=E13.size;have hB4:=hB4.of_heap (K2 _ (by omega));have hB1:=hB1.of_heap (K2 _ (by omega));have hB2:=hB2.of_heap (K2 _ (by omega))
      have hO1:=hO1.wrote K2 (by omega);have hQ1:=hQ1.wrote K2 (by omega);refine Wo rfl (Kb (v:=.bool _) rfl) <| Kd <| Ja ?_;rotate_left;(exfalso;omega);contradiction;contradiction
      contradiction
     exact ⟨b3,u3,q1,rfl,hB3,u3,q1,m1,rfl,by exact E11,hO1.wide (by omega) (Nat.le_refl _),hQ1.o,by omega,by omega⟩
    ·have hpl0:0 < pp.length:=List.length_pos_iff.2 hpl
     have hdo:doV ⟨p,pp⟩ ⟨4,[],0⟩=(⟨pp.getLastD [],pp.dropLast⟩,true):=by unfold doV;rw [if_pos ⟨rfl,hpl⟩]
     rw [hdo]
     simp only
     have stop8:True:=trivial
     focus
      refine Ke <| Kc rfl <| Jp rfl rfl rfl ?_;rintro b1 w1 hb1 E1 hB1;have hlb1:=hB1.lt;have hs1:=E1.size;refine Jp rfl rfl rfl ?_;rintro b2 w2 hb3 E2 hB2;have hlb2:=hB2.lt
      have hs2:=E2.size;refine Je rfl flat26 ?_;rintro b3 w3 hb4 E3 hB3;have hlb3:=hB3.lt;have hs3:=E3.size;refine Wo rfl (Kb (v:=.bool _) rfl) <| Kd <| Ke <| Kc rfl ?_
      refine Wo (v:=.agg _) rfl (Jd Tryz.isAgg26 Tryz.sizeOf26 rfl (hB1.ext (E2.trans E3))) ?_
      refine Kj rfl (Jk (a:=.agg _) Tryz.call77 rfl) (k1 _ ((Mono.mono ((E1.trans E2).trans E3) h1)) ((Mono.mono ((E1.trans E2).trans E3) h2))) ?_;rintro _ w4 ⟨u3,q1,m1,rfl,E4,hO1,hQ1,hm1,hn1⟩
      have icu3:=OwnedB.isC hO1;have cpu3:=OwnedB.capOk hO1;have icq1:=OwnedB.isC (Owned.toB hQ1);have cpq1:=OwnedB.capOk (Owned.toB hQ1);have hs4:=E4.size;refine Je rfl flat26 ?_;rintro b4 w5 hb5 E5 hB4
      have hlb4:=hB4.lt;have hs5:=E5.size;refine Jl rfl Tryz.sizeOf26 rfl rfl (by first | rfl | assumption) (by first | rfl | assumption) hB4 (by omega) ((((E1.trans E2).trans E3).trans E4).trans E5) ?_;rintro w6 E6 hB4 K1 hz1
      have E7:=(((E2.trans E3).trans E4).trans E5).wroteAt ((((E1.trans E2).trans E3).trans E4).trans E5) E6 K1 hz1 (by omega);have szE7:=E7.size
      have E8:=((E3.trans E4).trans E5).wroteAt ((((E1.trans E2).trans E3).trans E4).trans E5) E6 K1 hz1 (by omega);have szE8:=E8.size
      have E9:=(E4.trans E5).wroteAt ((((E1.trans E2).trans E3).trans E4).trans E5) E6 K1 hz1 (by omega);have szE9:=E9.size;have E10:=E5.wroteAt ((((E1.trans E2).trans E3).trans E4).trans E5) E6 K1 hz1 (by omega)
      have szE10:=E10.size;have hB1:=(hB1.ext (((E2.trans E3).trans E4).trans E5)).of_heap (K1 _ (by omega));have hB2:=(hB2.ext ((E3.trans E4).trans E5)).of_heap (K1 _ (by omega))
      have hB3:=(hB3.ext (E4.trans E5)).of_heap (K1 _ (by omega));have hO1:=(hO1.ext E5).wrote K1 (by omega);have hQ1:=(hQ1.toB.ext E5).wrote K1 (by omega);refine Kd <| Ke <| Kc rfl ?_
      refine Wo rfl (Kf Tryz.underlying48 rfl rfl Tryz.sizeOf3 rfl) <| Wo (v:=.int _ _) rfl (Km Tryz.isAgg3 rfl (hB2.cell rfl)) <| Wo rfl (Kx rfl rfl) ?_
      refine Kv rfl (Ka (v:=.bool _) rfl) (fun h3=>?_) (fun h3=>?_);contradiction;refine Wo rfl (Kf Tryz.underlying48 rfl rfl Tryz.sizeOf3 rfl) ?_
      refine Wo (v:=.int _ _) rfl (Km Tryz.isAgg3 rfl (hB2.cell rfl)) <| Wo rfl (Kx rfl rfl) <| Wo rfl (Kn (v:=.bool _) rfl rfl) <| Wo rfl (Kb (v:=.bool _) rfl) <| Kd ?_
      refine Ke <| Ke <| Kc rfl <| Wo rfl (Ka (v:=.bool _) rfl) <| Wo rfl (Jf rfl) <| Jw rfl (Ka (v:=.bool _) rfl) (fun h4=>?_) (fun h4=>?_)
      refine Wo rfl (Kf Tryz.underlying48 rfl rfl Tryz.sizeOf9 rfl) <| Wo (v:=.string _) rfl (Km Tryz.isAgg9 rfl (hB2.cell rfl)) <| Wo rfl (opv_neq_str rfl rfl) ?_
      refine Wo rfl (Kz (v:=.bool _) rfl rfl) <| Jw rfl (Ka (v:=.bool _) rfl) (fun h5=>?_) (fun h5=>?_);contradiction;refine Wo rfl (Kf Tryz.underlying48 rfl rfl Tryz.sizeOf3 rfl) ?_
      refine Wo (v:=.int _ _) rfl (Km Tryz.isAgg3 rfl (hB2.cell rfl)) <| Wo rfl (Gb rfl rfl) <| Jw rfl (Ka (v:=.bool _) rfl) (fun h6=>?_) (fun h6=>?_)
      refine Wo rfl (Kf Tryz.underlying48 rfl rfl Tryz.sizeOf3 rfl) <| Wo (v:=.int _ _) rfl (Km Tryz.isAgg3 rfl (hB2.cell rfl)) <| Wo rfl (Gb rfl rfl) ?_
      refine Wo rfl (Kz (v:=.bool _) rfl rfl) <| Wo rfl (Kn (v:=.bool _) rfl rfl) <| Kd <| Jj rfl (fun h7=>?_) (fun h7=>?_);contradiction;refine Kt ?_;refine Ke ?_
      refine Ke <| Kc rfl <| Wo rfl (Kf Tryz.underlying48 rfl rfl Tryz.sizeOf3 rfl) <| Wo (v:=.int _ _) rfl (Km Tryz.isAgg3 rfl (hB2.cell rfl)) <| Wo rfl (Kx rfl rfl) ?_
      refine Kd <| Kg rfl (fun h8=>?_) (fun h8=>?_);refine Ke <| Ke <| Kc rfl <| Wo rfl (Kf Tryz.underlying26 rfl rfl Tryz.sizeOf24 rfl) ?_
      refine Wo (v:=q1) rfl (Km Tryz.isAgg24 rfl (hB4.cell rfl)) <| Wo rfl (Ko Tryz.underlying24 rfl (OwnedB.read hQ1)) <| Wo rfl (Kx rfl rfl) <| Kd ?_
      refine Kg rfl (fun h9=>?_) (fun h9=>?_);(exfalso;omega);refine Kt ?_;refine Ke ?_;rotate_left;contradiction;contradiction;contradiction
     clear stop8 k1
     obtain ⟨qb,qc,ur,rfl,hqc,hcl,icr,hqb,hqb2,hDk⟩:=hQ1.backDk hpl0 (by omega)
     have hel:=hDk.dkNow
     have hpa:=hDk.dkPast
     have hcl:w6.cell? ⟨qb,0+((pp.length:Int) - 1).toNat,none⟩=some ur:=by rw [Nat.zero_add,show ((pp.length:Int) - 1).toNat=pp.length - 1 by omega];exact hcl
     have hlast:pp.getLastD []=pp[pp.length - 1]:=by rw [List.getLastD_eq_getLast?,List.getLast?_eq_getElem?,List.getElem?_eq_getElem (by omega)];rfl
     rw [hlast,List.dropLast_eq_take]
     have hbl:=hd.2.2 _ (List.getElem_mem (show pp.length - 1 < pp.length by omega))
     have k2 : ∀ (w:World),OwnedB m1 w4.heap.size (XRd (ESl Ints)) w ur pp[pp.length - 1]→OwnedB m1 w4.heap.size (XRd (ESl (ESl Ints))) w (.slice (some ⟨qb,0,none⟩) (pp.length - 1) qc) (pp.take (pp.length - 1))→Does Tryz.prog 77 [.agg #[ur,.slice (some ⟨qb,0,none⟩) ((pp.length:Int) - 1).toNat qc]] w (RetDk w 23 88 3 pp[pp.length - 1] (pp.take (pp.length - 1))):=fun w h1 h2=>by
      rw [show ((pp.length:Int) - 1).toNat=pp.length - 1 by omega]
      exact copyDesk_ok w _ _ _ _ h1.read h2.read (bnd _ hbl.1) (by simp;omega) (fun q hq=>hb2 q (List.mem_of_mem_take hq))
     clear hDk hQ1 hO1
     have cellF:True:=trivial
     focus
      have szE10:=E10.size;have szE9:=E9.size;have szE8:=E8.size;have szE7:=E7.size;have szE6:=E6.size;have szE5:=E5.size;have szE4:=E4.size;have szE3:=E3.size;have szE2:=E2.size;have szE1:=E1.size
      refine Kc rfl <| Wo rfl (Kf Tryz.underlying26 rfl rfl Tryz.sizeOf24 rfl) <| Wo (v:=.slice _ _ _) rfl (Km Tryz.isAgg24 rfl (hB4.cell rfl)) ?_
      refine Wo rfl (Kf Tryz.underlying26 rfl rfl Tryz.sizeOf24 rfl) <| Wo (v:=.slice _ _ _) rfl (Km Tryz.isAgg24 rfl (hB4.cell rfl)) <| Wo rfl (Ko Tryz.underlying24 rfl (Owned.read hQ1)) ?_
      refine Wo rfl (opv_sub rfl rfl (by omega)) ?_;refine Wo rfl (opv_indexAddr_z Tryz.underlying24 Tryz.sizeOf23 rfl rfl (by omega)) ?_;refine Wo rfl (Km Tryz.isAgg23 rfl (by assumption)) ?_
      refine Wo rfl (Kf Tryz.underlying26 rfl rfl Tryz.sizeOf23 rfl) <| Wo_st (v:=ur) rfl Tryz.sizeOf23 rfl rfl (by assumption) hB4 (by first | decide | simp) (by omega) E6 ?_;rintro w7 E11 hB4 K2 hz2
      have E12:=E7.wroteAt E6 E11 K2 hz2 (by omega);have szE12:=E12.size;have E13:=E8.wroteAt E6 E11 K2 hz2 (by omega);have szE13:=E13.size;have E14:=E9.wroteAt E6 E11 K2 hz2 (by omega);have szE14:=E14.size
      have E15:=E10.wroteAt E6 E11 K2 hz2 (by omega);have szE15:=E15.size;simp only [List.set] at hB4;have hO1:=(hO1.ext E10).wrote K2 (by omega);have hB1:=hB1.of_heap (K2 _ (by omega))
      have hB2:=hB2.of_heap (K2 _ (by omega));have hB3:=hB3.of_heap (K2 _ (by omega));have hQ1:=(hQ1.toB.ext E10).wrote K2 (by omega);have hel:=hel.wrote K2 (by omega);have hpa:=hpa.wrote K2 (by omega);refine Kd ?_
      refine Ke <| Kc rfl <| Wo rfl (Kf Tryz.underlying26 rfl rfl Tryz.sizeOf24 rfl) <| Wo (v:=.slice _ _ _) rfl (Km Tryz.isAgg24 rfl (hB4.cell rfl)) ?_
      refine Wo rfl (Kf Tryz.underlying26 rfl rfl Tryz.sizeOf24 rfl) <| Wo (v:=.slice _ _ _) rfl (Km Tryz.isAgg24 rfl (hB4.cell rfl)) <| Wo rfl (Ko Tryz.underlying24 rfl (OwnedB.read hQ1)) ?_
      refine Wo rfl (opv_sub rfl rfl (by omega)) ?_;refine Wo rfl (opv_slice_sl_hi Tryz.underlying24 Tryz.sizeOf23 rfl rfl (by omega)) ?_;refine Wo rfl (Kf Tryz.underlying26 rfl rfl Tryz.sizeOf24 rfl) ?_
      refine Wo_st (v:=.slice _ _ _) rfl Tryz.sizeOf24 rfl rfl rfl hB4 (by simp) (by omega) E11 ?_;rintro w8 E16 hB4 K3 hz3;have E17:=E12.wroteAt E11 E16 K3 hz3 (by omega);have szE17:=E17.size
      have E18:=E13.wroteAt E11 E16 K3 hz3 (by omega);have szE18:=E18.size;have E19:=E14.wroteAt E11 E16 K3 hz3 (by omega);have szE19:=E19.size;have E20:=E15.wroteAt E11 E16 K3 hz3 (by omega);have szE20:=E20.size
      simp only [List.set] at hB4;have hO1:=hO1.wrote K3 (by omega);have hB1:=hB1.of_heap (K3 _ (by omega));have hB2:=hB2.of_heap (K3 _ (by omega));have hB3:=hB3.of_heap (K3 _ (by omega));have hQ1:=hQ1.wrote K3 (by omega)
      have hel:=hel.wrote K3 (by omega);have hpa:=hpa.wrote K3 (by omega);refine Kd <| Ke <| Kc rfl <| Wo (v:=.agg _) rfl (Jd Tryz.isAgg26 Tryz.sizeOf26 rfl hB4) ?_
      refine Kj rfl (Jk (a:=.agg _) Tryz.call77 rfl) (k2 _ (hel) (hpa)) ?_;rintro _ w9 ⟨u4,q1,m2,rfl,E21,hO2,hQ2,hm2,hn2⟩;have icu4:=OwnedB.isC hO2;have cpu4:=OwnedB.capOk hO2
      have icq1:=OwnedB.isC (Owned.toB hQ2);have cpq1:=OwnedB.capOk (Owned.toB hQ2);have hs6:=E21.size
      refine Jl rfl Tryz.sizeOf26 rfl rfl (by first | rfl | assumption) (by first | rfl | assumption) (hB3.ext E21) (by omega) (E16.trans E21) ?_;rintro w10 E22 hB3 K4 hz4
      have E23:=(E17.trans E21).wroteAt (E16.trans E21) E22 K4 hz4 (by omega);have szE23:=E23.size;have E24:=(E18.trans E21).wroteAt (E16.trans E21) E22 K4 hz4 (by omega);have szE24:=E24.size
      have hB4:=(hB4.ext E21).of_heap (K4 _ (by omega));have hO1:=(hO1.ext E21).wrote K4 (by omega);have hB1:=(hB1.ext E21).of_heap (K4 _ (by omega));have hB2:=(hB2.ext E21).of_heap (K4 _ (by omega))
      have hQ1:=(hQ1.ext E21).wrote K4 (by omega);have hel:=(hel.ext E21).wrote K4 (by omega);have hpa:=(hpa.ext E21).wrote K4 (by omega);have hO2:=hO2.wrote K4 (by omega);have hQ2:=hQ2.toB.wrote K4 (by omega)
      refine Wo rfl (Kb (v:=.bool _) rfl) <| Kd <| Ja ?_
     exact ⟨b3,u4,q1,rfl,hB3,u4,q1,m2,rfl,by exact E22,hO2.wide (by omega) (Nat.le_refl _),hQ2.o,by omega,by omega⟩
   ·have hnb : ¬isBack ⟨p,pp⟩ ⟨k,t,n⟩:=fun h=>h4 (by have:=h.1;injection this)
    have kN : ∀ (w:World),EMx gMx w (.bool true) ()→ESl Ints w u1 p→Does Tryz.prog 138 [u1,.agg #[.int .i64 k,str t,.int .i64 n]] w (RetOB w XR (og (madeV p ⟨k,t,n⟩)) (madeV p ⟨k,t,n⟩).isSome):=fun w hM h=>nextSet_ok w hM u1 p h hpp k n t ht hA hB
    have stop2:True:=trivial
    focus
     refine Ke <| Kc rfl <| Jp rfl rfl rfl ?_;rintro b1 w1 hb1 E1 hB1;have hlb1:=hB1.lt;have hs1:=E1.size;refine Jp rfl rfl rfl ?_;rintro b2 w2 hb3 E2 hB2;have hlb2:=hB2.lt
     have hs2:=E2.size;refine Je rfl flat26 ?_;rintro b3 w3 hb4 E3 hB3;have hlb3:=hB3.lt;have hs3:=E3.size;refine Wo rfl (Kb (v:=.bool _) rfl) <| Kd <| Ke <| Kc rfl ?_
     refine Wo (v:=.agg _) rfl (Jd Tryz.isAgg26 Tryz.sizeOf26 rfl (hB1.ext (E2.trans E3))) ?_
     refine Kj rfl (Jk (a:=.agg _) Tryz.call77 rfl) (k1 _ ((Mono.mono ((E1.trans E2).trans E3) h1)) ((Mono.mono ((E1.trans E2).trans E3) h2))) ?_;rintro _ w4 ⟨u3,q1,m1,rfl,E4,hO1,hQ1,hm1,hn1⟩
     have icu3:=OwnedB.isC hO1;have cpu3:=OwnedB.capOk hO1;have icq1:=OwnedB.isC (Owned.toB hQ1);have cpq1:=OwnedB.capOk (Owned.toB hQ1);have hs4:=E4.size;refine Je rfl flat26 ?_;rintro b4 w5 hb5 E5 hB4
     have hlb4:=hB4.lt;have hs5:=E5.size;refine Jl rfl Tryz.sizeOf26 rfl rfl (by first | rfl | assumption) (by first | rfl | assumption) hB4 (by omega) ((((E1.trans E2).trans E3).trans E4).trans E5) ?_;rintro w6 E6 hB4 K1 hz1
     have E7:=(((E2.trans E3).trans E4).trans E5).wroteAt ((((E1.trans E2).trans E3).trans E4).trans E5) E6 K1 hz1 (by omega);have szE7:=E7.size
     have E8:=((E3.trans E4).trans E5).wroteAt ((((E1.trans E2).trans E3).trans E4).trans E5) E6 K1 hz1 (by omega);have szE8:=E8.size
     have E9:=(E4.trans E5).wroteAt ((((E1.trans E2).trans E3).trans E4).trans E5) E6 K1 hz1 (by omega);have szE9:=E9.size;have E10:=E5.wroteAt ((((E1.trans E2).trans E3).trans E4).trans E5) E6 K1 hz1 (by omega)
     have szE10:=E10.size;have hB1:=(hB1.ext (((E2.trans E3).trans E4).trans E5)).of_heap (K1 _ (by omega));have hB2:=(hB2.ext ((E3.trans E4).trans E5)).of_heap (K1 _ (by omega))
     have hB3:=(hB3.ext (E4.trans E5)).of_heap (K1 _ (by omega));have hO1:=(hO1.ext E5).wrote K1 (by omega);have hQ1:=(hQ1.toB.ext E5).wrote K1 (by omega);refine Kd <| Ke ?_
    clear stop2
    refine W_mid [7,13,14,15,16,17,18,19,20] (fun x:Bool=>[(7,.bool x)]) (fun x w'=>w'=w6∧(x=true↔k=1∨k=2)) ?_ ?_
    ·focus
      have szE10:=E10.size;have szE9:=E9.size;have szE8:=E8.size;have szE7:=E7.size;have szE6:=E6.size;have szE5:=E5.size;have szE4:=E4.size;have szE3:=E3.size;have szE2:=E2.size;have szE1:=E1.size
      refine Kc rfl <| Wo rfl (Kf Tryz.underlying48 rfl rfl Tryz.sizeOf3 rfl) <| Wo (v:=.int _ _) rfl (Km Tryz.isAgg3 rfl (hB2.cell rfl)) <| Wo rfl (Kx rfl rfl) ?_
      refine Kv rfl (Ka (v:=.bool _) rfl) (fun h3=>?_) (fun h3=>?_);refine Ki rfl <| Ki rfl <| Ki rfl <| Wo rfl (Kz (v:=.bool _) rfl rfl) ?_
      refine Wo rfl (Kb (v:=.bool _) rfl) <| Kd ?_;rotate_left;refine Wo rfl (Kf Tryz.underlying48 rfl rfl Tryz.sizeOf3 rfl) <| Wo (v:=.int _ _) rfl (Km Tryz.isAgg3 rfl (hB2.cell rfl)) ?_
      refine Wo rfl (Kx rfl rfl) <| Wo rfl (Kn (v:=.bool _) rfl rfl) <| Wo rfl (Kb (v:=.bool _) rfl) <| Kd ?_;rotate_left
     all_goals exact ⟨_,⟨rfl,trivial⟩,by repeat (first | with_reducible exact Same.refl | refine Same.upd rfl ?_ | refine Same.upds rfl ?_ | refine Same.mix rfl ?_),rfl,by simp_all⟩
    rintro x ρ6 w6' ⟨e6,hx⟩
    have e6:=e6.symm
    subst e6
    have stop3:True:=trivial
    focus
     have szE10:=E10.size;have szE9:=E9.size;have szE8:=E8.size;have szE7:=E7.size;have szE6:=E6.size;have szE5:=E5.size;have szE4:=E4.size;have szE3:=E3.size;have szE2:=E2.size;have szE1:=E1.size
     refine Ke <| Ke ?_
    clear stop3
    refine W_mid [21,22,23,24,25,26,27,28,29,30,31,32,33,34,35,36,37] (fun _:Unit=>[(37,.bool false)]) (fun _ w'=>w'=w6) ?_ ?_
    ·focus
      have szE10:=E10.size;have szE9:=E9.size;have szE8:=E8.size;have szE7:=E7.size;have szE6:=E6.size;have szE5:=E5.size;have szE4:=E4.size;have szE3:=E3.size;have szE2:=E2.size;have szE1:=E1.size
      refine Kc rfl <| Wo rfl (Ka (v:=.bool _) rfl) <| Wo rfl (Jf rfl) <| Jy rfl (Ka (v:=.bool _) rfl) (fun h3=>?_) (fun h3=>?_)
      refine Wo rfl (Kf Tryz.underlying48 rfl rfl Tryz.sizeOf9 rfl) <| Wo (v:=.string _) rfl (Km Tryz.isAgg9 rfl (hB2.cell rfl)) <| Wo rfl (opv_neq_str rfl rfl) ?_
      refine Wo rfl (Kz (v:=.bool _) rfl rfl) <| Jw rfl (Ka (v:=.bool _) rfl) (fun h5=>?_) (fun h5=>?_);refine Ki rfl <| Ki rfl <| Ki rfl <| Ki rfl ?_
      refine Ki rfl <| Ki rfl <| Ki rfl <| Ki rfl <| Wo rfl (Kz (v:=.bool _) rfl rfl) <| Kd ?_;rotate_left
      refine Wo rfl (Kf Tryz.underlying48 rfl rfl Tryz.sizeOf3 rfl) <| Wo (v:=.int _ _) rfl (Km Tryz.isAgg3 rfl (hB2.cell rfl)) <| Wo rfl (Gb rfl rfl) ?_
      refine Jw rfl (Ka (v:=.bool _) rfl) (fun h6=>?_) (fun h6=>?_);refine Wo rfl (Kf Tryz.underlying48 rfl rfl Tryz.sizeOf3 rfl) ?_
      refine Wo (v:=.int _ _) rfl (Km Tryz.isAgg3 rfl (hB2.cell rfl)) <| Wo rfl (Gb rfl rfl) <| Wo rfl (Kz (v:=.bool _) rfl rfl) <| Wo rfl (Kn (v:=.bool _) rfl rfl) ?_
      refine Kd ?_;rotate_left;refine Ki rfl <| Ki rfl <| Ki rfl <| Wo rfl (Kn (v:=.bool _) rfl rfl) <| Wo rfl (Kn (v:=.bool _) rfl rfl) <| Kd ?_
      rotate_left;refine Ki rfl <| Ki rfl <| Ki rfl <| Wo rfl (Kn (v:=.bool _) rfl rfl) <| Wo rfl (Ka (v:=.bool _) rfl) ?_
      refine Wo rfl (Kf Tryz.underlying48 rfl rfl Tryz.sizeOf3 rfl) <| Wo (v:=.int _ _) rfl (Km Tryz.isAgg3 rfl (hB2.cell rfl)) <| Wo rfl (Gb rfl rfl) ?_
      refine Jw rfl (Ka (v:=.bool _) rfl) (fun h5=>?_) (fun h5=>?_);refine Wo rfl (Kf Tryz.underlying48 rfl rfl Tryz.sizeOf3 rfl) ?_
      refine Wo (v:=.int _ _) rfl (Km Tryz.isAgg3 rfl (hB2.cell rfl)) <| Wo rfl (Gb rfl rfl) <| Wo rfl (Kz (v:=.bool _) rfl rfl) <| Wo rfl (Kn (v:=.bool _) rfl rfl) ?_
      refine Kd ?_;rotate_left;refine Ki rfl <| Ki rfl <| Ki rfl <| Wo rfl (Kn (v:=.bool _) rfl rfl) <| Wo rfl (Kn (v:=.bool _) rfl rfl) <| Kd ?_
      rotate_left
     all_goals first
      | exact ⟨(),⟨rfl,trivial⟩,by repeat (first | with_reducible exact Same.refl | refine Same.upd rfl ?_ | refine Same.upds rfl ?_ | refine Same.mix rfl ?_),rfl⟩
      | exact ⟨(),⟨congrArg Value.bool (by simpa using (hB.resolve_left (by assumption))),trivial⟩,by repeat (first | with_reducible exact Same.refl | refine Same.upd rfl ?_ | refine Same.upds rfl ?_ | refine Same.mix rfl ?_),rfl⟩
      | (exfalso;simp_all)
    rintro ⟨⟩ ρ7 w7 e7
    have e7:=e7.symm
    subst e7
    have stop11:True:=trivial
    focus
     have szE10:=E10.size;have szE9:=E9.size;have szE8:=E8.size;have szE7:=E7.size;have szE6:=E6.size;have szE5:=E5.size;have szE4:=E4.size;have szE3:=E3.size;have szE2:=E2.size;have szE1:=E1.size
     refine Ky rfl ?_;refine Kt ?_;refine Ke <| Ke <| Kc rfl <| Wo rfl (Kf Tryz.underlying48 rfl rfl Tryz.sizeOf3 rfl) ?_
     refine Wo (v:=.int _ _) rfl (Km Tryz.isAgg3 rfl (hB2.cell rfl)) <| Wo rfl (Kx rfl rfl) <| Kd <| Kg rfl (fun h3=>?_) (fun h3=>?_);contradiction;refine Kt ?_;refine Ke ?_
    clear stop11
    cases hmv:madeV p ⟨k,t,n⟩ with
    | none =>
      rw [hmv, show og none = [] from rfl, show (none : Option (List (List Int))).isSome = false from rfl] at kN
      rw [doV_none hnb (by unfold nextV; rw [hmv])]
      focus
        have szE10 := E10.size; have szE9 := E9.size; have szE8 := E8.size; have szE7 := E7.size; have szE6 := E6.size; have szE5 := E5.size; have szE4 := E4.size; have szE3 := E3.size; have szE2 := E2.size; have szE1 := E1.size
        refine Kc rfl <| Wo rfl (Kf Tryz.underlying26 rfl rfl Tryz.sizeOf23 rfl) <| Wo (v := u1) rfl (Km Tryz.isAgg23 rfl (hB1.cell rfl)) ?_
        refine Wo (v := .agg _) rfl (Jq Tryz.isAgg48 Tryz.sizeOf48 rfl hB2) <| Kj rfl (Jn (a := u1) (b := .agg _) Tryz.call138 rfl rfl) (kN _ ((Mono.mono E6 hM)) ((Mono.mono E6 h1))) ?_; rintro _ w7 ⟨u4, rfl, E11, hO2⟩
        have ichO2 := OwnedB.isC (Owned.toB hO2); have hs6 := E11.size; refine Wo rfl (Ka (v := .tuple _) rfl) <| Wo rfl (Kk (v := u4) rfl rfl) <| Wo rfl (Kk (v := .bool _) rfl rfl) ?_
        refine Wo rfl (Kb (v := u4) rfl) <| Wo rfl (Kb (v := .bool _) rfl) <| Kd <| Ke <| Ke <| Kc rfl <| Wo rfl (Ka (v := .bool _) rfl) ?_
        refine Wo rfl (Jf rfl) <| Jy rfl (Ka (v := .bool _) rfl) (fun h5 => ?_) (fun h5 => ?_); refine Ki rfl <| Ki rfl <| Ki rfl <| Ki rfl ?_
        refine Wo rfl (Kz (v := .bool _) rfl rfl) <| Kd <| Ga rfl ?_; refine Ke <| Kc rfl <| Wo (v := .agg _) rfl (Jd Tryz.isAgg26 Tryz.sizeOf26 rfl (hB4.ext E11)) ?_
        refine Jl rfl Tryz.sizeOf26 rfl rfl (by first | rfl | assumption) (by first | rfl | assumption) (hB3.ext E11) (by omega) (E6.trans E11) ?_; rintro w8 E12 hB3 K2 hz2
        have E13 := (E7.trans E11).wroteAt (E6.trans E11) E12 K2 hz2 (by omega); have szE13 := E13.size; have E14 := (E8.trans E11).wroteAt (E6.trans E11) E12 K2 hz2 (by omega); have szE14 := E14.size
        have hB4 := (hB4.ext E11).of_heap (K2 _ (by omega)); have hB1 := (hB1.ext E11).of_heap (K2 _ (by omega)); have hB2 := (hB2.ext E11).of_heap (K2 _ (by omega)); have hO1 := (hO1.ext E11).wrote K2 (by omega)
        have hQ1 := (hQ1.ext E11).wrote K2 (by omega); have hO2 := hO2.toB.wrote K2 (by omega); refine Wo rfl (Kb (v := .bool _) rfl) <| Kd <| Ja ?_; rotate_left; contradiction
      exact ⟨b3, u3, q1, rfl, hB3, u3, q1, m1, rfl, by exact E12, hO1.wide (by omega) (Nat.le_refl _), hQ1.o, by omega, by omega⟩
    | some c =>
      rw [hmv, show og (some c) = c from rfl, show (some c).isSome = true from rfl] at kN
      have hc : LeastP c := madeV_least hpp hmv
      have hcp := hc.1
      by_cases hcq : c = p
      · have kE : ∀ (w : World) (v u : Value), ESl Ints w v c → ESl Ints w u p → Does Tryz.prog 139 [v, u, .func (.func 140) [].toArray [].toArray] w (Ret w (.bool true)) := fun w v u h h' => by
          have := EqualFunc_ok w v u c p h h' Tryz.call140
          rwa [decide_eq_true hcq] at this
        have hnx : nextV p ⟨k, t, n⟩ = none := by unfold nextV; rw [hmv]; simp [hcq]
        rw [doV_none hnb hnx]
        focus
          have szE10 := E10.size; have szE9 := E9.size; have szE8 := E8.size; have szE7 := E7.size; have szE6 := E6.size; have szE5 := E5.size; have szE4 := E4.size; have szE3 := E3.size; have szE2 := E2.size; have szE1 := E1.size
          refine Kc rfl <| Wo rfl (Kf Tryz.underlying26 rfl rfl Tryz.sizeOf23 rfl) <| Wo (v := u1) rfl (Km Tryz.isAgg23 rfl (hB1.cell rfl)) ?_
          refine Wo (v := .agg _) rfl (Jq Tryz.isAgg48 Tryz.sizeOf48 rfl hB2) <| Kj rfl (Jn (a := u1) (b := .agg _) Tryz.call138 rfl rfl) (kN _ ((Mono.mono E6 hM)) ((Mono.mono E6 h1))) ?_; rintro _ w7 ⟨u4, rfl, E11, hO2⟩
          have ichO2 := OwnedB.isC (Owned.toB hO2); have hs6 := E11.size; refine Wo rfl (Ka (v := .tuple _) rfl) <| Wo rfl (Kk (v := u4) rfl rfl) <| Wo rfl (Kk (v := .bool _) rfl rfl) ?_
          refine Wo rfl (Kb (v := u4) rfl) <| Wo rfl (Kb (v := .bool _) rfl) <| Kd <| Ke <| Ke <| Kc rfl <| Wo rfl (Ka (v := .bool _) rfl) ?_
          refine Wo rfl (Jf rfl) <| Jy rfl (Ka (v := .bool _) rfl) (fun h5 => ?_) (fun h5 => ?_); contradiction; refine Wo rfl (Ka (v := u4) rfl) ?_
          refine Wo rfl (Kf Tryz.underlying26 rfl rfl Tryz.sizeOf23 rfl) <| Wo (v := u1) rfl (Km Tryz.isAgg23 rfl ((hB1.ext E11).cell rfl)) ?_
          refine Kj rfl (opc3 (a := u4) (b := u1) (c := .func _ _ _) Tryz.call139 rfl rfl rfl) (kE _ _ _ ((Owned.read hO2)) ((Mono.mono (E6.trans E11) h1))) ?_; rintro _ w8 ⟨rfl, E12⟩; have hs7 := E12.size
          refine Wo rfl (Kn (v := .bool _) rfl rfl) <| Kd <| Ga rfl ?_; refine Ke <| Kc rfl ?_
          refine Wo (v := .agg _) rfl (Jd Tryz.isAgg26 Tryz.sizeOf26 rfl (hB4.ext (E11.trans E12))) ?_
          refine Jl rfl Tryz.sizeOf26 rfl rfl (by first | rfl | assumption) (by first | rfl | assumption) (hB3.ext (E11.trans E12)) (by omega) ((E6.trans E11).trans E12) ?_; rintro w9 E13 hB3 K2 hz2
          have E14 := ((E7.trans E11).trans E12).wroteAt ((E6.trans E11).trans E12) E13 K2 hz2 (by omega); have szE14 := E14.size; have E15 := ((E8.trans E11).trans E12).wroteAt ((E6.trans E11).trans E12) E13 K2 hz2 (by omega)
          have szE15 := E15.size; have hB4 := (hB4.ext (E11.trans E12)).of_heap (K2 _ (by omega)); have hB1 := (hB1.ext (E11.trans E12)).of_heap (K2 _ (by omega)); have hB2 := (hB2.ext (E11.trans E12)).of_heap (K2 _ (by omega))
          have hO1 := (hO1.ext (E11.trans E12)).wrote K2 (by omega); have hQ1 := (hQ1.ext (E11.trans E12)).wrote K2 (by omega); have hO2 := (hO2.toB.ext E12).wrote K2 (by omega); refine Wo rfl (Kb (v := .bool _) rfl) ?_
          refine Kd <| Ja ?_
        exact ⟨b3, u3, q1, rfl, hB3, u3, q1, m1, rfl, by exact E13, hO1.wide (by omega) (Nat.le_refl _), hQ1.o, by omega, by omega⟩
      · have kE : ∀ (w : World) (v u : Value), ESl Ints w v c → ESl Ints w u p → Does Tryz.prog 139 [v, u, .func (.func 140) [].toArray [].toArray] w (Ret w (.bool false)) := fun w v u h h' => by
          have := EqualFunc_ok w v u c p h h' Tryz.call140
          rwa [decide_eq_false hcq] at this
        have hnx : nextV p ⟨k, t, n⟩ = some c := by unfold nextV; rw [hmv]; simp [hcq]
        have hdo : doV ⟨p, pp⟩ ⟨k, t, n⟩ = (⟨c, last8 (pp ++ [p])⟩, true) := by unfold doV; rw [if_neg hnb]; simp only; rw [hnx]
        rw [hdo]
        simp only
        have stop15 : True := trivial
        have hQ0 := hQ1
        focus
          have szE10 := E10.size; have szE9 := E9.size; have szE8 := E8.size; have szE7 := E7.size; have szE6 := E6.size; have szE5 := E5.size; have szE4 := E4.size; have szE3 := E3.size; have szE2 := E2.size; have szE1 := E1.size
          refine Kc rfl <| Wo rfl (Kf Tryz.underlying26 rfl rfl Tryz.sizeOf23 rfl) <| Wo (v := u1) rfl (Km Tryz.isAgg23 rfl (hB1.cell rfl)) ?_
          refine Wo (v := .agg _) rfl (Jq Tryz.isAgg48 Tryz.sizeOf48 rfl hB2) <| Kj rfl (Jn (a := u1) (b := .agg _) Tryz.call138 rfl rfl) (kN _ ((Mono.mono E6 hM)) ((Mono.mono E6 h1))) ?_; rintro _ w7 ⟨u4, rfl, E11, hO2⟩
          have ichO2 := OwnedB.isC (Owned.toB hO2); have hs6 := E11.size; refine Wo rfl (Ka (v := .tuple _) rfl) <| Wo rfl (Kk (v := u4) rfl rfl) <| Wo rfl (Kk (v := .bool _) rfl rfl) ?_
          refine Wo rfl (Kb (v := u4) rfl) <| Wo rfl (Kb (v := .bool _) rfl) <| Kd <| Ke <| Ke <| Kc rfl <| Wo rfl (Ka (v := .bool _) rfl) ?_
          refine Wo rfl (Jf rfl) <| Jy rfl (Ka (v := .bool _) rfl) (fun h5 => ?_) (fun h5 => ?_); contradiction; refine Wo rfl (Ka (v := u4) rfl) ?_
          refine Wo rfl (Kf Tryz.underlying26 rfl rfl Tryz.sizeOf23 rfl) <| Wo (v := u1) rfl (Km Tryz.isAgg23 rfl ((hB1.ext E11).cell rfl)) ?_
          refine Kj rfl (opc3 (a := u4) (b := u1) (c := .func _ _ _) Tryz.call139 rfl rfl rfl) (kE _ _ _ ((Owned.read hO2)) ((Mono.mono (E6.trans E11) h1))) ?_; rintro _ w8 ⟨rfl, E12⟩; have hs7 := E12.size
          refine Wo rfl (Kn (v := .bool _) rfl rfl) <| Kd <| Ky rfl ?_; refine Kt ?_; refine Ke <| Kc rfl ?_
          refine Wo rfl (Kf Tryz.underlying26 rfl rfl Tryz.sizeOf24 rfl) <| Wo (v := q1) rfl (Km Tryz.isAgg24 rfl ((hB4.ext (E11.trans E12)).cell rfl)) ?_
          refine Wo rfl (Kf Tryz.underlying26 rfl rfl Tryz.sizeOf23 rfl) <| Wo (v := u3) rfl (Km Tryz.isAgg23 rfl ((hB4.ext (E11.trans E12)).cell rfl)) ?_
          refine Jz rfl Tryz.underlying24 Tryz.sizeOf23 Tryz.zeroValue23 rfl (OwnedB.isC (hO1.ext (E11.trans E12))) rfl ?_; rintro b5 w9 hb6 E13 hB5 hHb5; have hlb5 := hB5.lt; have hs8 := E13.size
          refine Wo_app1r rfl el24 rfl rfl hB5 (hQ0.ext ((E11.trans E12).trans E13)) (hO1.ext ((E11.trans E12).trans E13)) (by first | omega | (simp <;> omega)) (by omega) (by omega) (((E6.trans E11).trans E12).trans E13) (by omega) ?_
          have hT1 := (hQ0.ext ((E11.trans E12).trans E13)); rintro v1 w10 hQ0 E14 M1; have E15 := M1.ext hT1 (((E7.trans E11).trans E12).trans E13) (by omega); have szE15 := E15.size
          have E16 := M1.ext hT1 (((E8.trans E11).trans E12).trans E13) (by omega); have szE16 := E16.size; have E17 := M1.ext hT1 (((E9.trans E11).trans E12).trans E13) (by omega); have szE17 := E17.size
          have hB4 := (hB4.ext ((E11.trans E12).trans E13)).moves M1 hT1 (by omega); have hB1 := (hB1.ext ((E11.trans E12).trans E13)).moves M1 hT1 (by omega); have hB2 := (hB2.ext ((E11.trans E12).trans E13)).moves M1 hT1 (by omega)
          have hB3 := (hB3.ext ((E11.trans E12).trans E13)).moves M1 hT1 (by omega); have hO1 := (hO1.ext ((E11.trans E12).trans E13)).moves M1 hT1 (by omega); have hO2 := (hO2.toB.ext (E12.trans E13)).moves M1 hT1 (by omega)
          have hB5 := hB5.moves M1 hT1 (by omega); have hs9 := E14.size; have szM1 := M1.1.size; have icv1 := OwnedB.isC (Owned.toB hQ0); refine Wo rfl (Kb (v := v1) rfl) <| Kd <| Ke <| Ke ?_
        clear stop15
        obtain ⟨nb, nc, rfl, hnc⟩ := hQ0.lit (by simp)
        have hnl : (pp ++ [p]).length = pp.length + 1 := by simp
        rw [hnl] at hQ0 hnc ⊢
        have hR : ESl (ESl Ints) w10 (.slice (some ⟨nb, 0, none⟩) (pp.length + 1) nc) (pp ++ [p]) := hQ0.read
        have hbn : ∀ q ∈ pp ++ [p], q.length ≤ 100 ∧ ∀ r ∈ q, r.length ≤ 100 := fun q hq => by
          rcases List.mem_append.1 hq with hq | hq
          · exact hb2 q hq
          · rw [List.mem_singleton.1 hq]; exact bnd p hpp
        clear hQ0 hQ1 kN kE k1 M1 hT1 icv1
        by_cases hl8 : pp.length + 1 ≤ 8
        · have kC : ∀ (w : World), ESl Ints w u4 c → ESl (ESl Ints) w (.slice (some ⟨nb, 0, none⟩) (pp.length + 1) nc) (pp ++ [p]) → Does Tryz.prog 77 [.agg #[u4, .slice (some ⟨nb, 0, none⟩) (pp.length + 1) nc]] w (RetDk w 23 88 3 c (last8 (pp ++ [p]))) := fun w h1 h2 => by
            rw [show last8 (pp ++ [p]) = pp ++ [p] from if_neg (by omega)]
            exact copyDesk_ok w _ _ _ _ h1 h2 (bnd c hcp) (by omega) hbn
          focus
            have szE17 := E17.size; have szE16 := E16.size; have szE15 := E15.size; have szE14 := E14.size; have szE13 := E13.size; have szE12 := E12.size; have szE11 := E11.size; have szE10 := E10.size; have szE9 := E9.size
            have szE8 := E8.size; have szE7 := E7.size; have szE6 := E6.size; have szE5 := E5.size; have szE4 := E4.size; have szE3 := E3.size; have szE2 := E2.size; have szE1 := E1.size; refine Kc rfl ?_
            refine Wo rfl (Ka (v := .slice _ _ _) rfl) <| Wo rfl (Ko Tryz.underlying24 rfl hR) <| Wo rfl (opv_gtr rfl rfl) <| Kd <| Kg rfl (fun h6 => ?_) (fun h6 => ?_); (exfalso; omega)
            refine Kt ?_; refine Ke <| Kc rfl <| Wo rfl (Ka (v := u4) rfl) <| Wo rfl (Ka (v := .slice _ _ _) rfl) ?_
            refine Wo rfl (opv_build2 flat26 rfl (by first | assumption | rfl) (by first | assumption | rfl)) ?_; refine Kj rfl (Jk (a := .agg _) Tryz.call77 rfl) (kC _ ((OwnedB.read hO2)) (hR)) ?_
            rintro _ w11 ⟨u5, q2, m2, rfl, E18, hO3, hQ2, hm2, hn2⟩; have icu5 := OwnedB.isC hO3; have cpu5 := OwnedB.capOk hO3; have icq2 := OwnedB.isC (Owned.toB hQ2); have cpq2 := OwnedB.capOk (Owned.toB hQ2); have hs10 := E18.size
            refine Jl rfl Tryz.sizeOf26 rfl rfl (by first | rfl | assumption) (by first | rfl | assumption) (hB3.ext E18) (by omega) (E14.trans E18) ?_; rintro w12 E19 hB3 K2 hz2
            have E20 := (E15.trans E18).wroteAt (E14.trans E18) E19 K2 hz2 (by omega); have szE20 := E20.size; have E21 := (E16.trans E18).wroteAt (E14.trans E18) E19 K2 hz2 (by omega); have szE21 := E21.size
            have hB4 := (hB4.ext E18).of_heap (K2 _ (by omega)); have hB1 := (hB1.ext E18).of_heap (K2 _ (by omega)); have hB2 := (hB2.ext E18).of_heap (K2 _ (by omega)); have hO1 := (hO1.ext E18).wrote K2 (by omega)
            have hO2 := (hO2.ext E18).wrote K2 (by omega); have hB5 := (hB5.ext E18).of_heap (K2 _ (by omega)); have hO3 := hO3.wrote K2 (by omega); have hQ2 := hQ2.toB.wrote K2 (by omega); refine Wo rfl (Kb (v := .bool _) rfl) ?_
            refine Kd <| Ja ?_
          exact ⟨b3, _, _, rfl, hB3, _, _, m2, rfl, by exact E19, hO3.wide (by omega) (Nat.le_refl _), hQ2.o, by omega, by omega⟩
        · have kC : ∀ (w : World), ESl Ints w u4 c → ESl (ESl Ints) w (.slice (some ⟨nb, 0, none⟩) (pp.length + 1) nc) (pp ++ [p]) → Does Tryz.prog 77 [.agg #[u4, .slice (some ⟨nb, 0 + (1 : Int).toNat, none⟩) (pp.length + 1 - (1 : Int).toNat) (nc - (1 : Int).toNat)]] w (RetDk w 23 88 3 c (last8 (pp ++ [p]))) := fun w h1 h2 => by
            rw [show last8 (pp ++ [p]) = (pp ++ [p]).drop 1 from if_pos (by omega)]
            exact copyDesk_ok w _ _ _ _ h1 (h2.dropS (k := 1) (by omega)) (bnd c hcp) (by simp; omega) (fun q hq => hbn q (List.mem_of_mem_drop hq))
          focus
            have szE17 := E17.size; have szE16 := E16.size; have szE15 := E15.size; have szE14 := E14.size; have szE13 := E13.size; have szE12 := E12.size; have szE11 := E11.size; have szE10 := E10.size; have szE9 := E9.size
            have szE8 := E8.size; have szE7 := E7.size; have szE6 := E6.size; have szE5 := E5.size; have szE4 := E4.size; have szE3 := E3.size; have szE2 := E2.size; have szE1 := E1.size; refine Kc rfl ?_
            refine Wo rfl (Ka (v := .slice _ _ _) rfl) <| Wo rfl (Ko Tryz.underlying24 rfl hR) <| Wo rfl (opv_gtr rfl rfl) <| Kd <| Kg rfl (fun h6 => ?_) (fun h6 => ?_)
            refine Kc rfl <| Wo rfl (Ka (v := .slice _ _ _) rfl) <| Wo rfl (opv_slice_sl_lo Tryz.underlying24 Tryz.sizeOf23 rfl rfl (by omega)) ?_; refine Wo rfl (Kb (v := .slice _ _ _) rfl) ?_
            refine Kd <| Ke <| Kc rfl <| Wo rfl (Ka (v := u4) rfl) <| Wo rfl (Ka (v := .slice _ _ _) rfl) ?_
            refine Wo rfl (opv_build2 flat26 rfl (by first | assumption | rfl) (by first | assumption | rfl)) ?_; refine Kj rfl (Jk (a := .agg _) Tryz.call77 rfl) (kC _ ((OwnedB.read hO2)) (hR)) ?_
            rintro _ w11 ⟨u5, q2, m2, rfl, E18, hO3, hQ2, hm2, hn2⟩; have icu5 := OwnedB.isC hO3; have cpu5 := OwnedB.capOk hO3; have icq2 := OwnedB.isC (Owned.toB hQ2); have cpq2 := OwnedB.capOk (Owned.toB hQ2); have hs10 := E18.size
            refine Jl rfl Tryz.sizeOf26 rfl rfl (by first | rfl | assumption) (by first | rfl | assumption) (hB3.ext E18) (by omega) (E14.trans E18) ?_; rintro w12 E19 hB3 K2 hz2
            have E20 := (E15.trans E18).wroteAt (E14.trans E18) E19 K2 hz2 (by omega); have szE20 := E20.size; have E21 := (E16.trans E18).wroteAt (E14.trans E18) E19 K2 hz2 (by omega); have szE21 := E21.size
            have hB4 := (hB4.ext E18).of_heap (K2 _ (by omega)); have hB1 := (hB1.ext E18).of_heap (K2 _ (by omega)); have hB2 := (hB2.ext E18).of_heap (K2 _ (by omega)); have hO1 := (hO1.ext E18).wrote K2 (by omega)
            have hO2 := (hO2.ext E18).wrote K2 (by omega); have hB5 := (hB5.ext E18).of_heap (K2 _ (by omega)); have hO3 := hO3.wrote K2 (by omega); have hQ2 := hQ2.toB.wrote K2 (by omega); refine Wo rfl (Kb (v := .bool _) rfl) ?_
            refine Kd <| Ja ?_; rotate_left; (exfalso; omega)
          exact ⟨b3, _, _, rfl, hB3, _, _, m2, rfl, by exact E19, hO3.wide (by omega) (Nat.le_refl _), hQ2.o, by omega, by omega⟩
  ·have hdo:doV ⟨p,pp⟩ ⟨k,t,n⟩=(⟨p,pp⟩,false):=doV_none (fun h=>hB (.inr (by have:=h.1;injection this))) (by unfold nextV;rw [madeV_n hB])
   have hk3 : ¬k=3:=fun h=>hB (.inl h)
   have hn0 : ¬n=0:=fun h=>hB (.inr h)
   rw [hdo]
   focus
    refine Ke <| Kc rfl <| Jp rfl rfl rfl ?_;rintro b1 w1 hb1 E1 hB1;have hlb1:=hB1.lt;have hs1:=E1.size;refine Jp rfl rfl rfl ?_;rintro b2 w2 hb3 E2 hB2;have hlb2:=hB2.lt
    have hs2:=E2.size;refine Je rfl flat26 ?_;rintro b3 w3 hb4 E3 hB3;have hlb3:=hB3.lt;have hs3:=E3.size;refine Wo rfl (Kb (v:=.bool _) rfl) <| Kd <| Ke <| Kc rfl ?_
    refine Wo (v:=.agg _) rfl (Jd Tryz.isAgg26 Tryz.sizeOf26 rfl (hB1.ext (E2.trans E3))) ?_
    refine Kj rfl (Jk (a:=.agg _) Tryz.call77 rfl) (k1 _ ((Mono.mono ((E1.trans E2).trans E3) h1)) ((Mono.mono ((E1.trans E2).trans E3) h2))) ?_;rintro _ w4 ⟨u3,q1,m1,rfl,E4,hO1,hQ1,hm1,hn1⟩
    have icu3:=OwnedB.isC hO1;have cpu3:=OwnedB.capOk hO1;have icq1:=OwnedB.isC (Owned.toB hQ1);have cpq1:=OwnedB.capOk (Owned.toB hQ1);have hs4:=E4.size;refine Je rfl flat26 ?_;rintro b4 w5 hb5 E5 hB4
    have hlb4:=hB4.lt;have hs5:=E5.size;refine Jl rfl Tryz.sizeOf26 rfl rfl (by first | rfl | assumption) (by first | rfl | assumption) hB4 (by omega) ((((E1.trans E2).trans E3).trans E4).trans E5) ?_;rintro w6 E6 hB4 K1 hz1
    have E7:=(((E2.trans E3).trans E4).trans E5).wroteAt ((((E1.trans E2).trans E3).trans E4).trans E5) E6 K1 hz1 (by omega);have szE7:=E7.size
    have E8:=((E3.trans E4).trans E5).wroteAt ((((E1.trans E2).trans E3).trans E4).trans E5) E6 K1 hz1 (by omega);have szE8:=E8.size
    have E9:=(E4.trans E5).wroteAt ((((E1.trans E2).trans E3).trans E4).trans E5) E6 K1 hz1 (by omega);have szE9:=E9.size;have E10:=E5.wroteAt ((((E1.trans E2).trans E3).trans E4).trans E5) E6 K1 hz1 (by omega)
    have szE10:=E10.size;have hB1:=(hB1.ext (((E2.trans E3).trans E4).trans E5)).of_heap (K1 _ (by omega));have hB2:=(hB2.ext ((E3.trans E4).trans E5)).of_heap (K1 _ (by omega))
    have hB3:=(hB3.ext (E4.trans E5)).of_heap (K1 _ (by omega));have hO1:=(hO1.ext E5).wrote K1 (by omega);have hQ1:=(hQ1.toB.ext E5).wrote K1 (by omega);refine Kd <| Ke <| Kc rfl ?_
    refine Wo rfl (Kf Tryz.underlying48 rfl rfl Tryz.sizeOf3 rfl) <| Wo (v:=.int _ _) rfl (Km Tryz.isAgg3 rfl (hB2.cell rfl)) <| Wo rfl (Kx rfl rfl) ?_
    refine Kv rfl (Ka (v:=.bool _) rfl) (fun h3=>?_) (fun h3=>?_);refine Ki rfl <| Ki rfl <| Ki rfl <| Wo rfl (Kz (v:=.bool _) rfl rfl) ?_
    refine Wo rfl (Kb (v:=.bool _) rfl) <| Kd <| Ke <| Ke <| Kc rfl <| Wo rfl (Ka (v:=.bool _) rfl) <| Wo rfl (Jf rfl) ?_
    refine Jy rfl (Ka (v:=.bool _) rfl) (fun h4=>?_) (fun h4=>?_);contradiction;refine Ki rfl <| Ki rfl <| Ki rfl <| Wo rfl (Kn (v:=.bool _) rfl rfl) ?_
    refine Wo rfl (Ka (v:=.bool _) rfl) <| Wo rfl (Kf Tryz.underlying48 rfl rfl Tryz.sizeOf3 rfl) <| Wo (v:=.int _ _) rfl (Km Tryz.isAgg3 rfl (hB2.cell rfl)) ?_
    refine Wo rfl (Gb rfl rfl) <| Jw rfl (Ka (v:=.bool _) rfl) (fun h5=>?_) (fun h5=>?_);refine Wo rfl (Kf Tryz.underlying48 rfl rfl Tryz.sizeOf3 rfl) ?_
    refine Wo (v:=.int _ _) rfl (Km Tryz.isAgg3 rfl (hB2.cell rfl)) <| Wo rfl (Gb rfl rfl) <| Wo rfl (Kz (v:=.bool _) rfl rfl) <| Wo rfl (Kn (v:=.bool _) rfl rfl) ?_
    refine Kd <| Jj rfl (fun h6=>?_) (fun h6=>?_);refine Ke <| Kc rfl <| Wo (v:=.agg _) rfl (Jd Tryz.isAgg26 Tryz.sizeOf26 rfl hB4) ?_
    refine Jl rfl Tryz.sizeOf26 rfl rfl (by first | rfl | assumption) (by first | rfl | assumption) hB3 (by omega) E6 ?_;rintro w7 E11 hB3 K2 hz2;have E12:=E7.wroteAt E6 E11 K2 hz2 (by omega);have szE12:=E12.size
    have E13:=E8.wroteAt E6 E11 K2 hz2 (by omega);have szE13:=E13.size;have hB4:=hB4.of_heap (K2 _ (by omega));have hB1:=hB1.of_heap (K2 _ (by omega));have hB2:=hB2.of_heap (K2 _ (by omega))
    have hO1:=hO1.wrote K2 (by omega);have hQ1:=hQ1.wrote K2 (by omega);refine Wo rfl (Kb (v:=.bool _) rfl) <| Kd <| Ja ?_;rotate_left;contradiction;contradiction
    refine Wo rfl (Kf Tryz.underlying48 rfl rfl Tryz.sizeOf3 rfl) <| Wo (v:=.int _ _) rfl (Km Tryz.isAgg3 rfl (hB2.cell rfl)) <| Wo rfl (Kx rfl rfl) ?_
    refine Wo rfl (Kn (v:=.bool _) rfl rfl) <| Wo rfl (Kb (v:=.bool _) rfl) <| Kd <| Ke <| Ke <| Kc rfl <| Wo rfl (Ka (v:=.bool _) rfl) ?_
    refine Wo rfl (Jf rfl) <| Jw rfl (Ka (v:=.bool _) rfl) (fun h4=>?_) (fun h4=>?_);refine Wo rfl (Kf Tryz.underlying48 rfl rfl Tryz.sizeOf9 rfl) ?_
    refine Wo (v:=.string _) rfl (Km Tryz.isAgg9 rfl (hB2.cell rfl)) <| Wo rfl (opv_neq_str rfl rfl) <| Wo rfl (Kz (v:=.bool _) rfl rfl) ?_
    refine Jw rfl (Ka (v:=.bool _) rfl) (fun h5=>?_) (fun h5=>?_);refine Ki rfl <| Ki rfl <| Ki rfl <| Ki rfl <| Ki rfl <| Ki rfl ?_
    refine Ki rfl <| Ki rfl <| Wo rfl (Kz (v:=.bool _) rfl rfl) <| Kd <| Ga rfl ?_;refine Ke <| Kc rfl ?_
    refine Wo (v:=.agg _) rfl (Jd Tryz.isAgg26 Tryz.sizeOf26 rfl hB4) <| Jl rfl Tryz.sizeOf26 rfl rfl (by first | rfl | assumption) (by first | rfl | assumption) hB3 (by omega) E6 ?_;rintro w7 E11 hB3 K2 hz2
    have E12:=E7.wroteAt E6 E11 K2 hz2 (by omega);have szE12:=E12.size;have E13:=E8.wroteAt E6 E11 K2 hz2 (by omega);have szE13:=E13.size;have hB4:=hB4.of_heap (K2 _ (by omega));have hB1:=hB1.of_heap (K2 _ (by omega))
    have hB2:=hB2.of_heap (K2 _ (by omega));have hO1:=hO1.wrote K2 (by omega);have hQ1:=hQ1.wrote K2 (by omega);refine Wo rfl (Kb (v:=.bool _) rfl) <| Kd <| Ja ?_;rotate_left
    refine Wo rfl (Kf Tryz.underlying48 rfl rfl Tryz.sizeOf3 rfl) <| Wo (v:=.int _ _) rfl (Km Tryz.isAgg3 rfl (hB2.cell rfl)) <| Wo rfl (Gb rfl rfl) ?_
    refine Jw rfl (Ka (v:=.bool _) rfl) (fun h6=>?_) (fun h6=>?_);refine Wo rfl (Kf Tryz.underlying48 rfl rfl Tryz.sizeOf3 rfl) ?_
    refine Wo (v:=.int _ _) rfl (Km Tryz.isAgg3 rfl (hB2.cell rfl)) <| Wo rfl (Gb rfl rfl) <| Wo rfl (Kz (v:=.bool _) rfl rfl) <| Wo rfl (Kn (v:=.bool _) rfl rfl) ?_
    refine Kd <| Jj rfl (fun h7=>?_) (fun h7=>?_);refine Ke <| Kc rfl <| Wo (v:=.agg _) rfl (Jd Tryz.isAgg26 Tryz.sizeOf26 rfl hB4) ?_
    refine Jl rfl Tryz.sizeOf26 rfl rfl (by first | rfl | assumption) (by first | rfl | assumption) hB3 (by omega) E6 ?_;rintro w7 E11 hB3 K2 hz2;have E12:=E7.wroteAt E6 E11 K2 hz2 (by omega);have szE12:=E12.size
    have E13:=E8.wroteAt E6 E11 K2 hz2 (by omega);have szE13:=E13.size;have hB4:=hB4.of_heap (K2 _ (by omega));have hB1:=hB1.of_heap (K2 _ (by omega));have hB2:=hB2.of_heap (K2 _ (by omega))
    have hO1:=hO1.wrote K2 (by omega);have hQ1:=hQ1.wrote K2 (by omega);refine Wo rfl (Kb (v:=.bool _) rfl) <| Kd <| Ja ?_;rotate_left;contradiction;contradiction;refine Ki rfl ?_
    refine Ki rfl <| Ki rfl <| Wo rfl (Kn (v:=.bool _) rfl rfl) <| Wo rfl (Ka (v:=.bool _) rfl) <| Wo rfl (Kf Tryz.underlying48 rfl rfl Tryz.sizeOf3 rfl) ?_
    refine Wo (v:=.int _ _) rfl (Km Tryz.isAgg3 rfl (hB2.cell rfl)) <| Wo rfl (Gb rfl rfl) <| Jw rfl (Ka (v:=.bool _) rfl) (fun h5=>?_) (fun h5=>?_)
    refine Wo rfl (Kf Tryz.underlying48 rfl rfl Tryz.sizeOf3 rfl) <| Wo (v:=.int _ _) rfl (Km Tryz.isAgg3 rfl (hB2.cell rfl)) <| Wo rfl (Gb rfl rfl) ?_
    refine Wo rfl (Kz (v:=.bool _) rfl rfl) <| Wo rfl (Kn (v:=.bool _) rfl rfl) <| Kd <| Jj rfl (fun h6=>?_) (fun h6=>?_);refine Ke <| Kc rfl ?_
    refine Wo (v:=.agg _) rfl (Jd Tryz.isAgg26 Tryz.sizeOf26 rfl hB4) <| Jl rfl Tryz.sizeOf26 rfl rfl (by first | rfl | assumption) (by first | rfl | assumption) hB3 (by omega) E6 ?_;rintro w7 E11 hB3 K2 hz2
    have E12:=E7.wroteAt E6 E11 K2 hz2 (by omega);have szE12:=E12.size;have E13:=E8.wroteAt E6 E11 K2 hz2 (by omega);have szE13:=E13.size;have hB4:=hB4.of_heap (K2 _ (by omega));have hB1:=hB1.of_heap (K2 _ (by omega))
    have hB2:=hB2.of_heap (K2 _ (by omega));have hO1:=hO1.wrote K2 (by omega);have hQ1:=hQ1.wrote K2 (by omega);refine Wo rfl (Kb (v:=.bool _) rfl) <| Kd <| Ja ?_;rotate_left;contradiction
    contradiction
   all_goals exact ⟨b3,u3,q1,rfl,hB3,u3,q1,m1,rfl,by assumption,hO1.wide (by omega) (Nat.le_refl _),hQ1.o,by omega,by omega⟩
 ·have hdo:doV ⟨p,pp⟩ ⟨k,t,n⟩=(⟨p,pp⟩,false):=doV_none (fun h=>hA (.inr (.inr (by have:=h.1;injection this)))) (by unfold nextV;rw [madeV_t hA])
  have hA1 : ¬k=1:=fun h=>hA (.inl h)
  have hA2 : ¬k=2:=fun h=>hA (.inr (.inl h))
  have hA3 : ¬t=[]:=fun h=>hA (.inr (.inr h))
  rw [hdo]
  focus
   refine Ke <| Kc rfl <| Jp rfl rfl rfl ?_;rintro b1 w1 hb1 E1 hB1;have hlb1:=hB1.lt;have hs1:=E1.size;refine Jp rfl rfl rfl ?_;rintro b2 w2 hb3 E2 hB2;have hlb2:=hB2.lt
   have hs2:=E2.size;refine Je rfl flat26 ?_;rintro b3 w3 hb4 E3 hB3;have hlb3:=hB3.lt;have hs3:=E3.size;refine Wo rfl (Kb (v:=.bool _) rfl) <| Kd <| Ke <| Kc rfl ?_
   refine Wo (v:=.agg _) rfl (Jd Tryz.isAgg26 Tryz.sizeOf26 rfl (hB1.ext (E2.trans E3))) ?_
   refine Kj rfl (Jk (a:=.agg _) Tryz.call77 rfl) (k1 _ ((Mono.mono ((E1.trans E2).trans E3) h1)) ((Mono.mono ((E1.trans E2).trans E3) h2))) ?_;rintro _ w4 ⟨u3,q1,m1,rfl,E4,hO1,hQ1,hm1,hn1⟩
   have icu3:=OwnedB.isC hO1;have cpu3:=OwnedB.capOk hO1;have icq1:=OwnedB.isC (Owned.toB hQ1);have cpq1:=OwnedB.capOk (Owned.toB hQ1);have hs4:=E4.size;refine Je rfl flat26 ?_;rintro b4 w5 hb5 E5 hB4
   have hlb4:=hB4.lt;have hs5:=E5.size;refine Jl rfl Tryz.sizeOf26 rfl rfl (by first | rfl | assumption) (by first | rfl | assumption) hB4 (by omega) ((((E1.trans E2).trans E3).trans E4).trans E5) ?_;rintro w6 E6 hB4 K1 hz1
   have E7:=(((E2.trans E3).trans E4).trans E5).wroteAt ((((E1.trans E2).trans E3).trans E4).trans E5) E6 K1 hz1 (by omega);have szE7:=E7.size
   have E8:=((E3.trans E4).trans E5).wroteAt ((((E1.trans E2).trans E3).trans E4).trans E5) E6 K1 hz1 (by omega);have szE8:=E8.size
   have E9:=(E4.trans E5).wroteAt ((((E1.trans E2).trans E3).trans E4).trans E5) E6 K1 hz1 (by omega);have szE9:=E9.size;have E10:=E5.wroteAt ((((E1.trans E2).trans E3).trans E4).trans E5) E6 K1 hz1 (by omega)
   have szE10:=E10.size;have hB1:=(hB1.ext (((E2.trans E3).trans E4).trans E5)).of_heap (K1 _ (by omega));have hB2:=(hB2.ext ((E3.trans E4).trans E5)).of_heap (K1 _ (by omega))
   have hB3:=(hB3.ext (E4.trans E5)).of_heap (K1 _ (by omega));have hO1:=(hO1.ext E5).wrote K1 (by omega);have hQ1:=(hQ1.toB.ext E5).wrote K1 (by omega);refine Kd <| Ke <| Kc rfl ?_
   refine Wo rfl (Kf Tryz.underlying48 rfl rfl Tryz.sizeOf3 rfl) <| Wo (v:=.int _ _) rfl (Km Tryz.isAgg3 rfl (hB2.cell rfl)) <| Wo rfl (Kx rfl rfl) ?_
   refine Kv rfl (Ka (v:=.bool _) rfl) (fun h3=>?_) (fun h3=>?_);contradiction;refine Wo rfl (Kf Tryz.underlying48 rfl rfl Tryz.sizeOf3 rfl) ?_
   refine Wo (v:=.int _ _) rfl (Km Tryz.isAgg3 rfl (hB2.cell rfl)) <| Wo rfl (Kx rfl rfl) <| Wo rfl (Kn (v:=.bool _) rfl rfl) <| Wo rfl (Kb (v:=.bool _) rfl) <| Kd ?_
   refine Ke <| Ke <| Kc rfl <| Wo rfl (Ka (v:=.bool _) rfl) <| Wo rfl (Jf rfl) <| Jw rfl (Ka (v:=.bool _) rfl) (fun h4=>?_) (fun h4=>?_)
   refine Wo rfl (Kf Tryz.underlying48 rfl rfl Tryz.sizeOf9 rfl) <| Wo (v:=.string _) rfl (Km Tryz.isAgg9 rfl (hB2.cell rfl)) <| Wo rfl (opv_neq_str rfl rfl) ?_
   refine Wo rfl (Kz (v:=.bool _) rfl rfl) <| Jw rfl (Ka (v:=.bool _) rfl) (fun h5=>?_) (fun h5=>?_);refine Ki rfl <| Ki rfl <| Ki rfl <| Ki rfl ?_
   refine Ki rfl <| Ki rfl <| Ki rfl <| Ki rfl <| Wo rfl (Kz (v:=.bool _) rfl rfl) <| Kd <| Ga rfl ?_;refine Ke <| Kc rfl ?_
   refine Wo (v:=.agg _) rfl (Jd Tryz.isAgg26 Tryz.sizeOf26 rfl hB4) <| Jl rfl Tryz.sizeOf26 rfl rfl (by first | rfl | assumption) (by first | rfl | assumption) hB3 (by omega) E6 ?_;rintro w7 E11 hB3 K2 hz2
   have E12:=E7.wroteAt E6 E11 K2 hz2 (by omega);have szE12:=E12.size;have E13:=E8.wroteAt E6 E11 K2 hz2 (by omega);have szE13:=E13.size;have hB4:=hB4.of_heap (K2 _ (by omega));have hB1:=hB1.of_heap (K2 _ (by omega))
   have hB2:=hB2.of_heap (K2 _ (by omega));have hO1:=hO1.wrote K2 (by omega);have hQ1:=hQ1.wrote K2 (by omega);refine Wo rfl (Kb (v:=.bool _) rfl) <| Kd <| Ja ?_;rotate_left;contradiction
   contradiction
  exact ⟨b3,u3,q1,rfl,hB3,u3,q1,m1,rfl,by exact E11,hO1.wide (by omega) (Nat.le_refl _),hQ1.o,by omega,by omega⟩
theorem shift_row {n:Nat} {r:List Int} {o:Nat} (j:Nat) (hj:j < r.length) (hn:o+r.length≤n):(List.replicate o 0++r.take j++List.replicate (n - o - j) 0).set (o+j) r[j]=List.replicate o 0++r.take (j+1)++List.replicate (n - o - (j+1)) 0:=by
 rw [List.append_assoc,List.set_append_right _ _ (by simp),List.append_assoc]
 congr 1
 rw [List.length_replicate,Nat.add_sub_cancel_left,List.set_append_right _ _ (by simp;omega)]
 rw [show j - (r.take j).length=0 by simp;omega,show n - o - j=(n - o - (j+1))+1 by omega,List.replicate_succ,List.set_cons_zero,take_snoc _ _ hj,List.append_assoc]
 rfl
theorem l6Put_ok (w:World) (v u vl vr:Value) (p q:List (List Int)) (L R:List Nat) (h:ESl Ints w v p) (h':ESl Ints w u q) (hL:Ints w vl (ints L)) (hR:Ints w vr (ints R)) (hp:Pic p) (hq:Pic q∨q=[])
  (hl : ∀ x ∈ L,x < p.length) (hr : ∀ x ∈ R,x < q.length) (hll:L.length≤1000) (hrl:R.length≤1000) :
  Does Tryz.prog 176 [v,u,vl,vr] w (RetO w XR (put (bes p q) (L++R.map (p.length + ·)))):=by
 have hp5:=hp.2.1
 have hq5:q.length≤5:=by rcases hq with hq | rfl;exact hq.2.1;simp
 have hqrow : ∀ (k:Nat) (hk:k < q.length),q[k].length=q.length:=fun k hk=>by
  rcases hq with hq | rfl
  ·exact hq.row hk
  ·cases hk
 have hle:=h.le
 have hle':=h'.le
 have hil:=ints_len L
 have hir:=ints_len R
 obtain ⟨g,hg⟩ : ∃ g,g=p.length+q.length:=⟨_,rfl⟩
 refine Jc Tryz.func176 rfl Tryz.results176 Tryz.ntmps176 rfl ?_
 have keepR:True:=trivial
 focus
  refine Ke <| Kc rfl <| Wo rfl (Kb (v:=.slice _ _ _) rfl) <| Kd <| Ke <| Kc rfl <| Wo rfl (Ka (v:=v) rfl) ?_
  refine Wo rfl (Ko Tryz.underlying23 rfl h) <| Wo rfl (Kw rfl rfl (by omega)) ?_;refine Wo rfl (Ka (v:=u) rfl) <| Wo rfl (Ko Tryz.underlying23 rfl h') ?_
  refine Wo rfl (Kw rfl rfl (by omega)) ?_;refine Wo rfl (Kb (v:=.int _ _) rfl) <| Kd <| Ke <| Kc rfl <| Wo rfl (Ka (v:=.int _ _) rfl) ?_
  refine Wo_makeI rfl el88 (int_z (by omega) rfl) (by omega) ?_;rintro b1 w1 hb1 b1lt E1 hO1;have hs1:=E1.size
  refine Jo (ps:=[(0,.slice _ _ _)]) (cs:=[_]) rfl Tryz.underlying23 Tryz.sizeOf88 Tryz.zeroValue88 rfl rfl rfl rfl ?_;rintro b2 w2 hb2 E2 hB1 hHb2;have hlb2:=hB1.lt;have hs2:=E2.size
  refine Wo rfl (Kb (v:=.slice _ _ _) rfl) <| Kd <| Ke <| Ke <| Kc rfl <| Wo rfl (Kb (v:=.int _ _) rfl) <| Kd <| Kr ?_
 clear keepR
 obtain ⟨N,hN⟩ : ∃ N,N=(1+(p.length:Int)+(q.length:Int)).toNat:=⟨_,rfl⟩
 have hNg:N=g+1:=by omega
 rw [← hN] at hO1 hHb2
 have hO0:Owned w.heap.size XR w2 (.slice (some ⟨b2,0,none⟩) 1 1) [ro g []]:=by
  rw [ro_nil,← hNg]
  exact Owned.single (hO1.toB.ext E2) hHb2 (by omega) (by omega)
 clear hO1 hHb2 hB1
 have hrl0 : ∀ ms,(ro g ms).length=g+1:=fun ms=>ro_len
 refine Jh [11,28,29,30,31,32,33,34,35,36,37,38,39,40,41,42] (fun ((k,rows):Nat × List (List Int))=>[(11,.int .i64 (k:Nat))]) (fun (k,rows) w'=>Ext w w'∧k≤L.length∧Owned w.heap.size XR w' (.slice (some ⟨b2,0,none⟩) 1 1) rows∧rows=[ro g (L.take k)]) (fun x=>L.length - x.1) (0,[ro g []]) (by repeat (first | exact trivial | refine And.intro rfl ?_)) ?_ ?_
 ·exact ⟨by exact (E1.trans E2),Nat.zero_le _,hO0,rfl⟩
 clear hO0
 rintro ⟨k,rows⟩ ρj w3 ⟨E3,hk,hO0,hrw⟩
 have hlr:rows.length=1:=by rw [hrw];rfl
 have hr0:rows[0]'(by omega)=ro g (L.take k):=by simp only [hrw,List.getElem_cons_zero]
 have hr0l:(rows[0]'(by omega)).length=g+1:=by rw [hr0];exact hrl0 _
 obtain ⟨br,cr,hRw,hbr1,hbr2⟩:=hO0.rowAt (i:=0) (by omega) (by omega)
 by_cases hlt:k < L.length
 ·have hgk:(ints L)[k]'(by omega)=(L[k]:Int):=ints_get hlt
  have hLk:=hl L[k] (List.getElem_mem hlt)
  have hcell:=rowAt_cell hRw
  have heldS:w=w:=rfl
  focus
   have szE3:=E3.size;have szE2:=E2.size;have szE1:=E1.size;refine Ke <| Ke <| Kc rfl <| Wo rfl (Ka (v:=.int _ _) rfl) <| Wo rfl (Ka (v:=vl) rfl) ?_
   refine Wo rfl (Ko Tryz.underlying88 rfl hL) <| Wo rfl (Ks rfl rfl) <| Kd <| Kg rfl (fun h1=>?_) (fun h1=>?_);refine Kt ?_;refine Ke <| Kr ?_
   refine W_held (fun w'=>Ext w w') mixed rfl (by kernel_rfl) ?_;intro w4 E4 K1 hz1;have hs3:=E4.size;refine Kp 0 rfl (by kernel_rfl) (by kernel_rfl) rfl (fun _ _=>Ka (v:=.slice _ _ _) rfl) (E3.trans E4) ?_
   refine Kp 1 rfl (by kernel_rfl) (by kernel_rfl) rfl (fun _ _=>Jr (k:=0) Tryz.underlying23 Tryz.sizeOf88 rfl rfl (by omega)) (E3.trans E4) ?_
   refine Kp 3 rfl (by kernel_rfl) (by kernel_rfl) rfl (fun _ _=>Ka (v:=vl) rfl) (E3.trans E4) ?_;refine Kp 4 rfl (by kernel_rfl) (by kernel_rfl) rfl (fun _ _=>Ka (v:=.int _ _) rfl) (E3.trans E4) ?_
   refine Wh_get 5 6 rfl (by kernel_rfl) (by kernel_rfl) rfl rfl (by kernel_rfl) (by kernel_rfl) (fun _=>rfl) Tryz.underlying88 Tryz.sizeOf3 Tryz.isAgg3 rfl hL (fun w' hw'=>Ext.trans (Ext.refl _) hw') rfl (by first | omega | (simp <;> omega)) (E3.trans E4) ?_
   rintro _ _ rfl;refine Kp 7 rfl (by kernel_rfl) (by kernel_rfl) rfl (fun _ _=>Kw rfl rfl (by omega)) (E3.trans E4) ?_;refine Ku (rs:=[2]) (by kernel_rfl) rfl ?_;refine Kh rfl ?_ ?_
   refine Wo rfl (Km Tryz.isAgg88 rfl (E4.cell hcell)) <| Kd ?_;refine ⟨(E3.trans E4),?_⟩
   refine Kp 8 rfl (by kernel_rfl) (by kernel_rfl) rfl (fun _ _=>opv_indexAddr_z Tryz.underlying88 Tryz.sizeOf3 rfl rfl (by omega)) (E3.trans E4) ?_;refine Ku (rs:=[9]) (by kernel_rfl) rfl ?_;refine Kh rfl ?_ ?_
   refine Wo_gset rfl Tryz.sizeOf3 rfl rfl (hO0.toB.ext E4) (hRw.ext E4) (by first | omega | (simp <;> omega)) (by first | omega | (simp <;> omega)) ?_;rintro w5 hO0 hRw On1 K2 hz2;have E5:=On1.ext1 (E3.trans E4) (by omega)
   have hs4:=On1.size;refine Kd ?_;refine ⟨E5,?_⟩;refine Jm (by kernel_rfl) ?_;refine Kc rfl <| Wo rfl (Ka (v:=.int _ _) rfl) <| Wo rfl (Kw rfl rfl (by omega)) ?_
   refine Wo rfl (Kb (v:=.int _ _) rfl) <| Kd ?_;rotate_left;exact Kl;exact Kl;(exfalso;omega)
  refine ⟨((k+1,rows.set 0 (rows[0].set (1+(ints L)[k]'(by omega)).toNat 1))),by repeat (first | exact trivial | refine And.intro rfl ?_),by repeat (first | with_reducible exact Same.refl | refine Same.upd rfl ?_ | refine Same.upds rfl ?_ | refine Same.mix rfl ?_),?_,?_⟩
  ·refine ⟨by exact E5,by omega,by exact hO0,?_⟩
   rw [row_next (Q:=rows) (i:=0) (r:=ro g (L.take k)) (r':=ro g (L.take (k+1))) (by rw [hrw];rfl) (by omega) ?_]
   ·rw [hrw];rfl
   ·rw [hr0,show (1+(ints L)[k]'(by omega)).toNat=L[k]+1 by rw [hgk];omega,ro_step (by omega),← take_snoc]
  ·simp only;omega
 ·obtain rfl:k=L.length:=by omega
  rw [List.take_length] at hrw hr0
  clear hRw
  focus
   have szE3:=E3.size;have szE2:=E2.size;have szE1:=E1.size;refine Ke <| Ke <| Kc rfl <| Wo rfl (Ka (v:=.int _ _) rfl) <| Wo rfl (Ka (v:=vl) rfl) ?_
   refine Wo rfl (Ko Tryz.underlying88 rfl hL) <| Wo rfl (Ks rfl rfl) <| Kd <| Kg rfl (fun h1=>?_) (fun h1=>?_);(exfalso;omega);refine Jg ?_;refine exitX_same ?_
   refine Ke <| Ke <| Kc rfl <| Wo rfl (Kb (v:=.int _ _) rfl) <| Kd <| Kr ?_
  refine Jh [12,43,44,45,46,47,48,49,50,51,52,53,54,55,56,57,58,59,60] (fun ((k,rows):Nat × List (List Int))=>[(12,.int .i64 (k:Nat))]) (fun (k,rows) w'=>Ext w w'∧k≤R.length∧Owned w.heap.size XR w' (.slice (some ⟨b2,0,none⟩) 1 1) rows∧rows=[ro g (L++(R.take k).map (p.length + ·))]) (fun x=>R.length - x.1) (0,rows) (by repeat (first | exact trivial | refine And.intro rfl ?_)) ?_ ?_
  ·exact ⟨by exact E3,Nat.zero_le _,hO0,by rw [hrw];simp⟩
  clear hO0 hr0 hr0l hlr hrw
  rintro ⟨k,rows⟩ ρk w4 ⟨E4,hk,hO0,hrw⟩
  have hlr:rows.length=1:=by rw [hrw];rfl
  have hr0:rows[0]'(by omega)=ro g (L++(R.take k).map (p.length + ·)):=by simp only [hrw,List.getElem_cons_zero]
  have hr0l:(rows[0]'(by omega)).length=g+1:=by rw [hr0];exact hrl0 _
  obtain ⟨br,cr,hRw,hbr1,hbr2⟩:=hO0.rowAt (i:=0) (by omega) (by omega)
  by_cases hlt:k < R.length
  ·have hgk:(ints R)[k]'(by omega)=(R[k]:Int):=ints_get hlt
   have hRk:=hr R[k] (List.getElem_mem hlt)
   have hcell:=rowAt_cell hRw
   have heldS:w=w:=rfl
   focus
    have szE4:=E4.size;have szE3:=E3.size;have szE2:=E2.size;have szE1:=E1.size;refine Ke <| Ke <| Kc rfl <| Wo rfl (Ka (v:=.int _ _) rfl) ?_
    refine Wo rfl (Ka (v:=vr) rfl) <| Wo rfl (Ko Tryz.underlying88 rfl hR) <| Wo rfl (Ks rfl rfl) <| Kd <| Kg rfl (fun h2=>?_) (fun h2=>?_);refine Kt ?_
    refine Ke <| Kr <| W_held (fun w'=>Ext w w') mixed rfl (by kernel_rfl) ?_;intro w5 E5 K1 hz1;have hs3:=E5.size
    refine Kp 0 rfl (by kernel_rfl) (by kernel_rfl) rfl (fun _ _=>Ka (v:=.slice _ _ _) rfl) (E4.trans E5) ?_
    refine Kp 1 rfl (by kernel_rfl) (by kernel_rfl) rfl (fun _ _=>Jr (k:=0) Tryz.underlying23 Tryz.sizeOf88 rfl rfl (by omega)) (E4.trans E5) ?_
    refine Kp 3 rfl (by kernel_rfl) (by kernel_rfl) rfl (fun _ _=>Ka (v:=v) rfl) (E4.trans E5) ?_;refine Kp 4 rfl (by kernel_rfl) (by kernel_rfl) rfl (fun _ _=>Ko Tryz.underlying23 rfl h) (E4.trans E5) ?_
    refine Kp 5 rfl (by kernel_rfl) (by kernel_rfl) rfl (fun _ _=>Kw rfl rfl (by omega)) (E4.trans E5) ?_;refine Kp 6 rfl (by kernel_rfl) (by kernel_rfl) rfl (fun _ _=>Ka (v:=vr) rfl) (E4.trans E5) ?_
    refine Kp 7 rfl (by kernel_rfl) (by kernel_rfl) rfl (fun _ _=>Ka (v:=.int _ _) rfl) (E4.trans E5) ?_
    refine Wh_get 8 9 rfl (by kernel_rfl) (by kernel_rfl) rfl rfl (by kernel_rfl) (by kernel_rfl) (fun _=>rfl) Tryz.underlying88 Tryz.sizeOf3 Tryz.isAgg3 rfl hR (fun w' hw'=>Ext.trans (Ext.refl _) hw') rfl (by first | omega | (simp <;> omega)) (E4.trans E5) ?_
    rintro _ _ rfl;refine Kp 10 rfl (by kernel_rfl) (by kernel_rfl) rfl (fun _ _=>Kw rfl rfl (by omega)) (E4.trans E5) ?_;refine Ku (rs:=[2]) (by kernel_rfl) rfl ?_;refine Kh rfl ?_ ?_
    refine Wo rfl (Km Tryz.isAgg88 rfl (E5.cell hcell)) <| Kd ?_;refine ⟨(E4.trans E5),?_⟩
    refine Kp 11 rfl (by kernel_rfl) (by kernel_rfl) rfl (fun _ _=>opv_indexAddr_z Tryz.underlying88 Tryz.sizeOf3 rfl rfl (by omega)) (E4.trans E5) ?_;refine Ku (rs:=[12]) (by kernel_rfl) rfl ?_
    refine Kh rfl ?_ ?_;refine Wo_gset rfl Tryz.sizeOf3 rfl rfl (hO0.toB.ext E5) (hRw.ext E5) (by first | omega | (simp <;> omega)) (by first | omega | (simp <;> omega)) ?_;rintro w6 hO0 hRw On1 K2 hz2
    have E6:=On1.ext1 (E4.trans E5) (by omega);have hs4:=On1.size;refine Kd ?_;refine ⟨E6,?_⟩;refine Jm (by kernel_rfl) ?_;refine Kc rfl <| Wo rfl (Ka (v:=.int _ _) rfl) ?_
    refine Wo rfl (Kw rfl rfl (by omega)) ?_;refine Wo rfl (Kb (v:=.int _ _) rfl) <| Kd ?_;rotate_left;exact Kl;exact Kl;(exfalso;omega)
   refine ⟨((k+1,rows.set 0 (rows[0].set (1+(p.length:Int)+(ints R)[k]'(by omega)).toNat 1))),by repeat (first | exact trivial | refine And.intro rfl ?_),by repeat (first | with_reducible exact Same.refl | refine Same.upd rfl ?_ | refine Same.upds rfl ?_ | refine Same.mix rfl ?_),?_,?_⟩
   ·refine ⟨by exact E6,by omega,by exact hO0,?_⟩
    rw [row_next (Q:=rows) (i:=0) (r:=ro g (L++(R.take k).map (p.length + ·))) (r':=ro g (L++(R.take (k+1)).map (p.length + ·))) (by rw [hrw];rfl) (by omega) ?_]
    ·rw [hrw];rfl
    ·rw [hr0,show (1+(p.length:Int)+(ints R)[k]'(by omega)).toNat=(p.length+R[k])+1 by rw [hgk];omega,ro_step (by omega),take_snoc _ _ hlt,List.map_append,List.append_assoc]
     rfl
   ·simp only;omega
  ·obtain rfl:k=R.length:=by omega
   rw [List.take_length] at hrw hr0
   obtain ⟨ms,hms⟩ : ∃ ms,ms=L++R.map (p.length + ·):=⟨_,rfl⟩
   rw [← hms] at hrw hr0 ⊢
   clear hRw
   focus
    have szE4:=E4.size;have szE3:=E3.size;have szE2:=E2.size;have szE1:=E1.size;refine Ke <| Ke <| Kc rfl <| Wo rfl (Ka (v:=.int _ _) rfl) ?_
    refine Wo rfl (Ka (v:=vr) rfl) <| Wo rfl (Ko Tryz.underlying88 rfl hR) <| Wo rfl (Ks rfl rfl) <| Kd <| Kg rfl (fun h2=>?_) (fun h2=>?_);(exfalso;omega)
    refine Jg ?_;refine exitX_same ?_;refine Ke <| Ke <| Kc rfl <| Wo rfl (Kb (v:=.int _ _) rfl) <| Kd <| Kr ?_
   refine Jh [10,13,14,15,61,62,63,64,65,66,67,68,69,70,71,72,73,74,75,76,77,78,79,80,81,82,83,84,85,86,87,88,89] (fun ((k,o):Nat × Value)=>[(13,.int .i64 (k:Nat)),(10,o)]) (fun (k,o) w'=>Ext w w'∧k≤p.length∧Owned w.heap.size XR w' o (ro g ms::(p.take k).map fun r=>List.replicate 1 0++r++List.replicate q.length 0)) (fun x=>p.length - x.1) (0,.slice (some ⟨b2,0,none⟩) 1 1) (by repeat (first | exact trivial | refine And.intro rfl ?_)) ?_ ?_
   ·exact ⟨by exact E4,Nat.zero_le _,by rw [hrw] at hO0;exact hO0⟩
   clear hO0 hr0 hr0l hlr hrw
   rintro ⟨k,o⟩ ρl w5 ⟨E5,hk,hO0⟩
   have htl:(ro g ms::(p.take k).map fun r=>List.replicate 1 0++r++List.replicate q.length 0).length=k+1:=by simp;omega
   by_cases hlt:k < p.length
   ·have hrow:=hp.row hlt
    focus
     have szE5:=E5.size;have szE4:=E4.size;have szE3:=E3.size;have szE2:=E2.size;have szE1:=E1.size;refine Ke <| Ke <| Kc rfl <| Wo rfl (Ka (v:=.int _ _) rfl) ?_
     refine Wo rfl (Ka (v:=v) rfl) <| Wo rfl (Ko Tryz.underlying23 rfl h) <| Wo rfl (Ks rfl rfl) <| Kd <| Kg rfl (fun h3=>?_) (fun h3=>?_);refine Kt ?_
     refine Ke <| Kr <| Ke <| Kc rfl <| Wo rfl (Ka (v:=.int _ _) rfl) <| Wo_makeI rfl el88 (int_z (by omega) rfl) (by omega) ?_;rintro b3 w6 hb3 b3lt E6 hO1
     have hs3:=E6.size;refine Wo rfl (Kb (v:=.slice _ _ _) rfl) <| Kd <| Ke <| Ke <| Kc rfl <| Wo rfl (Kb (v:=.int _ _) rfl) <| Kd ?_
     refine Kr ?_;rotate_left;(exfalso;omega)
    have hbb:=hO1.lt_own (k:=b3) rfl
    have hrl3 : ∀ j,j≤p.length→(List.replicate 1 (0:Int)++p[k].take j++List.replicate ((1+(p.length:Int)+(q.length:Int)).toNat - 1 - j) 0).length=g+1:=fun j hj=>by simp;omega
    refine Jh [15,69,70,71,72,73,74,75,76,77,78,79,80,81,82,83,84,85] (fun (j:Nat)=>[(15,.int .i64 (j:Nat))]) (fun j w'=>Ext w w'∧w5.heap.size≤w'.heap.size∧j≤p.length∧OwnedB w.heap.size w5.heap.size XR w' o (ro g ms::(p.take k).map fun r=>List.replicate 1 0++r++List.replicate q.length 0)∧Owned w5.heap.size XI w' (.slice (some ⟨b3,0,none⟩) (1+(p.length:Int)+(q.length:Int)).toNat (1+(p.length:Int)+(q.length:Int)).toNat) (List.replicate 1 0++p[k].take j++List.replicate ((1+(p.length:Int)+(q.length:Int)).toNat - 1 - j) 0)) (fun j=>p.length - j) 0 (by repeat (first | exact trivial | refine And.intro rfl ?_)) ?_ ?_
    ·refine ⟨by exact (E5.trans E6),by omega,Nat.zero_le _,hO0.toB.ext (by exact E6),?_⟩
     rw [show List.replicate 1 (0:Int)++p[k].take 0++List.replicate ((1+(p.length:Int)+(q.length:Int)).toNat - 1 - 0) 0=List.replicate (1+(p.length:Int)+(q.length:Int)).toNat 0 by
      rw [List.take_zero,List.append_nil,List.replicate_append_replicate];congr 1;omega]
     exact hO1
    clear hO0 hO1
    rintro j ρm w7 ⟨E7,hs7,hj,hO0,hO1⟩
    have hrj:=hrl3 j hj
    by_cases hjl:j < p.length
    ·focus
      have szE7:=E7.size;have szE6:=E6.size;have szE5:=E5.size;have szE4:=E4.size;have szE3:=E3.size;have szE2:=E2.size;have szE1:=E1.size;refine Ke <| Ke <| Kc rfl ?_
      refine Wo rfl (Ka (v:=.int _ _) rfl) <| Wo rfl (Ka (v:=v) rfl) <| Wo rfl (Ko Tryz.underlying23 rfl h) <| Wo rfl (Ks rfl rfl) <| Kd ?_
      refine Kg rfl (fun h4=>?_) (fun h4=>?_);refine Kt ?_;refine Ke <| Kr <| Kc rfl <| Wo rfl (Ka (v:=.slice _ _ _) rfl) <| Wo rfl (Ka (v:=.int _ _) rfl) ?_
      refine Wo rfl (Kw rfl rfl (by omega)) ?_;refine Wo rfl (Ka (v:=v) rfl) <| Wo rfl (Ka (v:=.int _ _) rfl) ?_
      refine Ji Tryz.underlying23 Tryz.sizeOf88 Tryz.isAgg88 rfl (fun _=>rfl) rfl h E7 rfl (by first | omega | (simp <;> omega)) ?_;rintro _ u1 hu1;refine Wo rfl (Ka (v:=.int _ _) rfl) ?_
      refine Ji Tryz.underlying88 Tryz.sizeOf3 Tryz.isAgg3 rfl (fun _=>rfl) rfl hu1 E7 rfl (by first | omega | (simp <;> omega)) ?_;rintro _ _ rfl
      refine Wo rfl (opv_indexAddr_z Tryz.underlying88 Tryz.sizeOf3 rfl rfl (by omega)) ?_;refine Wo_set rfl Tryz.sizeOf3 rfl rfl hO1.toB (by first | omega | (simp <;> omega)) Owned.int (Nat.le_refl _) (by omega) ?_
      rintro w8 hO1 On1 K1 hz1;have E8:=On1.ext1 E7 (by omega);have hO0:=hO0.wrote K1 (by omega);have hs4:=On1.size;refine Kd <| Kc rfl <| Wo rfl (Ka (v:=.int _ _) rfl) ?_
      refine Wo rfl (Kw rfl rfl (by omega)) ?_;refine Wo rfl (Kb (v:=.int _ _) rfl) <| Kd ?_;rotate_left;(exfalso;omega)
     refine ⟨(j+1),by repeat (first | exact trivial | refine And.intro rfl ?_),by repeat (first | with_reducible exact Same.refl | refine Same.upd rfl ?_ | refine Same.upds rfl ?_ | refine Same.mix rfl ?_),?_,?_⟩
     ·refine ⟨by exact E8,by omega,by omega,by exact hO0,?_⟩
      rw [← shift_row j (by omega) (by omega)]
      have e:(1+(j:Int)).toNat=1+j:=by omega
      rw [← e]
      assumption
     ·omega
    ·obtain rfl:j=p.length:=by omega
     focus
      have szE7:=E7.size;have szE6:=E6.size;have szE5:=E5.size;have szE4:=E4.size;have szE3:=E3.size;have szE2:=E2.size;have szE1:=E1.size;refine Ke <| Ke <| Kc rfl ?_
      refine Wo rfl (Ka (v:=.int _ _) rfl) <| Wo rfl (Ka (v:=v) rfl) <| Wo rfl (Ko Tryz.underlying23 rfl h) <| Wo rfl (Ks rfl rfl) <| Kd ?_
      refine Kg rfl (fun h4=>?_) (fun h4=>?_);(exfalso;omega);refine Jg ?_;refine exitX_same ?_;refine Kc rfl <| Wo rfl (Ka (v:=o) rfl) <| Wo rfl (Ka (v:=.slice _ _ _) rfl) ?_
      refine Ju (ps:=[(0,.slice _ _ _)]) (cs:=[_]) rfl Tryz.underlying23 Tryz.sizeOf88 Tryz.zeroValue88 rfl rfl rfl rfl ?_;rintro b4 w8 hb4 E8 hB1;have hlb4:=hB1.lt;have hs4:=E8.size
      refine Jv rfl el23 rfl rfl hB1 (hO0.ext E8) (hO1.toB.ext E8).o (by omega) (by first | omega | (simp <;> omega)) (by omega) (by omega) (E7.trans E8) (by omega) ?_;have hT1:=(hO0.ext E8);rintro v1 w9 hO0 E9 M1
      have hO1:=(hO1.toB.ext E8).moves M1 hT1 (by omega);have hB1:=hB1.moves M1 hT1 (by omega);have hs5:=E9.size;refine Wo rfl (Kb (v:=v1) rfl) <| Kd <| Kc rfl ?_
      refine Wo rfl (Ka (v:=.int _ _) rfl) <| Wo rfl (Kw rfl rfl (by omega)) ?_;refine Wo rfl (Kb (v:=.int _ _) rfl) <| Kd ?_
     refine ⟨((k+1,v1)),by repeat (first | exact trivial | refine And.intro rfl ?_),by repeat (first | with_reducible exact Same.refl | refine Same.upd rfl ?_ | refine Same.upds rfl ?_ | refine Same.mix rfl ?_),?_,?_⟩
     ·refine ⟨by exact E9,by omega,?_⟩
      rw [take_snoc _ _ hlt,List.map_append,← List.cons_append]
      have e:List.replicate 1 (0:Int)++p[k].take p.length++List.replicate ((1+(p.length:Int)+(q.length:Int)).toNat - 1 - p.length) 0=List.replicate 1 0++p[k]++List.replicate q.length 0:=by
       rw [List.take_of_length_le (by omega)];congr 2;omega
      simp only [List.map_cons,List.map_nil]
      rw [← e]
      assumption
     ·simp only;omega
   ·obtain rfl:k=p.length:=by omega
    rw [List.take_length] at hO0 htl
    focus
     have szE5:=E5.size;have szE4:=E4.size;have szE3:=E3.size;have szE2:=E2.size;have szE1:=E1.size;refine Ke <| Ke <| Kc rfl <| Wo rfl (Ka (v:=.int _ _) rfl) ?_
     refine Wo rfl (Ka (v:=v) rfl) <| Wo rfl (Ko Tryz.underlying23 rfl h) <| Wo rfl (Ks rfl rfl) <| Kd <| Kg rfl (fun h3=>?_) (fun h3=>?_);(exfalso;omega)
     refine Jg ?_;refine exitX_same ?_;refine Ke <| Ke <| Kc rfl <| Wo rfl (Kb (v:=.int _ _) rfl) <| Kd <| Kr ?_
    refine Jh [10,16,17,18,90,91,92,93,94,95,96,97,98,99,100,101,102,103,104,105,106,107,108,109,110,111,112,113,114,115,116,117,118,119,120,121] (fun ((k,o):Nat × Value)=>[(16,.int .i64 (k:Nat)),(10,o)]) (fun (k,o) w'=>Ext w w'∧k≤q.length∧Owned w.heap.size XR w' o ((ro g ms::p.map fun r=>List.replicate 1 0++r++List.replicate q.length 0)++(q.take k).map fun r=>List.replicate (1+p.length) 0++r)) (fun x=>q.length - x.1) (0,o) (by repeat (first | exact trivial | refine And.intro rfl ?_)) ?_ ?_
    ·exact ⟨by exact E5,Nat.zero_le _,by simpa using hO0⟩
    clear hO0
    rintro ⟨k,o2⟩ ρm w6 ⟨E6,hk,hO0⟩
    have htl2:((ro g ms::p.map fun r=>List.replicate 1 0++r++List.replicate q.length 0)++(q.take k).map fun r=>List.replicate (1+p.length) 0++r).length=p.length+1+k:=by rw [List.length_append,htl];simp;omega
    by_cases hlt:k < q.length
    ·have hrow:=hqrow k hlt
     focus
      have szE6:=E6.size;have szE5:=E5.size;have szE4:=E4.size;have szE3:=E3.size;have szE2:=E2.size;have szE1:=E1.size;refine Ke <| Ke <| Kc rfl ?_
      refine Wo rfl (Ka (v:=.int _ _) rfl) <| Wo rfl (Ka (v:=u) rfl) <| Wo rfl (Ko Tryz.underlying23 rfl h') <| Wo rfl (Ks rfl rfl) <| Kd ?_
      refine Kg rfl (fun h4=>?_) (fun h4=>?_);refine Kt ?_;refine Ke <| Kr <| Ke <| Kc rfl <| Wo rfl (Ka (v:=.int _ _) rfl) ?_
      refine Wo_makeI rfl el88 (int_z (by omega) rfl) (by omega) ?_;rintro b3 w7 hb3 b3lt E7 hO1;have hs3:=E7.size;refine Wo rfl (Kb (v:=.slice _ _ _) rfl) <| Kd <| Ke <| Ke ?_
      refine Kc rfl <| Wo rfl (Kb (v:=.int _ _) rfl) <| Kd <| Kr ?_;rotate_left;(exfalso;omega)
     have hbb:=hO1.lt_own (k:=b3) rfl
     have hrl3 : ∀ j,j≤q.length→(List.replicate (1+p.length) (0:Int)++q[k].take j++List.replicate ((1+(p.length:Int)+(q.length:Int)).toNat - (1+p.length) - j) 0).length=g+1:=fun j hj=>by simp;omega
     refine Jh [18,98,99,100,101,102,103,104,105,106,107,108,109,110,111,112,113,114,115,116,117] (fun (j:Nat)=>[(18,.int .i64 (j:Nat))]) (fun j w'=>Ext w w'∧w6.heap.size≤w'.heap.size∧j≤q.length∧OwnedB w.heap.size w6.heap.size XR w' o2 ((ro g ms::p.map fun r=>List.replicate 1 0++r++List.replicate q.length 0)++(q.take k).map fun r=>List.replicate (1+p.length) 0++r)∧Owned w6.heap.size XI w' (.slice (some ⟨b3,0,none⟩) (1+(p.length:Int)+(q.length:Int)).toNat (1+(p.length:Int)+(q.length:Int)).toNat) (List.replicate (1+p.length) 0++q[k].take j++List.replicate ((1+(p.length:Int)+(q.length:Int)).toNat - (1+p.length) - j) 0)) (fun j=>q.length - j) 0 (by repeat (first | exact trivial | refine And.intro rfl ?_)) ?_ ?_
     ·refine ⟨by exact (E6.trans E7),by omega,Nat.zero_le _,hO0.toB.ext (by exact E7),?_⟩
      rw [show List.replicate (1+p.length) (0:Int)++q[k].take 0++List.replicate ((1+(p.length:Int)+(q.length:Int)).toNat - (1+p.length) - 0) 0=List.replicate (1+(p.length:Int)+(q.length:Int)).toNat 0 by
       rw [List.take_zero,List.append_nil,List.replicate_append_replicate];congr 1;omega]
      exact hO1
     clear hO0 hO1
     rintro j ρn w8 ⟨E8,hs8,hj,hO0,hO1⟩
     have hrj:=hrl3 j hj
     by_cases hjl:j < q.length
     ·focus
       have szE8:=E8.size;have szE7:=E7.size;have szE6:=E6.size;have szE5:=E5.size;have szE4:=E4.size;have szE3:=E3.size;have szE2:=E2.size;have szE1:=E1.size;refine Ke <| Ke <| Kc rfl ?_
       refine Wo rfl (Ka (v:=.int _ _) rfl) <| Wo rfl (Ka (v:=u) rfl) <| Wo rfl (Ko Tryz.underlying23 rfl h') <| Wo rfl (Ks rfl rfl) <| Kd ?_
       refine Kg rfl (fun h5=>?_) (fun h5=>?_);refine Kt ?_;refine Ke <| Kr <| Kc rfl <| Wo rfl (Ka (v:=.slice _ _ _) rfl) <| Wo rfl (Ka (v:=v) rfl) ?_
       refine Wo rfl (Ko Tryz.underlying23 rfl h) <| Wo rfl (Kw rfl rfl (by omega)) ?_;refine Wo rfl (Ka (v:=.int _ _) rfl) <| Wo rfl (Kw rfl rfl (by omega)) ?_
       refine Wo rfl (Ka (v:=u) rfl) <| Wo rfl (Ka (v:=.int _ _) rfl) <| Ji Tryz.underlying23 Tryz.sizeOf88 Tryz.isAgg88 rfl (fun _=>rfl) rfl h' E8 rfl (by first | omega | (simp <;> omega)) ?_
       rintro _ u1 hu1;refine Wo rfl (Ka (v:=.int _ _) rfl) <| Ji Tryz.underlying88 Tryz.sizeOf3 Tryz.isAgg3 rfl (fun _=>rfl) rfl hu1 E8 rfl (by first | omega | (simp <;> omega)) ?_;rintro _ _ rfl
       refine Wo rfl (opv_indexAddr_z Tryz.underlying88 Tryz.sizeOf3 rfl rfl (by omega)) ?_;refine Wo_set rfl Tryz.sizeOf3 rfl rfl hO1.toB (by first | omega | (simp <;> omega)) Owned.int (Nat.le_refl _) (by omega) ?_
       rintro w9 hO1 On1 K1 hz1;have E9:=On1.ext1 E8 (by omega);have hO0:=hO0.wrote K1 (by omega);have hs4:=On1.size;refine Kd <| Kc rfl <| Wo rfl (Ka (v:=.int _ _) rfl) ?_
       refine Wo rfl (Kw rfl rfl (by omega)) ?_;refine Wo rfl (Kb (v:=.int _ _) rfl) <| Kd ?_;rotate_left;(exfalso;omega)
      refine ⟨(j+1),by repeat (first | exact trivial | refine And.intro rfl ?_),by repeat (first | with_reducible exact Same.refl | refine Same.upd rfl ?_ | refine Same.upds rfl ?_ | refine Same.mix rfl ?_),?_,?_⟩
      ·refine ⟨by exact E9,by omega,by omega,by exact hO0,?_⟩
       rw [← shift_row j (by omega) (by omega)]
       have e:(1+(p.length:Int)+(j:Int)).toNat=1+p.length+j:=by omega
       rw [← e]
       assumption
      ·omega
     ·obtain rfl:j=q.length:=by omega
      focus
       have szE8:=E8.size;have szE7:=E7.size;have szE6:=E6.size;have szE5:=E5.size;have szE4:=E4.size;have szE3:=E3.size;have szE2:=E2.size;have szE1:=E1.size;refine Ke <| Ke <| Kc rfl ?_
       refine Wo rfl (Ka (v:=.int _ _) rfl) <| Wo rfl (Ka (v:=u) rfl) <| Wo rfl (Ko Tryz.underlying23 rfl h') <| Wo rfl (Ks rfl rfl) <| Kd ?_
       refine Kg rfl (fun h5=>?_) (fun h5=>?_);(exfalso;omega);refine Jg ?_;refine exitX_same ?_;refine Kc rfl <| Wo rfl (Ka (v:=o2) rfl) <| Wo rfl (Ka (v:=.slice _ _ _) rfl) ?_
       refine Ju (ps:=[(0,.slice _ _ _)]) (cs:=[_]) rfl Tryz.underlying23 Tryz.sizeOf88 Tryz.zeroValue88 rfl rfl rfl rfl ?_;rintro b4 w9 hb4 E9 hB1;have hlb4:=hB1.lt;have hs4:=E9.size
       refine Jv rfl el23 rfl rfl hB1 (hO0.ext E9) (hO1.toB.ext E9).o (by omega) (by first | omega | (simp <;> omega)) (by omega) (by omega) (E8.trans E9) (by omega) ?_;have hT1:=(hO0.ext E9);rintro v1 w10 hO0 E10 M1
       have hO1:=(hO1.toB.ext E9).moves M1 hT1 (by omega);have hB1:=hB1.moves M1 hT1 (by omega);have hs5:=E10.size;refine Wo rfl (Kb (v:=v1) rfl) <| Kd <| Kc rfl ?_
       refine Wo rfl (Ka (v:=.int _ _) rfl) <| Wo rfl (Kw rfl rfl (by omega)) ?_;refine Wo rfl (Kb (v:=.int _ _) rfl) <| Kd ?_
      refine ⟨((k+1,v1)),by repeat (first | exact trivial | refine And.intro rfl ?_),by repeat (first | with_reducible exact Same.refl | refine Same.upd rfl ?_ | refine Same.upds rfl ?_ | refine Same.mix rfl ?_),?_,?_⟩
      ·refine ⟨by exact E10,by omega,?_⟩
       rw [take_snoc _ _ hlt,List.map_append,← List.append_assoc]
       have e:List.replicate (1+p.length) (0:Int)++q[k].take q.length++List.replicate ((1+(p.length:Int)+(q.length:Int)).toNat - (1+p.length) - q.length) 0=List.replicate (1+p.length) 0++q[k]:=by
        rw [List.take_of_length_le (by omega),show (1+(p.length:Int)+(q.length:Int)).toNat - (1+p.length) - q.length=0 by omega];simp
       simp only [List.map_cons,List.map_nil]
       rw [← e]
       assumption
      ·simp only;omega
    ·obtain rfl:k=q.length:=by omega
     focus
      have szE6:=E6.size;have szE5:=E5.size;have szE4:=E4.size;have szE3:=E3.size;have szE2:=E2.size;have szE1:=E1.size;refine Ke <| Ke <| Kc rfl ?_
      refine Wo rfl (Ka (v:=.int _ _) rfl) <| Wo rfl (Ka (v:=u) rfl) <| Wo rfl (Ko Tryz.underlying23 rfl h') <| Wo rfl (Ks rfl rfl) <| Kd ?_
      refine Kg rfl (fun h4=>?_) (fun h4=>?_);(exfalso;omega);refine Jg ?_;refine exitX_same ?_;refine Ke <| Kc rfl <| Wo rfl (Ka (v:=o2) rfl) ?_
      refine Wo rfl (Kb (v:=o2) rfl) <| Kd <| Ja ?_;refine ⟨E6,(congrArg (Owned _ _ _ _) ?_).mp (hO0.toB.o.mono (by omega))⟩
     rw [List.take_length,put_eq,bes_len,← hg]
     unfold bes
     rw [List.map_append,List.map_map,List.map_map]
     simp only [List.cons_append,List.cons.injEq,true_and]
     congr 1
     ·refine List.map_congr_left fun r _=>?_
      simp [Nat.add_comm 1,List.replicate_succ]
theorem l6Least_ok (w:World) (v:Value) (p:List (List Int)) (h:ESl Ints w v p) (hp:Gr p) :
  Does Tryz.prog 175 [v] w (RetOB w XR (if (lst p 0).length≤5 then lst p 0 else []) (decide ((lst p 0).length≤5))):=by
 have hp5:=hp.2.1
 have hp1:=hp.1
 have hle:=h.le
 have hkl:=ikndL_len (p:=p)
 have k1 : ∀ w,Does Tryz.prog 202 [.int .i64 (p.length:Int)] w (RetO w XR (matV p (bsm p 0))):=fun w=>by
  have:=l3Start_ok w p.length hp5
  rwa [matV_zero] at this
 have k2 : ∀ (n:Nat) (w:World) (v v':Value),ESl Ints w v p→ESl Ints w v' (matV p (bsm p n))→Does Tryz.prog 203 [v,v'] w (RetO w XR (matV p (bsm p (n+1)))):=fun n w v v' h h'=>l3Round_ok w v v' p h hp _ h'
 refine fn_of_W2 Tryz.func175 rfl Tryz.results175 Tryz.ntmps175 rfl ?_
 focus
  refine Ke <| Kc rfl <| Wo rfl (Kb (v:=.slice _ _ _) rfl) <| Wo rfl (Kb (v:=.bool _) rfl) <| Kd <| Ke <| Kc rfl ?_
  refine Wo rfl (Ka (v:=v) rfl) <| Wo rfl (Ko Tryz.underlying23 rfl h) <| Kj rfl (Jk (a:=.int _ _) Tryz.call202 rfl) (k1 _) ?_;rintro u1 w1 ⟨E1,hO1⟩;have hs1:=E1.size
  refine Wo rfl (Kb (v:=u1) rfl) <| Kd <| Ke <| Ke <| Kc rfl <| Wo rfl (Kb (v:=.int _ _) rfl) <| Kd <| Kr ?_
 refine Jh [4,5,17,18,19,20,21,22,23,24,25] (fun ((n,u):Nat × Value)=>[(5,.int .i64 (n:Nat)),(4,u)]) (fun (n,u) w'=>Ext w w'∧n≤p.length∧Owned w.heap.size XR w' u (matV p (bsm p n))) (fun x=>p.length - x.1) (0,u1) (by repeat (first | exact trivial | refine And.intro rfl ?_)) ?_ ?_
 ·exact ⟨by exact E1,Nat.zero_le _,hO1⟩
 clear hO1
 rintro ⟨n,um⟩ ρj w2 ⟨E2,hn,hO1⟩
 have k2n:=k2 n
 by_cases hnl:n < p.length
 ·focus
   have szE2:=E2.size;have szE1:=E1.size;refine Ke <| Ke <| Kc rfl <| Wo rfl (Ka (v:=.int _ _) rfl) <| Wo rfl (Ka (v:=v) rfl) ?_
   refine Wo rfl (Ko Tryz.underlying23 rfl h) <| Wo rfl (Ks rfl rfl) <| Kd <| Kg rfl (fun h1=>?_) (fun h1=>?_);refine Kt ?_;refine Ke <| Kr ?_
   refine Kc rfl <| Wo rfl (Ka (v:=v) rfl) <| Wo rfl (Ka (v:=um) rfl) <| Kj rfl (Jn (a:=v) (b:=um) Tryz.call203 rfl rfl) (k2n _ _ _ ((Mono.mono E2 h)) ((Owned.read hO1))) ?_
   rintro u2 w3 ⟨E3,hO2⟩;have hs2:=E3.size;refine Wo rfl (Kb (v:=u2) rfl) <| Kd <| Kc rfl <| Wo rfl (Ka (v:=.int _ _) rfl) <| Wo rfl (Kw rfl rfl (by omega)) ?_
   refine Wo rfl (Kb (v:=.int _ _) rfl) <| Kd ?_;rotate_left;(exfalso;omega)
  refine ⟨((n+1,u2)),by repeat (first | exact trivial | refine And.intro rfl ?_),by repeat (first | with_reducible exact Same.refl | refine Same.upd rfl ?_ | refine Same.upds rfl ?_ | refine Same.mix rfl ?_),?_,?_⟩
  ·exact ⟨by exact (E2.trans E3),by omega,hO2.mono (by omega)⟩
  ·simp only;omega
 ·obtain rfl:n=p.length:=by omega
  clear k1 k2 k2n
  have hml:=matV_len (p:=p) (bsm p p.length)
  have rM:=hO1.read
  clear hO1
  focus
   have szE2:=E2.size;have szE1:=E1.size;refine Ke <| Ke <| Kc rfl <| Wo rfl (Ka (v:=.int _ _) rfl) <| Wo rfl (Ka (v:=v) rfl) ?_
   refine Wo rfl (Ko Tryz.underlying23 rfl h) <| Wo rfl (Ks rfl rfl) <| Kd <| Kg rfl (fun h1=>?_) (fun h1=>?_);(exfalso;omega);refine Jg ?_;refine exitX_same ?_;refine Ke ?_
   refine Kc rfl <| Js XInt rfl el88 Tryz.sizeOf3 ?_;rintro b1 w3 hb1 b1lt E3 hO1;have hs2:=E3.size;refine Wo rfl (Kb (v:=.slice _ _ _) rfl) <| Kd <| Ke <| Ke ?_
   refine Kc rfl <| Wo rfl (Kb (v:=.int _ _) rfl) <| Kd <| Kr ?_
  refine Jh [6,7,8,27,28,29,30,31,32,33,34,35,36,37,38,39,40,41,42,43,44,45,46,47,48,49,50] (fun ((k,u):Nat × Value)=>[(7,.int .i64 (k:Nat)),(6,u)]) (fun (k,u) w'=>Ext w2 w'∧k≤p.length∧Owned w2.heap.size XI w' u ((ints (kndL p)).take k)) (fun x=>p.length - x.1) (0,.slice (some ⟨b1,0,none⟩) 0 0) (by repeat (first | exact trivial | refine And.intro rfl ?_)) ?_ ?_
  ·exact ⟨by exact E3,Nat.zero_le _,by simpa using hO1⟩
  clear hO1
  rintro ⟨k,uk⟩ ρk w4 ⟨E4,hk,hO1⟩
  have htl:((ints (kndL p)).take k).length=k:=by simp;omega
  by_cases hlt:k < p.length
  ·obtain ⟨g1,g2,g3⟩:=knd_spec hlt
   focus
    have szE4:=E4.size;have szE3:=E3.size;have szE2:=E2.size;have szE1:=E1.size;refine Ke <| Ke <| Kc rfl <| Wo rfl (Ka (v:=.int _ _) rfl) ?_
    refine Wo rfl (Ka (v:=v) rfl) <| Wo rfl (Ko Tryz.underlying23 rfl h) <| Wo rfl (Ks rfl rfl) <| Kd <| Kg rfl (fun h2=>?_) (fun h2=>?_);refine Kt ?_
    refine Ke <| Kr <| Ke <| Kc rfl <| Wo rfl (Kb (v:=.int _ _) rfl) <| Kd <| Kr ?_;rotate_left;(exfalso;omega)
   refine Jh [6,8,33,34,35,36,37,38,39,40,41,42,43,44,45,46,47,48,49,50] (fun (j:Nat)=>[(8,.int .i64 (j:Nat)),(6,uk)]) (fun j w'=>w'=w4∧j≤knd p k) (fun j=>p.length - j) 0 (by repeat (first | exact trivial | refine And.intro rfl ?_)) ?_ ?_
   ·exact ⟨rfl,Nat.zero_le _⟩
   rintro j ρl w5 ⟨rfl,hj⟩
   have hmr:=matV_rlen (p:=p) (S:=bsm p p.length) hlt
   have hma:=matV_at (p:=p) (S:=bsm p p.length) (a:=k) (b:=j) hlt (by omega)
   rcases Nat.lt_or_ge j (knd p k) with hjl | hjl
   ·have h0:((matV p (bsm p p.length))[k]'(by omega))[j]'(by omega)=0:=by rw [hma,show bsm p p.length k j=false from g3 j hjl];rfl
    focus
     have szE4:=E4.size;have szE3:=E3.size;have szE2:=E2.size;have szE1:=E1.size;refine Ke <| Ke <| Kc rfl <| Wo rfl (Ka (v:=.int _ _) rfl) ?_
     refine Wo rfl (Ka (v:=v) rfl) <| Wo rfl (Ko Tryz.underlying23 rfl h) <| Wo rfl (Ks rfl rfl) <| Kd <| Kg rfl (fun h3=>?_) (fun h3=>?_);refine Kt ?_
     refine Ke <| Kr <| Ke <| Kc rfl <| Wo rfl (Ka (v:=um) rfl) <| Wo rfl (Ka (v:=.int _ _) rfl) ?_
     refine Ji Tryz.underlying23 Tryz.sizeOf88 Tryz.isAgg88 rfl (fun _=>rfl) rfl rM E4 rfl (by first | omega | (simp <;> omega)) ?_;rintro _ u2 hu1;refine Wo rfl (Ka (v:=.int _ _) rfl) ?_
     refine Ji Tryz.underlying88 Tryz.sizeOf3 Tryz.isAgg3 rfl (fun _=>rfl) rfl hu1 E4 rfl (by first | omega | (simp <;> omega)) ?_;rintro _ _ rfl;refine Wo rfl (Kx rfl rfl) <| Kd ?_
     refine Kg rfl (fun h4=>?_) (fun h4=>?_);(exfalso;omega);refine Kt ?_;refine Kc rfl <| Wo rfl (Ka (v:=.int _ _) rfl) <| Wo rfl (Kw rfl rfl (by omega)) ?_
     refine Wo rfl (Kb (v:=.int _ _) rfl) <| Kd ?_;rotate_left;(exfalso;omega)
    refine ⟨(j+1),by repeat (first | exact trivial | refine And.intro rfl ?_),by repeat (first | with_reducible exact Same.refl | refine Same.upd rfl ?_ | refine Same.upds rfl ?_ | refine Same.mix rfl ?_),?_,?_⟩
    ·exact ⟨rfl,by omega⟩
    ·omega
   ·obtain rfl:j=knd p k:=by omega
    have h1:((matV p (bsm p p.length))[k]'(by omega))[knd p k]'(by omega)=1:=by rw [hma,show bsm p p.length k (knd p k)=true from g2];rfl
    focus
     have szE4:=E4.size;have szE3:=E3.size;have szE2:=E2.size;have szE1:=E1.size;refine Ke <| Ke <| Kc rfl <| Wo rfl (Ka (v:=.int _ _) rfl) ?_
     refine Wo rfl (Ka (v:=v) rfl) <| Wo rfl (Ko Tryz.underlying23 rfl h) <| Wo rfl (Ks rfl rfl) <| Kd <| Kg rfl (fun h3=>?_) (fun h3=>?_);refine Kt ?_
     refine Ke <| Kr <| Ke <| Kc rfl <| Wo rfl (Ka (v:=um) rfl) <| Wo rfl (Ka (v:=.int _ _) rfl) ?_
     refine Ji Tryz.underlying23 Tryz.sizeOf88 Tryz.isAgg88 rfl (fun _=>rfl) rfl rM E4 rfl (by first | omega | (simp <;> omega)) ?_;rintro _ u2 hu1;refine Wo rfl (Ka (v:=.int _ _) rfl) ?_
     refine Ji Tryz.underlying88 Tryz.sizeOf3 Tryz.isAgg3 rfl (fun _=>rfl) rfl hu1 E4 rfl (by first | omega | (simp <;> omega)) ?_;rintro _ _ rfl;refine Wo rfl (Kx rfl rfl) <| Kd ?_
     refine Kg rfl (fun h4=>?_) (fun h4=>?_);refine Ke <| Kc rfl <| Wo rfl (Ka (v:=uk) rfl) <| Wo rfl (Ka (v:=.int _ _) rfl) ?_
     refine Jo (ps:=[(0,.int _ _)]) (cs:=[_]) rfl Tryz.underlying88 Tryz.sizeOf3 Tryz.zeroValue3 rfl rfl rfl rfl ?_;rintro b2 w4 hb2 E5 hB1 hHb2;have hlb2:=hB1.lt;have hs3:=E5.size
     refine Jv rfl el88 rfl rfl hB1 (hO1.toB.ext E5) Owned.int (Nat.le_refl _) (by first | omega | (simp <;> omega)) (by omega) (by omega) ((E2.trans E4).trans E5) (by omega) ?_;have hT1:=(hO1.toB.ext E5);rintro v1 w6 hO1 E6 M1
     have E7:=M1.ext hT1 (E4.trans E5) (by omega);have szE7:=E7.size;have hB1:=hB1.moves M1 hT1 (by omega);have hs4:=E6.size;refine Wo rfl (Kb (v:=v1) rfl) <| Kd <| Jg ?_
     refine exitX_other rfl ?_;refine exitX_same ?_;refine Kc rfl <| Wo rfl (Ka (v:=.int _ _) rfl) <| Wo rfl (Kw rfl rfl (by omega)) ?_;refine Wo rfl (Kb (v:=.int _ _) rfl) ?_
     refine Kd ?_;rotate_left;contradiction;(exfalso;omega)
    refine ⟨((k+1,v1)),by repeat (first | exact trivial | refine And.intro rfl ?_),by repeat (first | with_reducible exact Same.refl | refine Same.upd rfl ?_ | refine Same.upds rfl ?_ | refine Same.mix rfl ?_),?_,?_⟩
    ·refine ⟨by exact E7,by omega,?_⟩
     rw [take_snoc _ _ (by omega),ikndL_at]
     exact hO1
    ·simp only;omega
  ·obtain rfl:k=p.length:=by omega
   rw [List.take_of_length_le (by omega)] at hO1
   have rK:=hO1.read
   clear hO1
   focus
    have szE4:=E4.size;have szE3:=E3.size;have szE2:=E2.size;have szE1:=E1.size;refine Ke <| Ke <| Kc rfl <| Wo rfl (Ka (v:=.int _ _) rfl) ?_
    refine Wo rfl (Ka (v:=v) rfl) <| Wo rfl (Ko Tryz.underlying23 rfl h) <| Wo rfl (Ks rfl rfl) <| Kd <| Kg rfl (fun h2=>?_) (fun h2=>?_);contradiction;refine Jg ?_
    refine exitX_same ?_;refine Ke <| Kc rfl <| Jo (ps:=[(0,.int _ _)]) (cs:=[_]) rfl Tryz.underlying88 Tryz.sizeOf3 Tryz.zeroValue3 rfl rfl rfl rfl ?_;rintro b2 w5 hb2 E5 hB1 hHb2
    have hlb2:=hB1.lt;have hs3:=E5.size;refine Wo rfl (Kb (v:=.slice _ _ _) rfl) <| Kd <| Ke <| Ke <| Kc rfl <| Wo rfl (Kb (v:=.int _ _) rfl) ?_
    refine Kd <| Kr ?_
   have hO2:Owned w4.heap.size XI w5 (.slice (some ⟨b2,0,none⟩) 1 1) (ints [0]):=Owned.block hHb2 hb2 rfl (by decide) ⟨⟨rfl,rfl⟩,trivial⟩
   clear hHb2 hB1
   refine Jh [9,10,11,12,13,52,53,54,55,56,57,58,59,60,61,62,63,64,65,66,67,68,69,70,71,72,73,74,75,76,77,78,79,80,81,82,83,84,85,86,87,88,89,90,91,92,93,94,95,96,97,98,99,100] (fun ((t,u,L):Nat × Value × List Nat)=>[(10,.int .i64 (t:Nat)),(9,u)]) (fun (t,u,L) w'=>Ext w4 w'∧Owned w4.heap.size XI w' u (ints L)∧Wlk p L∧t≤L.length∧∀ x ∈ L.take t,∀ j ∈ arr p x,knd p j ∈ L.map (knd p)) (fun x=>p.length - x.1) (0,.slice (some ⟨b2,0,none⟩) 1 1,[0]) (by repeat (first | exact trivial | refine And.intro rfl ?_)) ?_ ?_
   ·exact ⟨by exact E5,hO2,Wlk.zero,Nat.zero_le _,by simp⟩
   clear hO2
   rintro ⟨t,u,L⟩ ρl w6 ⟨E6,hO2,hW,ht,hcl⟩
   have hLl:=hW.len hp
   have hLil:=ints_len L
   by_cases htl:t < L.length
   ·obtain ⟨X,hX⟩ : ∃ X,X=L[t]:=⟨_,rfl⟩
    have hXl:X < p.length:=hX ▸ hW.lt hp (List.getElem_mem htl)
    have hrow:=hp.row hXl
    focus
     have szE6:=E6.size;have szE5:=E5.size;have szE4:=E4.size;have szE3:=E3.size;have szE2:=E2.size;have szE1:=E1.size;refine Ke <| Ke <| Kc rfl ?_
     refine Wo rfl (Ka (v:=.int _ _) rfl) <| Wo rfl (Ka (v:=u) rfl) <| Wo rfl (Ko Tryz.underlying88 rfl (Owned.read hO2)) <| Wo rfl (Ks rfl rfl) <| Kd ?_
     refine Kg rfl (fun h3=>?_) (fun h3=>?_);refine Kt ?_;refine Ke <| Kr <| Ke <| Kc rfl <| Wo rfl (Kb (v:=.int _ _) rfl) <| Kd ?_
     refine Kr ?_;rotate_left;(exfalso;omega)
    refine Jh [9,11,12,13,58,59,60,61,62,63,64,65,66,67,68,69,70,71,72,73,74,75,76,77,78,79,80,81,82,83,84,85,86,87,88,89,90,91,92,93,94,95,96,97,98,99,100] (fun ((j,u,L'):Nat × Value × List Nat)=>[(11,.int .i64 (j:Nat)),(9,u)]) (fun (j,u,L') w'=>Ext w4 w'∧j≤p.length∧Owned w4.heap.size XI w' u (ints L')∧Wlk p L'∧(∃ e,L'=L++e)∧∀ j' ∈ arr p X,j' < j→knd p j' ∈ L'.map (knd p)) (fun x=>p.length - x.1) (0,u,L) (by repeat (first | exact trivial | refine And.intro rfl ?_)) ?_ ?_
    ·exact ⟨by exact E6,Nat.zero_le _,hO2,hW,⟨[],by simp⟩,fun j' _ h=>by omega⟩
    clear hO2
    rintro ⟨j,u',L'⟩ ρm w7 ⟨E7,hj,hO2,hW',⟨e,he⟩,hcl'⟩
    have hLl':=hW'.len hp
    have hLil':=ints_len L'
    have htl':t < L'.length:=by rw [he];simp;omega
    have hXt:L'[t]=X:=by simp only [he];rw [List.getElem_append_left htl,hX]
    have hXm:X ∈ L':=hXt ▸ List.getElem_mem htl'
    have hgt:(ints L')[t]'(by omega)=(X:Int):=by rw [ints_get htl',hXt]
    by_cases hjl:j < p.length
    ·have hgX:(p[((ints L')[t]'(by omega)).toNat]'(by rw [hgt];omega))=p[X]:=by simp only [hgt,Int.toNat_natCast]
     have hgXl:(p[((ints L')[t]'(by omega)).toNat]'(by rw [hgt];omega)).length=p.length:=by rw [hgX];exact hrow
     have hgXj:(p[((ints L')[t]'(by omega)).toNat]'(by rw [hgt];omega))[j]'(by omega)=p[X][j]:=by simp only [hgt,Int.toNat_natCast]
     have harX:j ∈ arr p X↔p[X][j]=1:=by
      rw [mem_arr hp hXl];unfold bit;rw [getD_lt hXl,getD_lt (show j < p[X].length by omega)]
      exact ⟨fun h=>h.2,fun h=>⟨hjl,h⟩⟩
     focus
      have szE7:=E7.size;have szE6:=E6.size;have szE5:=E5.size;have szE4:=E4.size;have szE3:=E3.size;have szE2:=E2.size;have szE1:=E1.size;refine Ke <| Ke <| Kc rfl ?_
      refine Wo rfl (Ka (v:=.int _ _) rfl) <| Wo rfl (Ka (v:=v) rfl) <| Wo rfl (Ko Tryz.underlying23 rfl h) <| Wo rfl (Ks rfl rfl) <| Kd ?_
      refine Kg rfl (fun h4=>?_) (fun h4=>?_);refine Kt ?_;refine Ke <| Kr <| Ke <| Kc rfl <| Wo rfl (Ka (v:=v) rfl) <| Wo rfl (Ka (v:=u') rfl) ?_
      refine Wo rfl (Ka (v:=.int _ _) rfl) <| Ji Tryz.underlying88 Tryz.sizeOf3 Tryz.isAgg3 rfl (fun _=>rfl) rfl (Owned.read hO2) (Ext.refl _) rfl (by first | omega | (simp <;> omega)) ?_;rintro _ _ rfl
      refine Wo_get_z Tryz.underlying23 Tryz.sizeOf88 Tryz.isAgg88 rfl (fun _=>rfl) rfl h ((E2.trans E4).trans E7) rfl (by first | omega | (simp <;> omega)) ?_;rintro _ u2 hu1;refine Wo rfl (Ka (v:=.int _ _) rfl) ?_
      refine Ji Tryz.underlying88 Tryz.sizeOf3 Tryz.isAgg3 rfl (fun _=>rfl) rfl hu1 ((E2.trans E4).trans E7) rfl (by first | omega | (simp <;> omega)) ?_;rintro _ _ rfl;refine Wo rfl (Kx rfl rfl) ?_
      refine Wo rfl (Kb (v:=.bool _) rfl) <| Kd <| Ke <| Ke <| Kc rfl <| Wo rfl (Kb (v:=.int _ _) rfl) <| Kd <| Kr ?_;rotate_left
      (exfalso;omega)
     refine Jh [12,13,75,76,77,78,79,80,81,82,83,84,85,86,87,88,89,90,91,92,93,94,95] (fun ((m,f):Nat × Bool)=>[(13,.int .i64 (m:Nat)),(12,.bool f)]) (fun (m,f) w'=>Ext w7 w'∧m≤L'.length∧(f=true↔j ∈ arr p X∧knd p j ∉ (L'.take m).map (knd p))) (fun x=>L'.length - x.1) (0,decide ((p[((ints L')[t]'(by omega)).toNat]'(by rw [hgt];omega))[j]'(by omega)=1)) (by repeat (first | exact trivial | refine And.intro rfl ?_)) ?_ ?_
     ·refine ⟨Ext.refl _,Nat.zero_le _,?_⟩
      rw [decide_eq_true_iff,hgXj,harX];simp
     rintro ⟨m,f⟩ ρn w9 ⟨E9,hm,hf⟩
     by_cases hml2:m < L'.length
     ·have hLm:=hW'.lt hp (List.getElem_mem hml2)
      have hgm:(ints L')[m]'(by omega)=(L'[m]:Int):=ints_get hml2
      have hkm:(ints (kndL p))[((ints L')[m]'(by omega)).toNat]'(by rw [hgm,hkl];omega)=(knd p L'[m]:Int):=by
       simp only [hgm,Int.toNat_natCast];exact ikndL_at _
      have hkj:(ints (kndL p))[j]'(by omega)=(knd p j:Int):=ikndL_at _
      have hts:=take_snoc _ _ hml2
      have bm:((ints L')[m]'(by omega)).toNat < (ints (kndL p)).length:=by rw [hkl,hgm];omega
      cases f
      ·focus
        have szE9:=E9.size;have szE7:=E7.size;have szE6:=E6.size;have szE5:=E5.size;have szE4:=E4.size;have szE3:=E3.size;have szE2:=E2.size;have szE1:=E1.size;refine Ke <| Ke <| Kc rfl ?_
        refine Wo rfl (Ka (v:=.int _ _) rfl) <| Wo rfl (Ka (v:=u') rfl) <| Wo rfl (Ko Tryz.underlying88 rfl (Owned.read hO2)) <| Wo rfl (Ks rfl rfl) <| Kd ?_
        refine Kg rfl (fun h5=>?_) (fun h5=>?_);refine Kt ?_;refine Ke <| Kr <| W_draw mixed (by kernel_rfl) rfl ?_;refine Jb rfl (fun _ _=>Ka (v:=.bool _) rfl) ?_
        refine Jb rfl (fun _ _=>Ka (v:=.bool _) rfl) ?_;refine Kq rfl <| Kq rfl <| Kq rfl <| Kq rfl <| Kq rfl <| Kq rfl <| Kq rfl ?_
        refine Kq rfl <| Kq rfl <| Kq rfl <| Kq rfl <| Kq rfl <| Jb rfl (fun _ _=>Kn (v:=.bool _) rfl rfl) ?_
        refine Jb rfl (fun _ _=>Kb (v:=.bool _) rfl) ?_;refine Wq_nil (fun w8 E8=>?_);have hs4:=E8.size;refine Kc rfl <| Wo rfl (Ka (v:=.int _ _) rfl) ?_
        refine Wo rfl (Kw rfl rfl (by omega)) ?_;refine Wo rfl (Kb (v:=.int _ _) rfl) <| Kd ?_;rotate_left;(exfalso;omega)
       refine ⟨((m+1,false)),by repeat (first | exact trivial | refine And.intro rfl ?_),by repeat (first | with_reducible exact Same.refl | refine Same.upd rfl ?_ | refine Same.upds rfl ?_ | refine Same.mix rfl ?_),?_,?_⟩
       ·refine ⟨by exact (E9.trans E8),by omega,⟨fun h=>(by cases h),fun h=>?_⟩⟩
        rw [hts,List.map_append,List.mem_append,not_or] at h
        exact absurd (hf.2 ⟨h.1,h.2.1⟩) (by simp)
       ·simp only;omega
      ·focus
        have szE9:=E9.size;have szE7:=E7.size;have szE6:=E6.size;have szE5:=E5.size;have szE4:=E4.size;have szE3:=E3.size;have szE2:=E2.size;have szE1:=E1.size;refine Ke <| Ke <| Kc rfl ?_
        refine Wo rfl (Ka (v:=.int _ _) rfl) <| Wo rfl (Ka (v:=u') rfl) <| Wo rfl (Ko Tryz.underlying88 rfl (Owned.read hO2)) <| Wo rfl (Ks rfl rfl) <| Kd ?_
        refine Kg rfl (fun h5=>?_) (fun h5=>?_);refine Kt ?_;refine Ke <| Kr <| W_draw mixed (by kernel_rfl) rfl ?_;refine Jb rfl (fun _ _=>Ka (v:=.bool _) rfl) ?_
        refine Jb rfl (fun _ _=>Ka (v:=.bool _) rfl) ?_;refine Jb rfl (fun _ _=>Ka (v:=uk) rfl) ?_;refine Jb rfl (fun _ _=>Ka (v:=u') rfl) ?_
        refine Jb rfl (fun _ _=>Ka (v:=.int _ _) rfl) ?_;refine Wq_get Tryz.underlying88 Tryz.sizeOf3 Tryz.isAgg3 rfl (fun _=>rfl) rfl (Owned.read hO2) E9 rfl (by first | omega | (simp <;> omega)) ?_;rintro _ _ rfl
        refine Wq_get_z Tryz.underlying88 Tryz.sizeOf3 Tryz.isAgg3 rfl (fun _=>rfl) rfl rK (E7.trans E9) rfl (by first | omega | (simp <;> omega)) ?_;rintro _ _ rfl;refine Jb rfl (fun _ _=>Ka (v:=uk) rfl) ?_
        refine Jb rfl (fun _ _=>Ka (v:=.int _ _) rfl) ?_;refine Wq_get Tryz.underlying88 Tryz.sizeOf3 Tryz.isAgg3 rfl (fun _=>rfl) rfl rK (E7.trans E9) rfl (by first | omega | (simp <;> omega)) ?_;rintro _ _ rfl
        refine Jb rfl (fun _ _=>Gb rfl rfl) ?_;refine Jb rfl (fun _ _=>Kz (v:=.bool _) rfl rfl) ?_;refine Jb rfl (fun _ _=>Kb (v:=.bool _) rfl) ?_;refine Wq_nil (fun w8 E8=>?_);have hs4:=E8.size
        refine Kc rfl <| Wo rfl (Ka (v:=.int _ _) rfl) <| Wo rfl (Kw rfl rfl (by omega)) ?_;refine Wo rfl (Kb (v:=.int _ _) rfl) <| Kd ?_;rotate_left;(exfalso;omega)
       refine ⟨((m+1,!decide ((ints (kndL p))[((ints L')[m]'(by omega)).toNat]'bm=(ints (kndL p))[j]'(by omega)))),by repeat (first | exact trivial | refine And.intro rfl ?_),by repeat (first | with_reducible exact Same.refl | refine Same.upd rfl ?_ | refine Same.upds rfl ?_ | refine Same.mix rfl ?_),?_,?_⟩
       ·refine ⟨by exact (E9.trans E8),by omega,?_⟩
        rw [hkm,hkj,hts,List.map_append,List.mem_append,not_or]
        have hf':=hf.1 rfl
        simp only [List.map_cons,List.map_nil,List.mem_singleton,Bool.not_eq_true',decide_eq_false_iff_not]
        constructor
        ·intro h;exact ⟨hf'.1,hf'.2,fun e=>h (by rw [e])⟩
        ·intro h e;exact h.2.2 (by omega)
       ·simp only;omega
     ·obtain rfl:m=L'.length:=by omega
      rw [List.take_length] at hf
      cases f
      ·focus
        have szE9:=E9.size;have szE7:=E7.size;have szE6:=E6.size;have szE5:=E5.size;have szE4:=E4.size;have szE3:=E3.size;have szE2:=E2.size;have szE1:=E1.size;refine Ke <| Ke <| Kc rfl ?_
        refine Wo rfl (Ka (v:=.int _ _) rfl) <| Wo rfl (Ka (v:=u') rfl) <| Wo rfl (Ko Tryz.underlying88 rfl (Owned.read hO2)) <| Wo rfl (Ks rfl rfl) <| Kd ?_
        refine Kg rfl (fun h5=>?_) (fun h5=>?_);(exfalso;omega);refine Jg ?_;refine exitX_same ?_;refine Ke <| Kc rfl <| Wo rfl (Ka (v:=.bool _) rfl) <| Kd ?_
        refine Ky rfl ?_;refine Kt ?_;refine Kc rfl <| Wo rfl (Ka (v:=.int _ _) rfl) <| Wo rfl (Kw rfl rfl (by omega)) ?_;refine Wo rfl (Kb (v:=.int _ _) rfl) ?_
        refine Kd ?_
       refine ⟨((j+1,u',L')),by repeat (first | exact trivial | refine And.intro rfl ?_),by repeat (first | with_reducible exact Same.refl | refine Same.upd rfl ?_ | refine Same.upds rfl ?_ | refine Same.mix rfl ?_),?_,?_⟩
       ·refine ⟨by exact (E7.trans E9),by omega,by exact (Mono.mono E9 hO2),hW',⟨e,he⟩,fun j' h1 h2=>?_⟩
        rcases Nat.lt_or_ge j' j with h3 | h3
        ·exact hcl' j' h1 h3
        ·obtain rfl:j'=j:=by omega
         exact Classical.byContradiction fun h=>absurd (hf.2 ⟨h1,h⟩) (by simp)
       ·simp only;omega
      ·obtain ⟨hf1,hf2⟩:=hf.1 rfl
       focus
        have szE9:=E9.size;have szE7:=E7.size;have szE6:=E6.size;have szE5:=E5.size;have szE4:=E4.size;have szE3:=E3.size;have szE2:=E2.size;have szE1:=E1.size;refine Ke <| Ke <| Kc rfl ?_
        refine Wo rfl (Ka (v:=.int _ _) rfl) <| Wo rfl (Ka (v:=u') rfl) <| Wo rfl (Ko Tryz.underlying88 rfl (Owned.read hO2)) <| Wo rfl (Ks rfl rfl) <| Kd ?_
        refine Kg rfl (fun h5=>?_) (fun h5=>?_);(exfalso;omega);refine Jg ?_;refine exitX_same ?_;refine Ke <| Kc rfl <| Wo rfl (Ka (v:=.bool _) rfl) <| Kd ?_
        refine Ga rfl ?_;refine Kc rfl <| Wo rfl (Ka (v:=u') rfl) <| Wo rfl (Ka (v:=.int _ _) rfl) ?_
        refine Jo (ps:=[(0,.int _ _)]) (cs:=[_]) rfl Tryz.underlying88 Tryz.sizeOf3 Tryz.zeroValue3 rfl rfl rfl rfl ?_;rintro b3 w8 hb3 E8 hB1 hHb3;have hlb3:=hB1.lt;have hs4:=E8.size
        refine Jv rfl el88 rfl rfl hB1 (hO2.toB.ext (E9.trans E8)) Owned.int (Nat.le_refl _) (by first | omega | (simp <;> omega)) (by omega) (by omega) ((((E2.trans E4).trans E7).trans E9).trans E8) (by omega) ?_
        have hT1:=(hO2.toB.ext (E9.trans E8));rintro v1 w10 hO2 E10 M1;have E11:=M1.ext hT1 (((E4.trans E7).trans E9).trans E8) (by omega);have szE11:=E11.size;have E12:=M1.ext hT1 ((E7.trans E9).trans E8) (by omega)
        have szE12:=E12.size;have hB1:=hB1.moves M1 hT1 (by omega);have hs5:=E10.size;refine Wo rfl (Kb (v:=v1) rfl) <| Kd <| Kc rfl <| Wo rfl (Ka (v:=.int _ _) rfl) ?_
        refine Wo rfl (Kw rfl rfl (by omega)) ?_;refine Wo rfl (Kb (v:=.int _ _) rfl) <| Kd ?_
       refine ⟨((j+1,v1,L'++[j])),by repeat (first | exact trivial | refine And.intro rfl ?_),by repeat (first | with_reducible exact Same.refl | refine Same.upd rfl ?_ | refine Same.upds rfl ?_ | refine Same.mix rfl ?_),?_,?_⟩
       ·refine ⟨by exact E12,by omega,?_,hW'.step hXm hf1 hf2,⟨e++[j],by rw [he,List.append_assoc]⟩,fun j' h1 h2=>?_⟩
        ·rw [ints_append];assumption
        ·rw [List.map_append,List.mem_append]
         rcases Nat.lt_or_ge j' j with h3 | h3
         ·exact .inl (hcl' j' h1 h3)
         ·obtain rfl:j'=j:=by omega
          exact .inr (by simp)
       ·simp only;omega
    ·obtain rfl:j=p.length:=by omega
     focus
      have szE7:=E7.size;have szE6:=E6.size;have szE5:=E5.size;have szE4:=E4.size;have szE3:=E3.size;have szE2:=E2.size;have szE1:=E1.size;refine Ke <| Ke <| Kc rfl ?_
      refine Wo rfl (Ka (v:=.int _ _) rfl) <| Wo rfl (Ka (v:=v) rfl) <| Wo rfl (Ko Tryz.underlying23 rfl h) <| Wo rfl (Ks rfl rfl) <| Kd ?_
      refine Kg rfl (fun h4=>?_) (fun h4=>?_);contradiction;refine Jg ?_;refine exitX_same ?_;refine Kc rfl <| Wo rfl (Ka (v:=.int _ _) rfl) <| Wo rfl (Kw rfl rfl (by omega)) ?_
      refine Wo rfl (Kb (v:=.int _ _) rfl) <| Kd ?_
     refine ⟨((t+1,u',L')),by repeat (first | exact trivial | refine And.intro rfl ?_),by repeat (first | with_reducible exact Same.refl | refine Same.upd rfl ?_ | refine Same.upds rfl ?_ | refine Same.mix rfl ?_),?_,?_⟩
     ·refine ⟨by exact E7,by exact hO2,hW',by omega,fun x hx j' hj'=>?_⟩
      rw [take_snoc _ _ htl'] at hx
      rcases List.mem_append.1 hx with hx | hx
      ·have hx2:x ∈ L.take t:=by rw [he,List.take_append_of_le_length (by omega)] at hx;exact hx
       have:=hcl x hx2 j' hj'
       rw [he,List.map_append]
       exact List.mem_append_left _ this
      ·rw [List.mem_singleton.1 hx,hXt] at hj'
       exact hcl' j' hj' (arr_lt hp hXl hj')
     ·simp only;omega
   ·obtain rfl:t=L.length:=by omega
    rw [List.take_length] at hcl
    have hKds:=hW.kds hp hcl
    have hLlt : ∀ x ∈ L,x < p.length:=fun x hx=>hW.lt hp hx
    have hC:Cand p 0 (qp p (L.map (knd p))):=⟨_,hKds,rfl⟩
    have hcl2:(qp p (L.map (knd p))).length=L.length:=by rw [qp_len,List.length_map]
    have hll:=lst_len hp hp1 hC
    rw [hcl2] at hll
    by_cases h5:L.length≤5
    ·have h5':(lst p 0).length≤5:=by omega
     have hPc:=hC.pic hp hp1 (by omega)
     have k4 : ∀ (w:World) (v u t:Value),ESl Ints w v p→Ints w u (ints (kndL p))→Ints w t (ints L)→Does Tryz.prog 195 [v,u,t] w (RetO w XR (qp p (L.map (knd p)))):=fun w v u t h1 h2 h3=>by
      rw [← ptV_qp hp hLlt]
      refine l4Part_ok w v u t p _ _ h1 h2 h3 hp hkl (fun x hx=>?_) (by rw [ints_len];omega)
      obtain ⟨y,hy,rfl⟩:=List.mem_map.1 hx
      have:=hLlt y hy
      omega
     have k5 : ∀ (w:World) (v:Value),ESl Ints w v (qp p (L.map (knd p)))→Does Tryz.prog 126 [v,.int .i64 0] w (RetO w XR (lst p 0)):=fun w v h=>by
      have:=LeastOf_ok w v _ h 0
      rw [if_pos ⟨hPc,by decide,by have:=hPc.1;omega⟩] at this
      rw [(lst_same hp (hC.gr hp hp1) hp1 hPc.1).2 (hC.bis hp hp1)]
      exact this
     rw [if_pos h5',decide_eq_true h5']
     focus
      have szE6:=E6.size;have szE5:=E5.size;have szE4:=E4.size;have szE3:=E3.size;have szE2:=E2.size;have szE1:=E1.size;refine Ke <| Ke <| Kc rfl ?_
      refine Wo rfl (Ka (v:=.int _ _) rfl) <| Wo rfl (Ka (v:=u) rfl) <| Wo rfl (Ko Tryz.underlying88 rfl (Owned.read hO2)) <| Wo rfl (Ks rfl rfl) <| Kd ?_
      refine Kg rfl (fun h3=>?_) (fun h3=>?_);(exfalso;omega);refine Jg ?_;refine exitX_same ?_;refine Ke <| Ke <| Kc rfl <| Wo rfl (Ka (v:=u) rfl) ?_
      refine Wo rfl (Ko Tryz.underlying88 rfl (Owned.read hO2)) <| Wo rfl (opv_gtr rfl rfl) <| Kd <| Kg rfl (fun h4=>?_) (fun h4=>?_);(exfalso;omega);refine Kt ?_;refine Ke ?_
      refine Kc rfl <| Wo rfl (Ka (v:=v) rfl) <| Wo rfl (Ka (v:=uk) rfl) <| Wo rfl (Ka (v:=u) rfl) ?_
      refine Kj rfl (opc3 (a:=v) (b:=uk) (c:=u) Tryz.call195 rfl rfl rfl) (k4 _ _ _ _ ((Mono.mono ((E2.trans E4).trans E6) h)) ((Mono.mono E6 rK)) ((Owned.read hO2))) ?_;rintro u2 w7 ⟨E7,hO1⟩;have hs4:=E7.size
      refine Kj rfl (Jn (a:=u2) (b:=.int _ _) Tryz.call126 rfl rfl) (k5 _ _ ((Owned.read hO1))) ?_;rintro u3 w8 ⟨E8,hO3⟩;have hs5:=E8.size;refine Wo rfl (Kb (v:=u3) rfl) ?_
      refine Wo rfl (Kb (v:=.bool _) rfl) <| Kd <| Ja ?_;refine at_ret (v:=.tuple #[u3,.bool _]) rfl ?_;exact ⟨_,rfl,((((E2.trans E4).trans E6).trans E7).trans E8),hO3.toB.o.mono (by omega)⟩
    ·have h5' : ¬(lst p 0).length≤5:=by omega
     rw [if_neg h5',decide_eq_false h5']
     focus
      have szE6:=E6.size;have szE5:=E5.size;have szE4:=E4.size;have szE3:=E3.size;have szE2:=E2.size;have szE1:=E1.size;refine Ke <| Ke <| Kc rfl ?_
      refine Wo rfl (Ka (v:=.int _ _) rfl) <| Wo rfl (Ka (v:=u) rfl) <| Wo rfl (Ko Tryz.underlying88 rfl (Owned.read hO2)) <| Wo rfl (Ks rfl rfl) <| Kd ?_
      refine Kg rfl (fun h3=>?_) (fun h3=>?_);(exfalso;omega);refine Jg ?_;refine exitX_same ?_;refine Ke <| Ke <| Kc rfl <| Wo rfl (Ka (v:=u) rfl) ?_
      refine Wo rfl (Ko Tryz.underlying88 rfl (Owned.read hO2)) <| Wo rfl (opv_gtr rfl rfl) <| Kd <| Kg rfl (fun h4=>?_) (fun h4=>?_);refine Ke <| Kc rfl ?_
      refine Js (XSl 3 XInt) rfl el23 Tryz.sizeOf88 ?_;rintro b3 w7 hb3 b3lt E7 hO1;have hs4:=E7.size;refine Wo rfl (Kb (v:=.slice _ _ _) rfl) <| Wo rfl (Kb (v:=.bool _) rfl) <| Kd ?_
      refine Ja ?_;refine at_ret (v:=.tuple #[.slice _ _ _,.bool _]) rfl ?_;exact ⟨_,rfl,(((E2.trans E4).trans E6).trans E7),hO1.toB.o.mono (by omega)⟩;(exfalso;omega)
theorem l6Least_put (w:World) (v:Value) (g:List (List Int)) (ms:List Nat) (h:ESl Ints w v (put g ms)) (hg:Gr g) (hn:g.length≤10) :
  Does Tryz.prog 175 [v] w (RetOB w XR (og (putV g ms)) (putV g ms).isSome):=by
 rw [putV_og,putV_is]
 exact l6Least_ok w v _ h (put_gr hg hn)
theorem PairOf_ok (w:World) (v u:Value) (p q:List (List Int)) (h:ESl Ints w v p) (h':ESl Ints w u q) (a b:Nat) (ha:Nod p a) (hb:Nod q b):Does Tryz.prog 141 [v,.int .i64 (a:Int),u,.int .i64 (b:Int)] w (RetOB w XR (og (pairV p a q b)) (pairV p a q b).isSome):=by
 have la:a < p.length:=by have:=ha.2;omega
 have lb:b < q.length:=by have:=hb.2;omega
 have hle:=h.le
 have hle':=h'.le
 have hG:=ha.1.bes5 hb.1
 have n1 : ∀ (w:World) (v:Value),ESl Ints w v p→Does Tryz.prog 118 [v,.int .i64 (a:Int)] w (Ret w (.bool true)):=fun w v h=>by
  have:=NodeOk_ok w v p h (a:Int);rwa [decide_eq_true ha] at this
 have n2 : ∀ (w:World) (v:Value),ESl Ints w v q→Does Tryz.prog 118 [v,.int .i64 (b:Int)] w (Ret w (.bool true)):=fun w v h=>by
  have:=NodeOk_ok w v q h (b:Int);rwa [decide_eq_true hb] at this
 have k1 : ∀ (w:World) (v u vl vr:Value),ESl Ints w v p→ESl Ints w u q→Ints w vl [(a:Int)]→Ints w vr [(b:Int)]→Does Tryz.prog 176 [v,u,vl,vr] w (RetO w XR (put (bes p q) [a,p.length+b])):=fun w v u vl vr h1 h2 h3 h4 =>
  l6Put_ok w v u vl vr p q [a] [b] h1 h2 h3 h4 ha.1 (.inl hb.1) (fun x hx=>by rw [List.mem_singleton.1 hx];exact la) (fun x hx=>by rw [List.mem_singleton.1 hx];exact lb) (by simp) (by simp)
 have k2 : ∀ (w:World) (v:Value),ESl Ints w v (put (bes p q) [a,p.length+b])→Does Tryz.prog 175 [v] w (RetOB w XR (og (pairV p a q b)) (pairV p a q b).isSome):=fun w v h=>l6Least_put w v _ _ h hG.1 hG.2
 refine fn_of_W2 Tryz.func141 rfl Tryz.results141 Tryz.ntmps141 rfl ?_
 have litown:True:=trivial
 focus
  refine Ke <| Kc rfl <| Wo rfl (Kb (v:=.slice _ _ _) rfl) <| Wo rfl (Kb (v:=.bool _) rfl) <| Kd <| Ke <| Ke <| Kc rfl ?_
  refine Wo rfl (Ka (v:=v) rfl) <| Wo rfl (Ka (v:=.int _ _) rfl) <| Kj rfl (Jn (a:=v) (b:=.int _ _) Tryz.call118 rfl rfl) (n1 _ _ (h)) ?_;rintro _ w1 ⟨rfl,E1⟩;have hs1:=E1.size
  refine Wo rfl (Jf rfl) <| Jy rfl (Ka (v:=.bool _) rfl) (fun h1=>?_) (fun h1=>?_);contradiction;refine Wo rfl (Ka (v:=u) rfl) <| Wo rfl (Ka (v:=.int _ _) rfl) ?_
  refine Kj rfl (Jn (a:=u) (b:=.int _ _) Tryz.call118 rfl rfl) (n2 _ _ ((Mono.mono E1 h'))) ?_;rintro _ w2 ⟨rfl,E2⟩;have hs2:=E2.size;refine Wo rfl (Jf rfl) ?_
  refine Wo rfl (Kn (v:=.bool _) rfl rfl) <| Kd <| Jx rfl (fun h2=>?_) (fun h2=>?_);contradiction;refine Kt ?_;refine Ke <| Kc rfl ?_
  refine Wo rfl (Ka (v:=v) rfl) <| Wo rfl (Ka (v:=u) rfl) <| Wo rfl (Ka (v:=.int _ _) rfl) ?_
  refine Jo (ps:=[(0,.int _ _)]) (cs:=[_]) rfl Tryz.underlying88 Tryz.sizeOf3 Tryz.zeroValue3 rfl rfl rfl rfl ?_;rintro b1 w3 hb1 E3 hB1 hHb1;have hlb1:=hB1.lt;have hLb1:=own_lit1 hHb1 hb1;clear hHb1
  have hs3:=E3.size;refine Wo rfl (Ka (v:=.int _ _) rfl) <| Jo (ps:=[(0,.int _ _)]) (cs:=[_]) rfl Tryz.underlying88 Tryz.sizeOf3 Tryz.zeroValue3 rfl rfl rfl rfl ?_;rintro b2 w4 hb2 E4 hB2 hHb2
  have hlb2:=hB2.lt;have hLb2:=own_lit1 hHb2 hb2;clear hHb2;have hs4:=E4.size
  refine Kj rfl (opc4 (a:=v) (b:=u) (c:=.slice _ _ _) (d:=.slice _ _ _) Tryz.call176 rfl rfl rfl rfl) (k1 _ _ _ _ _ ((Mono.mono (((E1.trans E2).trans E3).trans E4) h)) ((Mono.mono (((E1.trans E2).trans E3).trans E4) h')) ((Mono.mono E4 (Owned.read hLb1))) ((Owned.read hLb2))) ?_
  rintro u1 w5 ⟨E5,hO1⟩;have ichO1:=OwnedB.isC (Owned.toB hO1);have hs5:=E5.size;refine Kj rfl (Jk (a:=u1) Tryz.call175 rfl) (k2 _ _ ((Owned.read hO1))) ?_;rintro _ w6 ⟨u2,rfl,E6,hO2⟩
  have ichO2:=OwnedB.isC (Owned.toB hO2);have hs6:=E6.size;refine Wo rfl (Kk (v:=u2) rfl rfl) <| Wo rfl (Kk (v:=.bool _) rfl rfl) <| Wo rfl (Kb (v:=u2) rfl) ?_
  refine Wo rfl (Kb (v:=.bool _) rfl) <| Kd <| Ja ?_;refine at_ret (v:=.tuple #[u2,.bool _]) rfl ?_
  exact ⟨_,rfl,(((((E1.trans E2).trans E3).trans E4).trans E5).trans E6),hO2.toB.o.mono (by omega)⟩
theorem TogetherOf_ok (w:World) (v u:Value) (p q:List (List Int)) (h:ESl Ints w v p) (h':ESl Ints w u q) (a b:Nat) (ha:Nod p a) (hb:Nod q b):Does Tryz.prog 142 [v,.int .i64 (a:Int),u,.int .i64 (b:Int)] w (RetOB w XR (og (togV p a q b)) (togV p a q b).isSome):=by
 have la:a < p.length:=by have:=ha.2;omega
 have lb:b < q.length:=by have:=hb.2;omega
 have hle:=h.le
 have hle':=h'.le
 have hG:=ha.1.bes5 hb.1
 have n1 : ∀ (w:World) (v:Value),ESl Ints w v p→Does Tryz.prog 118 [v,.int .i64 (a:Int)] w (Ret w (.bool true)):=fun w v h=>by
  have:=NodeOk_ok w v p h (a:Int);rwa [decide_eq_true ha] at this
 have n2 : ∀ (w:World) (v:Value),ESl Ints w v q→Does Tryz.prog 118 [v,.int .i64 (b:Int)] w (Ret w (.bool true)):=fun w v h=>by
  have:=NodeOk_ok w v q h (b:Int);rwa [decide_eq_true hb] at this
 have c1 : ∀ (w:World) (v:Value),ESl Ints w v p→Does Tryz.prog 119 [v,.int .i64 (a:Int)] w (RetO w XI (ints (arr p a))):=fun w v h=>l6Arrows_ok w v p h ha.1.gr a la
 have c2 : ∀ (w:World) (v:Value),ESl Ints w v q→Does Tryz.prog 119 [v,.int .i64 (b:Int)] w (RetO w XI (ints (arr q b))):=fun w v h=>l6Arrows_ok w v q h hb.1.gr b lb
 have k1 : ∀ (w:World) (v u vl vr:Value),ESl Ints w v p→ESl Ints w u q→Ints w vl (ints (arr p a))→Ints w vr (ints (arr q b))→Does Tryz.prog 176 [v,u,vl,vr] w (RetO w XR (put (bes p q) (arr p a++(arr q b).map (p.length + ·)))):=fun w v u vl vr h1 h2 h3 h4 =>
  l6Put_ok w v u vl vr p q _ _ h1 h2 h3 h4 ha.1 (.inl hb.1) (fun x hx=>arr_lt ha.1.gr la hx) (fun x hx=>arr_lt hb.1.gr lb hx) (by have:=arr_le ha.1.gr la;have:=ha.1.2.1;omega) (by have:=arr_le hb.1.gr lb;have:=hb.1.2.1;omega)
 have k2 : ∀ (w:World) (v:Value),ESl Ints w v (put (bes p q) (arr p a++(arr q b).map (p.length + ·)))→Does Tryz.prog 175 [v] w (RetOB w XR (og (togV p a q b)) (togV p a q b).isSome):=fun w v h=>by
  rw [togV_eq ha.1.gr hb.1.gr la lb]
  exact l6Least_put w v _ _ h hG.1 hG.2
 refine fn_of_W2 Tryz.func142 rfl Tryz.results142 Tryz.ntmps142 rfl ?_
 focus
  refine Ke <| Kc rfl <| Wo rfl (Kb (v:=.slice _ _ _) rfl) <| Wo rfl (Kb (v:=.bool _) rfl) <| Kd <| Ke <| Ke <| Kc rfl ?_
  refine Wo rfl (Ka (v:=v) rfl) <| Wo rfl (Ka (v:=.int _ _) rfl) <| Kj rfl (Jn (a:=v) (b:=.int _ _) Tryz.call118 rfl rfl) (n1 _ _ (h)) ?_;rintro _ w1 ⟨rfl,E1⟩;have hs1:=E1.size
  refine Wo rfl (Jf rfl) <| Jy rfl (Ka (v:=.bool _) rfl) (fun h1=>?_) (fun h1=>?_);contradiction;refine Wo rfl (Ka (v:=u) rfl) <| Wo rfl (Ka (v:=.int _ _) rfl) ?_
  refine Kj rfl (Jn (a:=u) (b:=.int _ _) Tryz.call118 rfl rfl) (n2 _ _ ((Mono.mono E1 h'))) ?_;rintro _ w2 ⟨rfl,E2⟩;have hs2:=E2.size;refine Wo rfl (Jf rfl) ?_
  refine Wo rfl (Kn (v:=.bool _) rfl rfl) <| Kd <| Jx rfl (fun h2=>?_) (fun h2=>?_);contradiction;refine Kt ?_;refine Ke <| Kc rfl ?_
  refine Wo rfl (Ka (v:=v) rfl) <| Wo rfl (Ka (v:=u) rfl) <| Wo rfl (Ka (v:=v) rfl) <| Wo rfl (Ka (v:=.int _ _) rfl) ?_
  refine Kj rfl (Jn (a:=v) (b:=.int _ _) Tryz.call119 rfl rfl) (c1 _ _ ((Mono.mono (E1.trans E2) h))) ?_;rintro u1 w3 ⟨E3,hO1⟩;have hs3:=E3.size;refine Wo rfl (Ka (v:=u) rfl) ?_
  refine Wo rfl (Ka (v:=.int _ _) rfl) <| Kj rfl (Jn (a:=u) (b:=.int _ _) Tryz.call119 rfl rfl) (c2 _ _ ((Mono.mono ((E1.trans E2).trans E3) h'))) ?_;rintro u2 w4 ⟨E4,hO2⟩;have hs4:=E4.size
  refine Kj rfl (opc4 (a:=v) (b:=u) (c:=u1) (d:=u2) Tryz.call176 rfl rfl rfl rfl) (k1 _ _ _ _ _ ((Mono.mono (((E1.trans E2).trans E3).trans E4) h)) ((Mono.mono (((E1.trans E2).trans E3).trans E4) h')) ((Mono.mono E4 (Owned.read hO1))) ((Owned.read hO2))) ?_
  rintro u3 w5 ⟨E5,hO3⟩;have hs5:=E5.size;refine Kj rfl (Jk (a:=u3) Tryz.call175 rfl) (k2 _ _ ((Owned.read hO3))) ?_;rintro _ w6 ⟨u4,rfl,E6,hO4⟩;have hs6:=E6.size;refine Wo rfl (Kk (v:=u4) rfl rfl) ?_
  refine Wo rfl (Kk (v:=.bool _) rfl rfl) <| Wo rfl (Kb (v:=u4) rfl) <| Wo rfl (Kb (v:=.bool _) rfl) <| Kd <| Ja ?_
  refine at_ret (v:=.tuple #[u4,.bool _]) rfl ?_;exact ⟨_,rfl,(((((E1.trans E2).trans E3).trans E4).trans E5).trans E6),hO4.toB.o.mono (by omega)⟩
open Classical in
theorem WithoutSet_ok (w:World) (v u:Value) (p q:List (List Int)) (h:ESl Ints w v p) (h':ESl Ints w u q) (a b:Nat) (ha:Nod p a) (hb:Nod q b):Does Tryz.prog 143 [v,.int .i64 (a:Int),u,.int .i64 (b:Int)] w (RetOB w XR (og (wosV p a q b)) (wosV p a q b).isSome):=by
 have la:a < p.length:=by have:=ha.2;omega
 have lb:b < q.length:=by have:=hb.2;omega
 have hle:=h.le
 have hle':=h'.le
 have n1 : ∀ (w:World) (v:Value),ESl Ints w v p→Does Tryz.prog 118 [v,.int .i64 (a:Int)] w (Ret w (.bool true)):=fun w v h=>by
  have:=NodeOk_ok w v p h (a:Int);rwa [decide_eq_true ha] at this
 have n2 : ∀ (w:World) (v:Value),ESl Ints w v q→Does Tryz.prog 118 [v,.int .i64 (b:Int)] w (Ret w (.bool true)):=fun w v h=>by
  have:=NodeOk_ok w v q h (b:Int);rwa [decide_eq_true hb] at this
 have c1 : ∀ (w:World) (v:Value),ESl Ints w v p→Does Tryz.prog 119 [v,.int .i64 (a:Int)] w (RetO w XI (ints (arr p a))):=fun w v h=>l6Arrows_ok w v p h ha.1.gr a la
 have hal:=arr_le ha.1.gr la
 have hail:=ints_len (arr p a)
 have hp5:=ha.1.2.1
 refine fn_of_W2 Tryz.func143 rfl Tryz.results143 Tryz.ntmps143 rfl ?_
 focus
  refine Ke <| Kc rfl <| Wo rfl (Kb (v:=.slice _ _ _) rfl) <| Wo rfl (Kb (v:=.bool _) rfl) <| Kd <| Ke <| Ke <| Kc rfl ?_
  refine Wo rfl (Ka (v:=v) rfl) <| Wo rfl (Ka (v:=.int _ _) rfl) <| Kj rfl (Jn (a:=v) (b:=.int _ _) Tryz.call118 rfl rfl) (n1 _ _ (h)) ?_;rintro _ w1 ⟨rfl,E1⟩;have hs1:=E1.size
  refine Wo rfl (Jf rfl) <| Jy rfl (Ka (v:=.bool _) rfl) (fun h1=>?_) (fun h1=>?_);contradiction;refine Wo rfl (Ka (v:=u) rfl) <| Wo rfl (Ka (v:=.int _ _) rfl) ?_
  refine Kj rfl (Jn (a:=u) (b:=.int _ _) Tryz.call118 rfl rfl) (n2 _ _ ((Mono.mono E1 h'))) ?_;rintro _ w2 ⟨rfl,E2⟩;have hs2:=E2.size;refine Wo rfl (Jf rfl) ?_
  refine Wo rfl (Kn (v:=.bool _) rfl rfl) <| Kd <| Jx rfl (fun h2=>?_) (fun h2=>?_);contradiction;refine Kt ?_;refine Ke <| Kc rfl ?_
  refine Js XInt rfl el88 Tryz.sizeOf3 ?_;rintro b1 w3 hb1 b1lt E3 hO1;have hs3:=E3.size;refine Wo rfl (Kb (v:=.slice _ _ _) rfl) <| Kd <| Ke <| Kc rfl ?_
  refine Wo rfl (Ka (v:=v) rfl) <| Wo rfl (Ka (v:=.int _ _) rfl) <| Kj rfl (Jn (a:=v) (b:=.int _ _) Tryz.call119 rfl rfl) (c1 _ _ ((Mono.mono ((E1.trans E2).trans E3) h))) ?_
  rintro u1 w4 ⟨E4,hO2⟩;have hs4:=E4.size;refine Wo rfl (Kb (v:=u1) rfl) <| Kd <| Ke <| Ke <| Kc rfl <| Wo rfl (Kb (v:=.int _ _) rfl) ?_
  refine Kd <| Kr ?_
 have hO3:Owned w.heap.size XI w4 (.slice (some ⟨b1,0,none⟩) 0 0) (ints []):=(hO1.ext E4).mono (by omega)
 have hBe:Besides (Value.ownBlock (.slice (some ⟨b1,0,none⟩) 0 0)) Ints w4 u1 (ints (arr p a)):=Besides.start hO1 hO2.above
 clear hO1 hO2
 have E0:Ext w w4:=by exact (((E1.trans E2).trans E3).trans E4)
 refine Jh [10,12,28,29,30,31,32,33,34,35,36,37,38,39,40,41,42,43,44,45,46,47,48,49] (fun ((k,u,L):Nat × Value × List Nat)=>[(12,.int .i64 (k:Nat)),(10,u)]) (fun (k,u,L) w'=>Ext w w'∧k≤(arr p a).length∧Owned w.heap.size XI w' u (ints L)∧Besides u.ownBlock Ints w' u1 (ints (arr p a))∧L=((arr p a).take k).filter fun v=>!decide (Bis p v q b)) (fun x=>(arr p a).length - x.1) (0,.slice (some ⟨b1,0,none⟩) 0 0,[]) (by repeat (first | exact trivial | refine And.intro rfl ?_)) ?_ ?_
 ·exact ⟨by exact E0,Nat.zero_le _,hO3,hBe,by simp⟩
 clear hO3 hBe
 rintro ⟨k,uk,L⟩ ρj w5 ⟨E5,hk,hO3,hBe,hL⟩
 have hLle:L.length≤(arr p a).length:=by rw [hL];exact Nat.le_trans (List.length_filter_le _ _) (by rw [List.length_take];omega)
 have hLil:=ints_len L
 by_cases hkl:k < (arr p a).length
 ·have hm:=arr_lt ha.1.gr la (List.getElem_mem hkl)
  have hgk:(ints (arr p a))[k]'(by omega)=((arr p a)[k]:Int):=ints_get hkl
  have hts:=take_snoc _ _ hkl
  have hnk:Nod p ((arr p a)[k]:Nat):=⟨ha.1,by omega,by omega⟩
  by_cases hB:Bis p (arr p a)[k] q b
  ·have k3 : ∀ (w:World) (v u:Value),ESl Ints w v p→ESl Ints w u q→Does Tryz.prog 121 [v,.int .i64 ((ints (arr p a))[k]'(by omega)),u,.int .i64 (b:Int)] w (Ret w (.bool true)):=fun w v u h1 h2=>by
    have:=spec_SameSet_ok w v u p q h1 h2 (((arr p a)[k]:Nat):Int) (b:Int) hnk hb
    rw [hgk];simp only [Int.toNat_natCast] at this
    rwa [decide_eq_true hB] at this
   focus
    have szE5:=E5.size;have szE0:=E0.size;have szE4:=E4.size;have szE3:=E3.size;have szE2:=E2.size;have szE1:=E1.size;refine Ke <| Ke <| Kc rfl ?_
    refine Wo rfl (Ka (v:=.int _ _) rfl) <| Wo rfl (Ka (v:=u1) rfl) <| Wo rfl (Ko Tryz.underlying88 rfl (Besides.here hBe)) <| Wo rfl (Ks rfl rfl) <| Kd ?_
    refine Kg rfl (fun h3=>?_) (fun h3=>?_);refine Kt ?_;refine Ke <| Kr <| Ke <| Kc rfl <| Wo rfl (Ka (v:=v) rfl) <| Wo rfl (Ka (v:=u1) rfl) ?_
    refine Wo rfl (Ka (v:=.int _ _) rfl) <| Ji Tryz.underlying88 Tryz.sizeOf3 Tryz.isAgg3 rfl (fun _=>rfl) rfl (Besides.here hBe) (Ext.refl _) rfl (by first | omega | (simp <;> omega)) ?_;rintro _ _ rfl
    refine Wo rfl (Ka (v:=u) rfl) <| Wo rfl (Ka (v:=.int _ _) rfl) ?_
    refine Kj rfl (opc4 (a:=v) (b:=.int _ _) (c:=u) (d:=.int _ _) Tryz.call121 rfl rfl rfl rfl) (k3 _ _ _ ((Mono.mono E5 h)) ((Mono.mono E5 h'))) ?_;rintro _ w6 ⟨rfl,E6⟩;have hs5:=E6.size
    refine Wo rfl (Jf rfl) <| Kd <| Jx rfl (fun h4=>?_) (fun h4=>?_);contradiction;refine Kt ?_;refine Kc rfl <| Wo rfl (Ka (v:=.int _ _) rfl) ?_
    refine Wo rfl (Kw rfl rfl (by omega)) ?_;refine Wo rfl (Kb (v:=.int _ _) rfl) <| Kd ?_;rotate_left;(exfalso;omega)
   refine ⟨((k+1,uk,L)),by repeat (first | exact trivial | refine And.intro rfl ?_),by repeat (first | with_reducible exact Same.refl | refine Same.upd rfl ?_ | refine Same.upds rfl ?_ | refine Same.mix rfl ?_),?_,?_⟩
   ·refine ⟨by exact (E5.trans E6),by omega,by exact (Mono.mono E6 hO3),by exact (hBe.ext E6),?_⟩
    rw [hL,hts,List.filter_append];simp [hB]
   ·simp only;omega
  ·have k3 : ∀ (w:World) (v u:Value),ESl Ints w v p→ESl Ints w u q→Does Tryz.prog 121 [v,.int .i64 ((ints (arr p a))[k]'(by omega)),u,.int .i64 (b:Int)] w (Ret w (.bool false)):=fun w v u h1 h2=>by
    have:=spec_SameSet_ok w v u p q h1 h2 (((arr p a)[k]:Nat):Int) (b:Int) hnk hb
    rw [hgk];simp only [Int.toNat_natCast] at this
    rwa [decide_eq_false hB] at this
   focus
    have szE5:=E5.size;have szE0:=E0.size;have szE4:=E4.size;have szE3:=E3.size;have szE2:=E2.size;have szE1:=E1.size;refine Ke <| Ke <| Kc rfl ?_
    refine Wo rfl (Ka (v:=.int _ _) rfl) <| Wo rfl (Ka (v:=u1) rfl) <| Wo rfl (Ko Tryz.underlying88 rfl (Besides.here hBe)) <| Wo rfl (Ks rfl rfl) <| Kd ?_
    refine Kg rfl (fun h3=>?_) (fun h3=>?_);refine Kt ?_;refine Ke <| Kr <| Ke <| Kc rfl <| Wo rfl (Ka (v:=v) rfl) <| Wo rfl (Ka (v:=u1) rfl) ?_
    refine Wo rfl (Ka (v:=.int _ _) rfl) <| Ji Tryz.underlying88 Tryz.sizeOf3 Tryz.isAgg3 rfl (fun _=>rfl) rfl (Besides.here hBe) (Ext.refl _) rfl (by first | omega | (simp <;> omega)) ?_;rintro _ _ rfl
    refine Wo rfl (Ka (v:=u) rfl) <| Wo rfl (Ka (v:=.int _ _) rfl) ?_
    refine Kj rfl (opc4 (a:=v) (b:=.int _ _) (c:=u) (d:=.int _ _) Tryz.call121 rfl rfl rfl rfl) (k3 _ _ _ ((Mono.mono E5 h)) ((Mono.mono E5 h'))) ?_;rintro _ w6 ⟨rfl,E6⟩;have hs5:=E6.size
    refine Wo rfl (Jf rfl) <| Kd <| Jx rfl (fun h4=>?_) (fun h4=>?_);refine Kc rfl <| Wo rfl (Ka (v:=uk) rfl) <| Wo rfl (Ka (v:=u1) rfl) ?_
    refine Wo rfl (Ka (v:=.int _ _) rfl) <| Ji Tryz.underlying88 Tryz.sizeOf3 Tryz.isAgg3 rfl (fun _=>rfl) rfl (Besides.here hBe) E6 rfl (by first | omega | (simp <;> omega)) ?_;rintro _ _ rfl
    refine Jo (ps:=[(0,.int _ _)]) (cs:=[_]) rfl Tryz.underlying88 Tryz.sizeOf3 Tryz.zeroValue3 rfl rfl rfl rfl ?_;rintro b2 w7 hb2 E7 hB1 hHb2;have hlb2:=hB1.lt;have hs6:=E7.size
    refine Jv rfl el88 rfl rfl hB1 (hO3.toB.ext (E6.trans E7)) Owned.int (Nat.le_refl _) (by first | omega | (simp <;> omega)) (by omega) (by omega) ((E5.trans E6).trans E7) (by omega) ?_;have hT1:=(hO3.toB.ext (E6.trans E7))
    rintro v1 w8 hO3 E8 M1;have hBe:=(hBe.ext (E6.trans E7)).moves M1;have hB1:=hB1.moves M1 hT1 (by omega);have hs7:=E8.size;refine Wo rfl (Kb (v:=v1) rfl) <| Kd <| Kc rfl ?_
    refine Wo rfl (Ka (v:=.int _ _) rfl) <| Wo rfl (Kw rfl rfl (by omega)) ?_;refine Wo rfl (Kb (v:=.int _ _) rfl) <| Kd ?_;rotate_left;contradiction;(exfalso;omega)
   refine ⟨((k+1,v1,L++[(arr p a)[k]])),by repeat (first | exact trivial | refine And.intro rfl ?_),by repeat (first | with_reducible exact Same.refl | refine Same.upd rfl ?_ | refine Same.upds rfl ?_ | refine Same.mix rfl ?_),?_,?_⟩
   ·refine ⟨by exact E8,by omega,?_,by exact hBe,?_⟩
    ·rw [ints_append,show ints [(arr p a)[k]]=[(ints (arr p a))[k]'(by omega)] by rw [hgk];rfl]
     assumption
    ·rw [hL,hts,List.filter_append];simp [hB]
   ·simp only;omega
 ·obtain rfl:k=(arr p a).length:=by omega
  rw [List.take_length] at hL
  have hLm : ∀ x ∈ L,x < p.length:=fun x hx=>arr_lt ha.1.gr la (List.mem_filter.1 (hL ▸ hx)).1
  have rL:=hO3.read
  have rA:=hBe.here
  clear hO3 hBe
  have hpp:=ha.1.gr
  have k1 : ∀ (w:World) (v u vl vr:Value),ESl Ints w v p→ESl Ints w u []→Ints w vl (ints L)→Ints w vr []→Does Tryz.prog 176 [v,u,vl,vr] w (RetO w XR (put (bes p []) (L++([]:List Nat).map (p.length + ·)))):=fun w v u vl vr h1 h2 h3 h4 =>
   l6Put_ok w v u vl vr p [] _ [] h1 h2 h3 h4 ha.1 (.inr rfl) hLm (fun x hx=>by cases hx) (by omega) (by simp)
  have k2 : ∀ (w:World) (v:Value),ESl Ints w v (put (bes p []) (L++([]:List Nat).map (p.length + ·)))→Does Tryz.prog 175 [v] w (RetOB w XR (og (wosV p a q b)) (wosV p a q b).isSome):=fun w v h=>by
   rw [wosV_eq,← hL]
   exact l6Least_put w v _ _ h (by rw [bes_nil];exact hpp) (by rw [bes_nil];omega)
  focus
   have szE5:=E5.size;have szE0:=E0.size;have szE4:=E4.size;have szE3:=E3.size;have szE2:=E2.size;have szE1:=E1.size;refine Ke <| Ke <| Kc rfl ?_
   refine Wo rfl (Ka (v:=.int _ _) rfl) <| Wo rfl (Ka (v:=u1) rfl) <| Wo rfl (Ko Tryz.underlying88 rfl rA) <| Wo rfl (Ks rfl rfl) <| Kd ?_
   refine Kg rfl (fun h3=>?_) (fun h3=>?_);(exfalso;omega);refine Jg ?_;refine exitX_same ?_;refine Ke <| Kc rfl <| Wo rfl (Ka (v:=v) rfl) ?_
   refine Js (XSl 3 XInt) rfl el23 Tryz.sizeOf88 ?_;rintro b2 w6 hb2 b2lt E6 hO1;have hs5:=E6.size;refine Wo rfl (Ka (v:=uk) rfl) <| Js XInt rfl el88 Tryz.sizeOf3 ?_;rintro b3 w7 hb3 b3lt E7 hO2
   have hs6:=E7.size
   refine Kj rfl (opc4 (a:=v) (b:=.slice _ _ _) (c:=uk) (d:=.slice _ _ _) Tryz.call176 rfl rfl rfl rfl) (k1 _ _ _ _ _ ((Mono.mono ((E5.trans E6).trans E7) h)) ((Mono.mono E7 (Owned.read hO1))) ((Mono.mono (E6.trans E7) rL)) ((Owned.read hO2))) ?_
   rintro u2 w8 ⟨E8,hO3⟩;have hs7:=E8.size;refine Kj rfl (Jk (a:=u2) Tryz.call175 rfl) (k2 _ _ ((Owned.read hO3))) ?_;rintro _ w9 ⟨u3,rfl,E9,hO4⟩;have hs8:=E9.size;refine Wo rfl (Kk (v:=u3) rfl rfl) ?_
   refine Wo rfl (Kk (v:=.bool _) rfl rfl) <| Wo rfl (Kb (v:=u3) rfl) <| Wo rfl (Kb (v:=.bool _) rfl) <| Kd <| Ja ?_
   refine at_ret (v:=.tuple #[u3,.bool _]) rfl ?_;exact ⟨_,rfl,((((E5.trans E6).trans E7).trans E8).trans E9),hO4.toB.o.mono (by omega)⟩
theorem l11Rows_ok (w:World) (v:Value) (p:List (List Int)) (h:ESl Ints w v p) (hp:p.length≤100) (hr : ∀ r ∈ p,r.length≤100):Does Tryz.prog 113 [v] w (RetO w XR p):=by
 have hle:=h.le
 refine Jc Tryz.func113 rfl Tryz.results113 Tryz.ntmps113 rfl ?_
 focus
  refine Ke <| Kc rfl <| Wo rfl (Kb (v:=.slice _ _ _) rfl) <| Kd <| Ke <| Kc rfl <| Js (XSl 3 XInt) rfl el23 Tryz.sizeOf88 ?_
  rintro b1 w1 hb1 b1lt E1 hO1;have hs1:=E1.size;refine Wo rfl (Kb (v:=.slice _ _ _) rfl) <| Kd <| Ke <| Ke <| Kc rfl <| Wo rfl (Kb (v:=.int _ _) rfl) ?_
  refine Kd <| Kr ?_
 refine Jh [3,4,6,7,8,9,10,11,12,13,14,15,16,17,18,19,20] (fun ((k,u):Nat × Value)=>[(4,.int .i64 (k:Nat)),(3,u)]) (fun (k,u) w'=>Ext w w'∧k≤p.length∧Owned w.heap.size XR w' u (p.take k)) (fun x=>p.length - x.1) (0,.slice (some ⟨b1,0,none⟩) 0 0) (by repeat (first | exact trivial | refine And.intro rfl ?_)) ?_ ?_
 ·exact ⟨by exact E1,Nat.zero_le _,by simpa using hO1⟩
 clear hO1
 rintro ⟨k,u⟩ ρj w2 ⟨E2,hk,hO1⟩
 have hlt':(p.take k).length=k:=by simp;omega
 by_cases hlt:k < p.length
 ·have hrl:=hr _ (List.getElem_mem hlt)
  have heldS:w=w:=rfl
  have litown:True:=trivial
  focus
   have szE2:=E2.size;have szE1:=E1.size;refine Ke <| Ke <| Kc rfl <| Wo rfl (Ka (v:=.int _ _) rfl) <| Wo rfl (Ka (v:=v) rfl) ?_
   refine Wo rfl (Ko Tryz.underlying23 rfl h) <| Wo rfl (Ks rfl rfl) <| Kd <| Kg rfl (fun h1=>?_) (fun h1=>?_);refine Kt ?_;refine Ke <| Kr ?_
   refine Kc rfl <| Wo rfl (Ka (v:=u) rfl) <| Js XInt rfl el88 Tryz.sizeOf3 ?_;rintro b2 w3 hb2 b2lt E3 hO2;have hs2:=E3.size;refine Wo rfl (Ka (v:=v) rfl) ?_
   refine Wo rfl (Ka (v:=.int _ _) rfl) <| Ji Tryz.underlying23 Tryz.sizeOf88 Tryz.isAgg88 rfl (fun _=>rfl) rfl h (E2.trans E3) rfl (by first | omega | (simp <;> omega)) ?_;rintro _ u1 hu1
   refine Wo_appS rfl el88 rfl rfl (Mono.mono (E2.trans E3) hu1) hO2.toB (by first | omega | (simp <;> omega)) (by omega) (by omega) (E2.trans E3) (by omega) ?_;have hT1:=hO2.toB;rintro v1 w4 hO2 E4 M1
   have E5:=M1.ext hT1 E3 (by omega);have szE5:=E5.size;have hO1:=(hO1.toB.ext E3).moves M1 hT1 (by omega);have hs3:=E4.size;have szM1:=M1.1.size;have icv1:=OwnedB.isC (Owned.toB hO2)
   refine Jz rfl Tryz.underlying23 Tryz.sizeOf88 Tryz.zeroValue88 rfl (OwnedB.isC hO2.toB) rfl ?_;rintro b3 w5 hb3 E6 hB1 hHb3;have hlb3:=hB1.lt;have hs4:=E6.size
   refine Jv rfl el23 rfl rfl hB1 (hO1.ext E6) (hO2.toB.ext E6).o (by omega) (by first | omega | (simp <;> omega)) (by omega) (by omega) (E4.trans E6) (by omega) ?_;have hT2:=(hO1.ext E6);rintro v2 w6 hO1 E7 M2
   have hO2:=(hO2.toB.ext E6).moves M2 hT2 (by omega);have hB1:=hB1.moves M2 hT2 (by omega);have hs5:=E7.size;have szM2:=M2.1.size;have icv2:=OwnedB.isC (Owned.toB hO1);refine Wo rfl (Kb (v:=v2) rfl) ?_
   refine Kd <| Kc rfl <| Wo rfl (Ka (v:=.int _ _) rfl) <| Wo rfl (Kw rfl rfl (by omega)) ?_;refine Wo rfl (Kb (v:=.int _ _) rfl) <| Kd ?_;rotate_left
   (exfalso;omega)
  refine ⟨((k+1,v2)),by repeat (first | exact trivial | refine And.intro rfl ?_),by repeat (first | with_reducible exact Same.refl | refine Same.upd rfl ?_ | refine Same.upds rfl ?_ | refine Same.mix rfl ?_),?_,?_⟩
  ·refine ⟨by exact E7,by omega,?_⟩
   rw [take_snoc _ _ hlt]
   exact hO1
  ·simp only;omega
 ·obtain rfl:k=p.length:=by omega
  rw [List.take_length] at hO1
  focus
   have szE2:=E2.size;have szE1:=E1.size;refine Ke <| Ke <| Kc rfl <| Wo rfl (Ka (v:=.int _ _) rfl) <| Wo rfl (Ka (v:=v) rfl) ?_
   refine Wo rfl (Ko Tryz.underlying23 rfl h) <| Wo rfl (Ks rfl rfl) <| Kd <| Kg rfl (fun h1=>?_) (fun h1=>?_);(exfalso;omega);refine Jg ?_;refine exitX_same ?_;refine Ke ?_
   refine Kc rfl <| Wo rfl (Ka (v:=u) rfl) <| Wo rfl (Kb (v:=u) rfl) <| Kd <| Ja ?_;exact ⟨E2,hO1.toB.o.mono (by omega)⟩
theorem l11Copy_ok (w:World) (u1 u2:Value) (now:List (List Int)) (past:List (List (List Int))) (h1:ESl Ints w u1 now) (h2:ESl (ESl Ints) w u2 past) (hn:now.length≤100∧∀ r ∈ now,r.length≤100) (hpl:past.length≤100) (hp : ∀ p ∈ past,p.length≤100∧∀ r ∈ p,r.length≤100) :
  Does Tryz.prog 60 [.agg #[u1,u2]] w (RetDk w 23 88 3 now past):=by
 have hle:=h2.le
 have k1 : ∀ (w:World) (v:Value),ESl Ints w v now→Does Tryz.prog 113 [v] w (RetO w XR now):=fun w v h=>l11Rows_ok w v now h hn.1 hn.2
 have k2 : ∀ (k:Nat) (hk:k < past.length) (w:World) (v:Value),ESl Ints w v past[k]→Does Tryz.prog 113 [v] w (RetO w XR past[k]):=fun k hk w v h=>l11Rows_ok w v _ h (hp _ (List.getElem_mem hk)).1 (hp _ (List.getElem_mem hk)).2
 refine fn_of_Wc Tryz.func60 rfl Tryz.results60 Tryz.ntmps60 rfl Tryz.isAgg26 Tryz.sizeOf26 ?_
 have litown:True:=trivial
 focus
  refine Ke <| Kc rfl <| Jp rfl rfl rfl ?_;rintro b1 w1 hb1 E1 hB1;have hlb1:=hB1.lt;have hs1:=E1.size;refine Je rfl flat26 ?_;rintro b2 w2 hb2 E2 hB2;have hlb2:=hB2.lt
  have hs2:=E2.size;refine Kd <| Ke <| Kc rfl <| Wo rfl (Kf Tryz.underlying26 rfl rfl Tryz.sizeOf23 rfl) ?_
  refine Wo (v:=u1) rfl (Km Tryz.isAgg23 rfl ((hB1.ext E2).cell rfl)) <| Kj rfl (Jk (a:=u1) Tryz.call113 rfl) (k1 _ _ ((Mono.mono (E1.trans E2) h1))) ?_;rintro u3 w3 ⟨E3,hO1⟩
  have ichO1:=OwnedB.isC (Owned.toB hO1);have hs3:=E3.size;refine Wo rfl (opv_buildF0 flat26 rfl (OwnedB.isC hO1.toB)) <| Je rfl flat26 ?_;rintro b3 w4 hb3 E4 hB3;have hlb3:=hB3.lt;have hs4:=E4.size
  refine Jl rfl Tryz.sizeOf26 rfl rfl (by first | rfl | assumption) (by first | rfl | assumption) hB3 (by omega) (((E1.trans E2).trans E3).trans E4) ?_;rintro w5 E5 hB3 K1 hz1
  have E6:=((E2.trans E3).trans E4).wroteAt (((E1.trans E2).trans E3).trans E4) E5 K1 hz1 (by omega);have szE6:=E6.size;have E7:=(E3.trans E4).wroteAt (((E1.trans E2).trans E3).trans E4) E5 K1 hz1 (by omega)
  have szE7:=E7.size;have E8:=E4.wroteAt (((E1.trans E2).trans E3).trans E4) E5 K1 hz1 (by omega);have szE8:=E8.size;simp only [List.set] at hB3;have hB1:=(hB1.ext ((E2.trans E3).trans E4)).of_heap (K1 _ (by omega))
  have hB2:=(hB2.ext (E3.trans E4)).of_heap (K1 _ (by omega));have hO1:=(hO1.toB.ext E4).wrote K1 (by omega);refine Kd <| Ke <| Ke <| Kc rfl ?_
  refine Wo rfl (Kb (v:=.int _ _) rfl) <| Kd <| Kr ?_
 have hO0:Owned w4.heap.size (XSl 23 XR) w5 (.slice none 0 0) ([]:List (List (List Int))):=Owned.nil
 have hN:=hO1
 clear hO1 hB1 hB2 k1
 refine Jh [4,9,10,11,12,13,14,15,16,17,18,19,20,21,22,23,24,25,26] (fun ((k,u):Nat × Value)=>[(4,.int .i64 (k:Nat))]) (fun (k,u) w'=>Ext w3 w'∧k≤past.length∧w4.heap.size≤w'.heap.size∧Blk w' b3 [u3,u]∧Owned w4.heap.size (XSl 23 XR) w' u (past.take k)∧OwnedB w2.heap.size w3.heap.size XR w' u3 now) (fun x=>past.length - x.1) (0,.slice none 0 0) (by repeat (first | exact trivial | refine And.intro rfl ?_)) ?_ ?_
 ·exact ⟨by exact E8,Nat.zero_le _,by omega,hB3,by simpa using hO0,hN⟩
 clear hO0 hB3 hN
 rintro ⟨k,u⟩ ρj w6 ⟨E6,hk,hsz,hB4,hO1,hN⟩
 have icu:isCell u=true:=OwnedB.isC hO1.toB
 have hlt':(past.take k).length=k:=by simp;omega
 by_cases hlt:k < past.length
 ·have k2k:=k2 k hlt
  have ht:=take_snoc _ _ hlt
  have heldS:w=w:=rfl
  focus
   have szE6:=E6.size;have szE8:=E8.size;have szE7:=E7.size;have szE6:=E6.size;have szE5:=E5.size;have szE4:=E4.size;have szE3:=E3.size;have szE2:=E2.size;have szE1:=E1.size;refine Ke <| Ke ?_
   refine Kc rfl <| Wo rfl (Ka (v:=.int _ _) rfl) <| Wo rfl (Kf Tryz.underlying26 rfl rfl Tryz.sizeOf24 rfl) ?_
   refine Wo (v:=u2) rfl (Km Tryz.isAgg24 rfl ((hB1.ext ((E2.trans E3).trans E6)).cell rfl)) <| Wo rfl (Ko Tryz.underlying24 rfl h2) <| Wo rfl (Ks rfl rfl) <| Kd ?_
   refine Kg rfl (fun h3=>?_) (fun h3=>?_);refine Kt ?_;refine Ke <| Kr <| W_held (fun w'=>Ext w w') mixed rfl (by kernel_rfl) ?_;intro w7 E9 K2 hz2;have hs5:=E9.size
   refine Kp 0 rfl (by kernel_rfl) (by kernel_rfl) rfl (fun _ _=>Kf Tryz.underlying26 rfl rfl Tryz.sizeOf24 rfl) ((((E1.trans E2).trans E3).trans E6).trans E9) ?_
   refine Kp 2 rfl (by kernel_rfl) (by kernel_rfl) rfl (fun _ _=>Kf Tryz.underlying26 rfl rfl Tryz.sizeOf24 rfl) ((((E1.trans E2).trans E3).trans E6).trans E9) ?_
   refine Kp 4 rfl (by kernel_rfl) (by kernel_rfl) rfl (fun _ _=>Ka (v:=.int _ _) rfl) ((((E1.trans E2).trans E3).trans E6).trans E9) ?_;refine Ku (rs:=[1,3]) (by kernel_rfl) rfl ?_;refine Kh rfl ?_ ?_
   refine Wo (v:=u) rfl (Km Tryz.isAgg24 rfl ((hB4.ext E9).cell rfl)) <| Kd ?_;refine ⟨((((E1.trans E2).trans E3).trans E6).trans E9),?_⟩;refine Ku (rs:=[3]) (by kernel_rfl) rfl ?_
   refine Kh rfl ?_ ?_;refine Wo (v:=u2) rfl (Km Tryz.isAgg24 rfl ((hB1.ext (((E2.trans E3).trans E6).trans E9)).cell rfl)) <| Kd ?_;refine ⟨((((E1.trans E2).trans E3).trans E6).trans E9),?_⟩
   refine Wh_get 5 6 rfl (by kernel_rfl) (by kernel_rfl) rfl rfl (by kernel_rfl) (by kernel_rfl) (fun _=>rfl) Tryz.underlying24 Tryz.sizeOf23 Tryz.isAgg23 rfl h2 (fun w' hw'=>Ext.trans (Ext.refl _) hw') rfl (by first | omega | (simp <;> omega)) ((((E1.trans E2).trans E3).trans E6).trans E9) ?_
   rintro _ u4 hu1;refine Ku (rs:=[7]) (by kernel_rfl) rfl ?_;refine Kh rfl ?_ ?_;refine Kj rfl (Jk (a:=u4) Tryz.call113 rfl) (k2k _ _ ((Mono.mono ((((E1.trans E2).trans E3).trans E6).trans E9) hu1))) ?_
   rintro u5 w8 ⟨E10,hO2⟩;have ichO2:=OwnedB.isC (Owned.toB hO2);have hs6:=E10.size;refine Kd ?_;refine ⟨(((((E1.trans E2).trans E3).trans E6).trans E9).trans E10),?_⟩;refine Ku (rs:=[8]) (by kernel_rfl) rfl ?_
   refine Kh rfl ?_ ?_;refine Jz rfl Tryz.underlying24 Tryz.sizeOf23 Tryz.zeroValue23 rfl (OwnedB.isC hO2.toB) rfl ?_;rintro b4 w9 hb4 E11 hB5 hHb4;have hlb4:=hB5.lt;have hs7:=E11.size;refine Kd ?_
   refine ⟨((((((E1.trans E2).trans E3).trans E6).trans E9).trans E10).trans E11),?_⟩;refine Ku (rs:=[9]) (by kernel_rfl) rfl ?_;refine Kh rfl ?_ ?_
   refine Jv rfl el24 rfl rfl hB5 (hO1.toB.ext ((E9.trans E10).trans E11)) (hO2.toB.ext E11).o (by omega) (by first | omega | (simp <;> omega)) (by omega) (by omega) ((((((E1.trans E2).trans E3).trans E6).trans E9).trans E10).trans E11) (by omega) ?_
   have hT1:=(hO1.toB.ext ((E9.trans E10).trans E11));rintro v1 w10 hO1 E12 M1;have E13:=M1.ext hT1 (((((E2.trans E3).trans E6).trans E9).trans E10).trans E11) (by omega);have szE13:=E13.size
   have E14:=M1.ext hT1 ((((E3.trans E6).trans E9).trans E10).trans E11) (by omega);have szE14:=E14.size;have E15:=M1.ext hT1 (((E6.trans E9).trans E10).trans E11) (by omega);have szE15:=E15.size
   have hB1:=(hB1.ext (((((E2.trans E3).trans E6).trans E9).trans E10).trans E11)).moves M1 hT1 (by omega);have hB2:=(hB2.ext ((((E3.trans E6).trans E9).trans E10).trans E11)).moves M1 hT1 (by omega)
   have hB4:=(hB4.ext ((E9.trans E10).trans E11)).moves M1 hT1 (by omega);have hN:=(hN.ext ((E9.trans E10).trans E11)).moves M1 hT1 (by omega);have hO2:=(hO2.toB.ext E11).moves M1 hT1 (by omega)
   have hB5:=hB5.moves M1 hT1 (by omega);have hs8:=E12.size;have szM1:=M1.1.size;have icv1:=OwnedB.isC (Owned.toB hO1);refine Kd ?_;refine ⟨E12,?_⟩
   refine Kp 10 rfl (by kernel_rfl) (by kernel_rfl) rfl (fun _ _=>Kf Tryz.underlying26 rfl rfl Tryz.sizeOf24 rfl) E12 ?_;refine Ku (rs:=[11]) (by kernel_rfl) rfl ?_;refine Kh rfl ?_ ?_
   refine Wo_st (v:=v1) rfl Tryz.sizeOf24 rfl rfl (OwnedB.isC hO1.toB) hB4 (by simp) (by omega) E12 ?_;rintro w11 E16 hB4 K3 hz3;have E17:=E13.wroteAt E12 E16 K3 hz3 (by omega);have szE17:=E17.size
   have E18:=E14.wroteAt E12 E16 K3 hz3 (by omega);have szE18:=E18.size;have E19:=E15.wroteAt E12 E16 K3 hz3 (by omega);have szE19:=E19.size;simp only [List.set] at hB4;have hO1:=hO1.toB.wrote K3 (by omega)
   have hB1:=hB1.of_heap (K3 _ (by omega));have hB2:=hB2.of_heap (K3 _ (by omega));have hN:=hN.wrote K3 (by omega);have hO2:=hO2.wrote K3 (by omega);have hB5:=hB5.of_heap (K3 _ (by omega));refine Kd ?_
   refine ⟨E16,?_⟩;refine Jm (by kernel_rfl) ?_;refine Kc rfl <| Wo rfl (Ka (v:=.int _ _) rfl) <| Wo rfl (Kw rfl rfl (by omega)) ?_;refine Wo rfl (Kb (v:=.int _ _) rfl) ?_
   refine Kd ?_;rotate_left;exact Kl;exact Kl;exact Kl;exact Kl;exact Kl;refine Kh rfl ?_ ?_
   refine Wo (v:=u2) rfl (Km Tryz.isAgg24 rfl ((hB1.ext (((E2.trans E3).trans E6).trans E9)).cell rfl)) <| Kd ?_;refine ⟨((((E1.trans E2).trans E3).trans E6).trans E9),?_⟩
   refine Wh_get 5 6 rfl (by kernel_rfl) (by kernel_rfl) rfl rfl (by kernel_rfl) (by kernel_rfl) (fun _=>rfl) Tryz.underlying24 Tryz.sizeOf23 Tryz.isAgg23 rfl h2 (fun w' hw'=>Ext.trans (Ext.refl _) hw') rfl (by first | omega | (simp <;> omega)) ((((E1.trans E2).trans E3).trans E6).trans E9) ?_
   rintro _ u4 hu1;refine Ku (rs:=[1,7]) (by kernel_rfl) rfl ?_;refine Kh rfl ?_ ?_;refine Wo (v:=u) rfl (Km Tryz.isAgg24 rfl ((hB4.ext E9).cell rfl)) <| Kd ?_
   refine ⟨((((E1.trans E2).trans E3).trans E6).trans E9),?_⟩;refine Ku (rs:=[7]) (by kernel_rfl) rfl ?_;refine Kh rfl ?_ ?_
   refine Kj rfl (Jk (a:=u4) Tryz.call113 rfl) (k2k _ _ ((Mono.mono ((((E1.trans E2).trans E3).trans E6).trans E9) hu1))) ?_;rintro u5 w8 ⟨E10,hO2⟩;have ichO2:=OwnedB.isC (Owned.toB hO2);have hs6:=E10.size
   refine Kd ?_;refine ⟨(((((E1.trans E2).trans E3).trans E6).trans E9).trans E10),?_⟩;refine Ku (rs:=[8]) (by kernel_rfl) rfl ?_;refine Kh rfl ?_ ?_
   refine Jz rfl Tryz.underlying24 Tryz.sizeOf23 Tryz.zeroValue23 rfl (OwnedB.isC hO2.toB) rfl ?_;rintro b4 w9 hb4 E11 hB5 hHb4;have hlb4:=hB5.lt;have hs7:=E11.size;refine Kd ?_
   refine ⟨((((((E1.trans E2).trans E3).trans E6).trans E9).trans E10).trans E11),?_⟩;refine Ku (rs:=[9]) (by kernel_rfl) rfl ?_;refine Kh rfl ?_ ?_
   refine Jv rfl el24 rfl rfl hB5 (hO1.toB.ext ((E9.trans E10).trans E11)) (hO2.toB.ext E11).o (by omega) (by first | omega | (simp <;> omega)) (by omega) (by omega) ((((((E1.trans E2).trans E3).trans E6).trans E9).trans E10).trans E11) (by omega) ?_
   have hT1:=(hO1.toB.ext ((E9.trans E10).trans E11));rintro v1 w10 hO1 E12 M1;have E13:=M1.ext hT1 (((((E2.trans E3).trans E6).trans E9).trans E10).trans E11) (by omega);have szE13:=E13.size
   have E14:=M1.ext hT1 ((((E3.trans E6).trans E9).trans E10).trans E11) (by omega);have szE14:=E14.size;have E15:=M1.ext hT1 (((E6.trans E9).trans E10).trans E11) (by omega);have szE15:=E15.size
   have hB1:=(hB1.ext (((((E2.trans E3).trans E6).trans E9).trans E10).trans E11)).moves M1 hT1 (by omega);have hB2:=(hB2.ext ((((E3.trans E6).trans E9).trans E10).trans E11)).moves M1 hT1 (by omega)
   have hB4:=(hB4.ext ((E9.trans E10).trans E11)).moves M1 hT1 (by omega);have hN:=(hN.ext ((E9.trans E10).trans E11)).moves M1 hT1 (by omega);have hO2:=(hO2.toB.ext E11).moves M1 hT1 (by omega)
   have hB5:=hB5.moves M1 hT1 (by omega);have hs8:=E12.size;have szM1:=M1.1.size;have icv1:=OwnedB.isC (Owned.toB hO1);refine Kd ?_;refine ⟨E12,?_⟩
   refine Kp 10 rfl (by kernel_rfl) (by kernel_rfl) rfl (fun _ _=>Kf Tryz.underlying26 rfl rfl Tryz.sizeOf24 rfl) E12 ?_;refine Ku (rs:=[11]) (by kernel_rfl) rfl ?_;refine Kh rfl ?_ ?_
   refine Wo_st (v:=v1) rfl Tryz.sizeOf24 rfl rfl (OwnedB.isC hO1.toB) hB4 (by simp) (by omega) E12 ?_;rintro w11 E16 hB4 K3 hz3;have E17:=E13.wroteAt E12 E16 K3 hz3 (by omega);have szE17:=E17.size
   have E18:=E14.wroteAt E12 E16 K3 hz3 (by omega);have szE18:=E18.size;have E19:=E15.wroteAt E12 E16 K3 hz3 (by omega);have szE19:=E19.size;simp only [List.set] at hB4;have hO1:=hO1.toB.wrote K3 (by omega)
   have hB1:=hB1.of_heap (K3 _ (by omega));have hB2:=hB2.of_heap (K3 _ (by omega));have hN:=hN.wrote K3 (by omega);have hO2:=hO2.wrote K3 (by omega);have hB5:=hB5.of_heap (K3 _ (by omega));refine Kd ?_
   refine ⟨E16,?_⟩;refine Jm (by kernel_rfl) ?_;refine Kc rfl <| Wo rfl (Ka (v:=.int _ _) rfl) <| Wo rfl (Kw rfl rfl (by omega)) ?_;refine Wo rfl (Kb (v:=.int _ _) rfl) ?_
   refine Kd ?_;rotate_left;exact Kl;exact Kl;exact Kl;exact Kl;refine Kh rfl ?_ ?_
   refine Kj rfl (Jk (a:=u4) Tryz.call113 rfl) (k2k _ _ ((Mono.mono ((((E1.trans E2).trans E3).trans E6).trans E9) hu1))) ?_;rintro u5 w8 ⟨E10,hO2⟩;have ichO2:=OwnedB.isC (Owned.toB hO2);have hs6:=E10.size
   refine Kd ?_;refine ⟨(((((E1.trans E2).trans E3).trans E6).trans E9).trans E10),?_⟩;refine Ku (rs:=[1,8]) (by kernel_rfl) rfl ?_;refine Kh rfl ?_ ?_
   refine Wo (v:=u) rfl (Km Tryz.isAgg24 rfl ((hB4.ext (E9.trans E10)).cell rfl)) <| Kd ?_;refine ⟨(((((E1.trans E2).trans E3).trans E6).trans E9).trans E10),?_⟩;refine Ku (rs:=[8]) (by kernel_rfl) rfl ?_
   refine Kh rfl ?_ ?_;refine Jz rfl Tryz.underlying24 Tryz.sizeOf23 Tryz.zeroValue23 rfl (OwnedB.isC hO2.toB) rfl ?_;rintro b4 w9 hb4 E11 hB5 hHb4;have hlb4:=hB5.lt;have hs7:=E11.size;refine Kd ?_
   refine ⟨((((((E1.trans E2).trans E3).trans E6).trans E9).trans E10).trans E11),?_⟩;refine Ku (rs:=[9]) (by kernel_rfl) rfl ?_;refine Kh rfl ?_ ?_
   refine Jv rfl el24 rfl rfl hB5 (hO1.toB.ext ((E9.trans E10).trans E11)) (hO2.toB.ext E11).o (by omega) (by first | omega | (simp <;> omega)) (by omega) (by omega) ((((((E1.trans E2).trans E3).trans E6).trans E9).trans E10).trans E11) (by omega) ?_
   have hT1:=(hO1.toB.ext ((E9.trans E10).trans E11));rintro v1 w10 hO1 E12 M1;have E13:=M1.ext hT1 (((((E2.trans E3).trans E6).trans E9).trans E10).trans E11) (by omega);have szE13:=E13.size
   have E14:=M1.ext hT1 ((((E3.trans E6).trans E9).trans E10).trans E11) (by omega);have szE14:=E14.size;have E15:=M1.ext hT1 (((E6.trans E9).trans E10).trans E11) (by omega);have szE15:=E15.size
   have hB1:=(hB1.ext (((((E2.trans E3).trans E6).trans E9).trans E10).trans E11)).moves M1 hT1 (by omega);have hB2:=(hB2.ext ((((E3.trans E6).trans E9).trans E10).trans E11)).moves M1 hT1 (by omega)
   have hB4:=(hB4.ext ((E9.trans E10).trans E11)).moves M1 hT1 (by omega);have hN:=(hN.ext ((E9.trans E10).trans E11)).moves M1 hT1 (by omega);have hO2:=(hO2.toB.ext E11).moves M1 hT1 (by omega)
   have hB5:=hB5.moves M1 hT1 (by omega);have hs8:=E12.size;have szM1:=M1.1.size;have icv1:=OwnedB.isC (Owned.toB hO1);refine Kd ?_;refine ⟨E12,?_⟩
   refine Kp 10 rfl (by kernel_rfl) (by kernel_rfl) rfl (fun _ _=>Kf Tryz.underlying26 rfl rfl Tryz.sizeOf24 rfl) E12 ?_;refine Ku (rs:=[11]) (by kernel_rfl) rfl ?_;refine Kh rfl ?_ ?_
   refine Wo_st (v:=v1) rfl Tryz.sizeOf24 rfl rfl (OwnedB.isC hO1.toB) hB4 (by simp) (by omega) E12 ?_;rintro w11 E16 hB4 K3 hz3;have E17:=E13.wroteAt E12 E16 K3 hz3 (by omega);have szE17:=E17.size
   have E18:=E14.wroteAt E12 E16 K3 hz3 (by omega);have szE18:=E18.size;have E19:=E15.wroteAt E12 E16 K3 hz3 (by omega);have szE19:=E19.size;simp only [List.set] at hB4;have hO1:=hO1.toB.wrote K3 (by omega)
   have hB1:=hB1.of_heap (K3 _ (by omega));have hB2:=hB2.of_heap (K3 _ (by omega));have hN:=hN.wrote K3 (by omega);have hO2:=hO2.wrote K3 (by omega);have hB5:=hB5.of_heap (K3 _ (by omega));refine Kd ?_
   refine ⟨E16,?_⟩;refine Jm (by kernel_rfl) ?_;refine Kc rfl <| Wo rfl (Ka (v:=.int _ _) rfl) <| Wo rfl (Kw rfl rfl (by omega)) ?_;refine Wo rfl (Kb (v:=.int _ _) rfl) ?_
   refine Kd ?_;rotate_left;exact Kl;exact Kl;exact Kl;refine Kh rfl ?_ ?_;refine Jz rfl Tryz.underlying24 Tryz.sizeOf23 Tryz.zeroValue23 rfl (OwnedB.isC hO2.toB) rfl ?_
   rintro b4 w9 hb4 E11 hB5 hHb4;have hlb4:=hB5.lt;have hs7:=E11.size;refine Kd ?_;refine ⟨((((((E1.trans E2).trans E3).trans E6).trans E9).trans E10).trans E11),?_⟩;refine Ku (rs:=[1]) (by kernel_rfl) rfl ?_
   refine Kh rfl ?_ ?_;refine Wo (v:=u) rfl (Km Tryz.isAgg24 rfl ((hB4.ext ((E9.trans E10).trans E11)).cell rfl)) <| Kd ?_
   refine ⟨((((((E1.trans E2).trans E3).trans E6).trans E9).trans E10).trans E11),?_⟩;refine Ku (rs:=[9]) (by kernel_rfl) rfl ?_;refine Kh rfl ?_ ?_
   refine Jv rfl el24 rfl rfl hB5 (hO1.toB.ext ((E9.trans E10).trans E11)) (hO2.toB.ext E11).o (by omega) (by first | omega | (simp <;> omega)) (by omega) (by omega) ((((((E1.trans E2).trans E3).trans E6).trans E9).trans E10).trans E11) (by omega) ?_
   have hT1:=(hO1.toB.ext ((E9.trans E10).trans E11));rintro v1 w10 hO1 E12 M1;have E13:=M1.ext hT1 (((((E2.trans E3).trans E6).trans E9).trans E10).trans E11) (by omega);have szE13:=E13.size
   have E14:=M1.ext hT1 ((((E3.trans E6).trans E9).trans E10).trans E11) (by omega);have szE14:=E14.size;have E15:=M1.ext hT1 (((E6.trans E9).trans E10).trans E11) (by omega);have szE15:=E15.size
   have hB1:=(hB1.ext (((((E2.trans E3).trans E6).trans E9).trans E10).trans E11)).moves M1 hT1 (by omega);have hB2:=(hB2.ext ((((E3.trans E6).trans E9).trans E10).trans E11)).moves M1 hT1 (by omega)
   have hB4:=(hB4.ext ((E9.trans E10).trans E11)).moves M1 hT1 (by omega);have hN:=(hN.ext ((E9.trans E10).trans E11)).moves M1 hT1 (by omega);have hO2:=(hO2.toB.ext E11).moves M1 hT1 (by omega)
   have hB5:=hB5.moves M1 hT1 (by omega);have hs8:=E12.size;have szM1:=M1.1.size;have icv1:=OwnedB.isC (Owned.toB hO1);refine Kd ?_;refine ⟨E12,?_⟩
   refine Kp 10 rfl (by kernel_rfl) (by kernel_rfl) rfl (fun _ _=>Kf Tryz.underlying26 rfl rfl Tryz.sizeOf24 rfl) E12 ?_;refine Ku (rs:=[11]) (by kernel_rfl) rfl ?_;refine Kh rfl ?_ ?_
   refine Wo_st (v:=v1) rfl Tryz.sizeOf24 rfl rfl (OwnedB.isC hO1.toB) hB4 (by simp) (by omega) E12 ?_;rintro w11 E16 hB4 K3 hz3;have E17:=E13.wroteAt E12 E16 K3 hz3 (by omega);have szE17:=E17.size
   have E18:=E14.wroteAt E12 E16 K3 hz3 (by omega);have szE18:=E18.size;have E19:=E15.wroteAt E12 E16 K3 hz3 (by omega);have szE19:=E19.size;simp only [List.set] at hB4;have hO1:=hO1.toB.wrote K3 (by omega)
   have hB1:=hB1.of_heap (K3 _ (by omega));have hB2:=hB2.of_heap (K3 _ (by omega));have hN:=hN.wrote K3 (by omega);have hO2:=hO2.wrote K3 (by omega);have hB5:=hB5.of_heap (K3 _ (by omega));refine Kd ?_
   refine ⟨E16,?_⟩;refine Jm (by kernel_rfl) ?_;refine Kc rfl <| Wo rfl (Ka (v:=.int _ _) rfl) <| Wo rfl (Kw rfl rfl (by omega)) ?_;refine Wo rfl (Kb (v:=.int _ _) rfl) ?_
   refine Kd ?_;rotate_left;exact Kl;exact Kl;exact Kl;exact Kl;exact Kl;exact Kl;(exfalso;omega)
  ·refine ⟨((k+1,v1)),by repeat (first | exact trivial | refine And.intro rfl ?_),by repeat (first | with_reducible exact Same.refl | refine Same.upd rfl ?_ | refine Same.upds rfl ?_ | refine Same.mix rfl ?_),?_,?_⟩
   ·refine ⟨by exact E19,by omega,by omega,hB4,?_,hN⟩
    rw [ht];exact hO1.o
   ·simp only;omega
  ·refine ⟨((k+1,v1)),by repeat (first | exact trivial | refine And.intro rfl ?_),by repeat (first | with_reducible exact Same.refl | refine Same.upd rfl ?_ | refine Same.upds rfl ?_ | refine Same.mix rfl ?_),?_,?_⟩
   ·refine ⟨by exact E19,by omega,by omega,hB4,?_,hN⟩
    rw [ht];exact hO1.o
   ·simp only;omega
  ·refine ⟨((k+1,v1)),by repeat (first | exact trivial | refine And.intro rfl ?_),by repeat (first | with_reducible exact Same.refl | refine Same.upd rfl ?_ | refine Same.upds rfl ?_ | refine Same.mix rfl ?_),?_,?_⟩
   ·refine ⟨by exact E19,by omega,by omega,hB4,?_,hN⟩
    rw [ht];exact hO1.o
   ·simp only;omega
  ·refine ⟨((k+1,v1)),by repeat (first | exact trivial | refine And.intro rfl ?_),by repeat (first | with_reducible exact Same.refl | refine Same.upd rfl ?_ | refine Same.upds rfl ?_ | refine Same.mix rfl ?_),?_,?_⟩
   ·refine ⟨by exact E19,by omega,by omega,hB4,?_,hN⟩
    rw [ht];exact hO1.o
   ·simp only;omega
 ·obtain rfl:k=past.length:=by omega
  rw [List.take_length] at hO1
  focus
   have szE6:=E6.size;have szE8:=E8.size;have szE7:=E7.size;have szE6:=E6.size;have szE5:=E5.size;have szE4:=E4.size;have szE3:=E3.size;have szE2:=E2.size;have szE1:=E1.size;refine Ke <| Ke ?_
   refine Kc rfl <| Wo rfl (Ka (v:=.int _ _) rfl) <| Wo rfl (Kf Tryz.underlying26 rfl rfl Tryz.sizeOf24 rfl) ?_
   refine Wo (v:=u2) rfl (Km Tryz.isAgg24 rfl ((hB1.ext ((E2.trans E3).trans E6)).cell rfl)) <| Wo rfl (Ko Tryz.underlying24 rfl h2) <| Wo rfl (Ks rfl rfl) <| Kd ?_
   refine Kg rfl (fun h3=>?_) (fun h3=>?_);(exfalso;omega);refine Jg ?_;refine exitX_same ?_;refine Ke <| Kc rfl <| Wo (v:=.agg _) rfl (Jd Tryz.isAgg26 Tryz.sizeOf26 rfl hB4) ?_
   refine Jl rfl Tryz.sizeOf26 rfl rfl (by first | rfl | assumption) (by first | rfl | assumption) (hB2.ext (E3.trans E6)) (by omega) (((E1.trans E2).trans E3).trans E6) ?_;rintro w7 E9 hB2 K2 hz2
   have E10:=((E2.trans E3).trans E6).wroteAt (((E1.trans E2).trans E3).trans E6) E9 K2 hz2 (by omega);have szE10:=E10.size;have hB1:=(hB1.ext ((E2.trans E3).trans E6)).of_heap (K2 _ (by omega))
   have hB4:=hB4.of_heap (K2 _ (by omega));have hN:=hN.wrote K2 (by omega);have hO1:=hO1.toB.wrote K2 (by omega);refine Kd <| Ja ?_
  refine ⟨b2,u3,u,rfl,by assumption,u3,u,w3.heap.size,rfl,by exact E9,?_,hO1.o.mono (by omega),by omega,by omega⟩
  exact hN.wide (by omega) (Nat.le_refl _)
end Go.Proofs.YtbgpppaljpngmaaGreatDoor
