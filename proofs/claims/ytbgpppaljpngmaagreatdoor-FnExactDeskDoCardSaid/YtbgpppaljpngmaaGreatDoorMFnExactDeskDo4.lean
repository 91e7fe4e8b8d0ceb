/- Lemmas for FnExactDeskDo. -/
import Derived.Test.YtbgpppaljpngmaaGreatDoorMFnExactDeskDo3
set_option linter.unusedVariables false
set_option linter.unusedSimpArgs false
namespace Go.Hs
theorem XAll.imp {α : Type} {X Y:World→List Nat→Value→α→Prop} {w:World} (hXY : ∀ {f:List Nat} {c:Value} {x : α},X w f c x→Y w f c x) : ∀ {fs:List (List Nat)} {cs:List Value} {xs:List α},XAll X w fs cs xs→XAll Y w fs cs xs
 | [],[],[],_=>trivial
 | f::fs,c::cs,x::xs,h=>⟨hXY h.1,XAll.imp hXY h.2⟩
 | [],_::_,_,h=>h.elim
 | [],[],_::_,h=>h.elim
 | _::_,[],_,h=>h.elim
 | _::_,_::_,[],h=>h.elim
theorem Loc.xrd {α : Type} {X:World→List Nat→Value→α→Prop} {E:World→Value→α→Prop} [Loc X] [Shows X E] {w:World} {f:List Nat} {c:Value} {x : α} (h:X w f c x):XRd E w f c x:=⟨fun w1 hk=>Shows.shows (Loc.loc hk h),Loc.cell h,Loc.lt h⟩
def XDk (e:TypeId):World→List Nat→Value→(Value × List (List Int) × List (List (List Int)))→Prop:=fun w fp v x=>(∀ k ∈ fp,k < w.heap.size) ∧
 ∃ f1 cs fps,(∀ k ∈ v.ownBlock.toList++(f1++fps.flatten),k ∈ fp)∧(∀ k,v.ownBlock=some k→k ∉ f1++fps.flatten)∧XRd (ESl Ints) w f1 x.1 x.2.1∧w.ownsRow 0 e 1 v x.2.2.length cs∧XAll (XRd (ESl Ints)) w fps cs x.2.2
section
variable {e:TypeId} {lo hi:Nat} {w w' w0:World} {v u:Value} {now:List (List Int)} {past:List (List (List Int))}
theorem ownsRow_cell {n size:Nat} {xs:List Value} {base:Nat} (h:w.ownsRow base e size v n xs):isCell v=true:=by
 rcases h.2 with ⟨rfl,_⟩ | ⟨g,cap,cur,rfl,_⟩ <;> rfl
instance loc_XDk:Loc (XDk e):=⟨by
  rintro w w' fp v ⟨u,now,past⟩ hk ⟨h0,f1,cs,fps,h1,h2,h3,h4,h5⟩
  refine ⟨fun k hm=>?_,f1,cs,fps,h1,h2,Loc.loc (fun k hm=>hk k (h1 k (by simp [hm]))) h3,ownsRow_loc (fun k e=>hk k (h1 k (by simp [e]))) h4,h5.loc (fun k hm=>hk k (h1 k (by simp only [List.mem_append];exact .inr (.inr hm))))⟩
  have a1:=hk k hm
  have a2:=h0 k hm
  rw [Array.getElem?_eq_getElem a2] at a1
  exact (Array.getElem?_eq_some_iff.1 a1).1,fun h=>h.1,by
  rintro w fp v ⟨u,now,past⟩ ⟨h0,f1,cs,fps,h1,h2,h3,h4,h5⟩
  exact ownsRow_cell h4⟩
theorem OwnedB.dkNow (h:OwnedB lo hi (XDk e) w v (u,now,past)):OwnedB lo hi (XRd (ESl Ints)) w u now:=by
 obtain ⟨fp,a1,a2,h0,f1,cs,fps,h1,h2,h3,h4,h5⟩:=h
 exact ⟨fp,a1,a2,fun w1 hk=>h3.1 w1 (fun k hm=>hk k (h1 k (by simp [hm]))),h3.2.1,h0⟩
theorem OwnedB.dkPast (h:OwnedB lo hi (XDk e) w v (u,now,past)):OwnedB lo hi (XRd (ESl (ESl Ints))) w v past:=by
 obtain ⟨fp,a1,a2,h0,f1,cs,fps,h1,h2,h3,h4,h5⟩:=h
 have hx:XSl e (XRd (ESl Ints)) w (v.ownBlock.toList++fps.flatten) v past:=⟨cs,fps,h4,rfl,h5⟩
 have hx':=Loc.xrd hx
 refine ⟨fp,a1,a2,fun w1 hk=>hx'.1 w1 (fun k hm=>hk k (h1 k ?_)),hx'.2.1,h0⟩
 rcases List.mem_append.1 hm with hm | hm
 ·simp [hm]
 ·simp only [List.mem_append];exact .inr (.inr hm)
theorem mkDkB {f1:List Nat} {cs:List Value} {fps:List (List Nat)} (hw:hi≤w.heap.size) (h1 : ∀ k ∈ v.ownBlock.toList++(f1++fps.flatten),lo≤k∧k < hi) (h2 : ∀ k,v.ownBlock=some k→k ∉ f1++fps.flatten)
  (h3:XRd (ESl Ints) w f1 u now) (h4:w.ownsRow 0 e 1 v past.length cs) (h5:XAll (XRd (ESl Ints)) w fps cs past):OwnedB lo hi (XDk e) w v (u,now,past):=by
 refine ⟨List.range' lo (hi - lo),List.nodup_range',fun k hk=>?_,fun k hk=>?_,f1,cs,fps,fun k hk=>?_,h2,h3,h4,h5⟩
 ·have:=List.mem_range'_1.1 hk;omega
 ·have:=List.mem_range'_1.1 hk;omega
 ·have a1:=h1 k hk
  exact List.mem_range'_1.2 (by omega)
theorem OwnedB.lt_own {α : Type} {X:World→List Nat→Value→α→Prop} {xs:List α} (h:OwnedB lo hi (XSl e X) w v xs) {k:Nat} (hk:v.ownBlock=some k):lo≤k∧k < hi:=by
 obtain ⟨fp,a1,a2,cs,fps,h3,rfl,h5⟩:=h
 exact a2 k (by simp [hk])
theorem OwnedB.backDk {X:World→List Nat→Value→List (List Int)→Prop} [Loc X] [Shows X (ESl Ints)] (h:OwnedB lo hi (XSl e X) w v past) (hp:0 < past.length) (hw:hi≤w.heap.size) :
  ∃ b c ur,v=.slice (some ⟨b,0,none⟩) past.length c∧past.length≤c∧w.cell? ⟨b,past.length - 1,none⟩=some ur∧isCell ur=true∧lo≤b∧b < hi ∧
   OwnedB lo hi (XDk e) w (.slice (some ⟨b,0,none⟩) (past.length - 1) c) (ur,past[past.length - 1],past.take (past.length - 1)):=by
 obtain ⟨fp,a1,a2,cs,fps,h3,rfl,h5⟩:=h
 obtain ⟨f,ur,h6,h7,h8⟩:=h5.at (i:=past.length - 1) (by omega)
 have hl:=h5.len
 have h3':=h3
 rcases h3.2 with ⟨rfl,h9⟩ | ⟨g,cap,cur,rfl,hb,hg,hc,hm,hs,ht⟩
 ·omega
 have hgm:g ∈ (Value.ownBlock (.slice (some ⟨g,0,none⟩) past.length cap)).toList++fps.flatten:=by simp [Value.ownBlock]
 have hfm:f ∈ fps:=List.mem_of_getElem? h6
 have hsub : ∀ k ∈ f,k ∈ fps.flatten:=fun k hk=>List.mem_flatten.2 ⟨f,hfm,hk⟩
 have htk : ∀ k ∈ (fps.take (past.length - 1)).flatten,k ∈ fps.flatten:=fun k hk=>by
  obtain ⟨g',hg',hk⟩:=List.mem_flatten.1 hk
  exact List.mem_flatten.2 ⟨g',List.mem_of_mem_take hg',hk⟩
 have hnd:g ∉ fps.flatten:=by
  have:=(List.nodup_append.1 a1).2.2
  exact fun hk=>this g (by simp [Value.ownBlock]) g hk rfl
 refine ⟨g,cap,ur,rfl,hc,?_,h5.cells ur (List.mem_of_getElem? h7),(a2 g hgm).1,(a2 g hgm).2,mkDkB hw (f1:=f) (cs:=cs.take (past.length - 1)) (fps:=fps.take (past.length - 1)) (fun k hk=>?_) (fun k hk hm=>?_) (Loc.xrd h8) ?_ (XAll.imp Loc.xrd (XAll_take _ h5))⟩
 ·rw [h3'.cellAt (past.length - 1) (by omega),h7]
 ·refine a2 k ?_
  rcases List.mem_append.1 hk with hk | hk
  ·have:k=g:=by simpa [Value.ownBlock] using hk
   rw [this];exact hgm
  ·rcases List.mem_append.1 hk with hk | hk
   ·exact List.mem_append_right _ (hsub k hk)
   ·exact List.mem_append_right _ (htk k hk)
 ·have:g=k:=by simpa [Value.ownBlock] using hk
  subst this
  rcases List.mem_append.1 hm with hm | hm
  ·exact hnd (hsub g hm)
  ·exact hnd (htk g hm)
 ·refine ⟨by rw [List.length_take,List.length_take,h3.1];omega,.inr ⟨g,cap,cur,?_,hb,hg,by rw [List.length_take];omega,hm,hs,?_⟩⟩
  ·rw [List.length_take,Nat.min_eq_left (by omega)]
  ·rw [List.length_take,← ht,List.take_take,Nat.mul_one,Nat.mul_one,Nat.min_eq_left (by omega)]
end
section
variable {P:Program} {n:Nat} {N:Env→World→Prop} {ρ : Env} {w w0:World} {all:Array Oper} {rest:List Oper} {d:Nat} {ty t el:TypeId} {pos:String} {after:Array Edge} {g:Option (Nat × Bool)} {x s:Operand} {v u z:Value} {lo hi:Nat} {now:List (List Int)} {past:List (List (List Int))}
end
def XIf {α : Type} (c:Prop) (X:World→List Nat→Value→α→Prop):World→List Nat→Value→α→Prop:=fun w fp v x=>isCell v=true∧(∀ k ∈ fp,k < w.heap.size)∧(c→X w fp v x)
instance loc_XIf {α : Type} {c:Prop} {X:World→List Nat→Value→α→Prop} [Loc X]:Loc (XIf c X):=⟨fun {w w' fp v x} hk h=>⟨h.1,fun k hm=>by
  have h1:=hk k hm
  have h2:=h.2.1 k hm
  rw [Array.getElem?_eq_getElem h2] at h1
  exact (Array.getElem?_eq_some_iff.1 h1).1,fun hc=>Loc.loc hk (h.2.2 hc)⟩,fun h=>h.2.1,fun h=>h.1⟩
end Go.Hs
namespace Go.Proofs.YtbgpppaljpngmaaGreatDoor
open Go.Hs
set_option maxRecDepth 10000
set_option maxHeartbeats 4000000
set_option linter.unusedVariables false
set_option linter.unusedSimpArgs false
theorem IndexFuncAt_ok (w:World) (v:Value) (xs:List Int) (h:Ints w v xs) (fid:FuncId) (cap:List Value) (g:Int→Bool) (hc : ∀ args w,Sem.run Tryz.prog (callFunc fid args) w=.ok (.enter fid args) w)
  (hf : ∀ (x:Int) (w':World),x ∈ xs→Ext w w'→Does Tryz.prog fid (.int .i64 x::cap) w' (Ret w' (.bool (g x)))) :
  Does Tryz.prog 179 [v,.func (.func fid) [].toArray cap.toArray] w (RetX w (Value.int .i64) (fun n _=>(n = -1∧xs.any g=false)∨∃ (j:Nat) (hj:j < xs.length),n=j∧g xs[j]=true∧(xs.take j).any g=false)):=by
 have hle:=h.le
 refine Jc Tryz.func179 rfl Tryz.results179 Tryz.ntmps179 rfl ?_
 focus
  refine Ke <| Kc rfl <| Wo rfl (Kb (v:=.int _ _) rfl) <| Kd <| Ke <| Ke <| Kc rfl <| Wo rfl (Ka (v:=v) rfl) ?_
  refine Wo rfl (Ko Tryz.underlying88 rfl h) <| Wo rfl (Ka (v:=.int _ _) rfl) <| Kd <| Kr ?_
 refine Jh [4,5,8,9,10,11,12,13,14,15,16,17,18] (fun (k:Nat)=>[(8,.int .i64 (k:Nat))]) (fun k w'=>Ext w w'∧k≤xs.length∧(xs.take k).any g=false) (fun x=>xs.length - x) 0 (by repeat (first | exact trivial | refine And.intro rfl ?_)) ?_ ?_
 ·exact ⟨Ext.refl _,Nat.zero_le _,by simp⟩
 rintro k ρj w1 ⟨E1,hk,hg⟩
 by_cases hlt:k < xs.length
 ·have hmem:=List.getElem_mem hlt
  focus
   have szE1:=E1.size;refine Ke <| Kc rfl <| Wo rfl (Ks rfl rfl) <| Kd <| Ke <| Kg rfl (fun h1=>?_) (fun h1=>?_);refine Kt ?_;refine Ke ?_
   refine Kr <| Ke <| Kc rfl <| Wo rfl (Ka (v:=.int _ _) rfl) <| Wo rfl (Kb (v:=.int _ _) rfl) <| Kd <| Ke <| Kc rfl ?_
   refine Wo rfl (Ka (v:=.func _ _ _) rfl) <| Wo rfl (Ka (v:=v) rfl) <| Wo rfl (Ka (v:=.int _ _) rfl) ?_
   refine Ji Tryz.underlying88 Tryz.sizeOf3 Tryz.isAgg3 rfl (fun _=>rfl) rfl h E1 rfl (by first | omega | (simp <;> omega)) ?_;rintro _ _ rfl
   refine Kj rfl (opc_val1 (a:=.int _ _) (by assumption) rfl rfl) (hf _ _ (by assumption) (E1)) ?_;rintro _ w2 ⟨rfl,E2⟩;have hs1:=E2.size;refine Kd <| Jx rfl (fun h2=>?_) (fun h2=>?_);refine Ke ?_
   refine Kc rfl <| Wo rfl (Ka (v:=.int _ _) rfl) <| Wo rfl (Kb (v:=.int _ _) rfl) <| Kd <| Ja ?_;refine at_ret (v:=.int _ _) rfl ?_;refine ⟨(E1.trans E2),_,rfl,?_⟩
   (try dsimp only);rotate_left;refine Kt ?_;refine Kc rfl <| Wo rfl (Kw rfl rfl (by omega)) ?_;refine Wo rfl (Ka (v:=.int _ _) rfl) <| Kd ?_;rotate_left;(exfalso;omega)
  ·exact .inr ⟨k,hlt,rfl,by assumption,hg⟩
  ·refine ⟨(k+1),by repeat (first | exact trivial | refine And.intro rfl ?_),by repeat (first | with_reducible exact Same.refl | refine Same.upd rfl ?_ | refine Same.upds rfl ?_ | refine Same.mix rfl ?_),?_,?_⟩
   ·refine ⟨E1.trans E2,by omega,?_⟩
    rw [take_snoc _ _ hlt,List.any_append,hg]
    simpa using by assumption
   ·omega
 ·obtain rfl:k=xs.length:=by omega
  focus
   have szE1:=E1.size;refine Ke <| Kc rfl <| Wo rfl (Ks rfl rfl) <| Kd <| Ke <| Kg rfl (fun h1=>?_) (fun h1=>?_);(exfalso;omega);refine Jg ?_
   refine exitX_same ?_;refine Ke <| Kc rfl <| Wo rfl (Kb (v:=.int _ _) rfl) <| Kd <| Ja ?_;refine at_ret (v:=.int _ _) rfl ?_;refine ⟨E1,_,rfl,?_⟩;(try dsimp only)
  exact .inl ⟨rfl,by simpa using hg⟩
theorem filter_snoc_t {α : Type} {g : α→Bool} {l:List α} {k:Nat} (hk:k < l.length) (h:g l[k]=true):(l.take (k+1)).filter g=(l.take k).filter g++[l[k]]:=by
 rw [take_snoc _ _ hk,List.filter_append];simp [h]
theorem filter_snoc_f {α : Type} {g : α→Bool} {l:List α} {k:Nat} (hk:k < l.length) (h:g l[k]=false):(l.take (k+1)).filter g=(l.take k).filter g:=by
 rw [take_snoc _ _ hk,List.filter_append];simp [h]
theorem filter_all {α : Type} {g : α→Bool} {l:List α} (h:l.any (fun x=>!g x)=false):l.filter g=l:=by
 rw [List.filter_eq_self]
 intro a ha
 have:=List.any_eq_false.1 h a ha
 simpa using this
theorem ext_spanD {w w':World} {lo hi:Nat} (E:Ext w w'):Span lo hi w w':=⟨E.os,E.tape,E.output,E.size,fun k _ hl=>E.block k hl⟩
theorem take_set_snoc {α : Type} {l:List α} {i:Nat} {x : α} (hi:i < l.length):(l.set i x).take (i+1)=l.take i++[x]:=by
 rw [take_snoc _ _ (by simpa using hi)]
 simp [List.take_set_of_le]
theorem DeleteFunc_ok {w0:World} (w:World) {lo hi:Nat} (v:Value) (xs:List Int) (h:OwnedB lo hi XI w v xs) (E0:Ext w0 w) (hlo:w0.heap.size≤lo) (hlh:lo≤hi) (hhi:hi≤w.heap.size) (fid:FuncId) (cap:List Value) (g:Int→Bool) (hc : ∀ args w,Sem.run Tryz.prog (callFunc fid args) w=.ok (.enter fid args) w)
  (hf : ∀ (x:Int) (w':World),x ∈ xs→Ext w0 w'→Does Tryz.prog fid (.int .i64 x::cap) w' (Ret w' (.bool (g x)))) :
  Does Tryz.prog 200 [v,.func (.func fid) [].toArray cap.toArray] w (RetS lo hi w (fun y:Value=>y) (fun y w'=>Ints w' y (xs.filter fun x=>!g x))):=by
 have hI:Ints w v xs:=h.read
 have hle:=hI.le
 have k1:=IndexFuncAt_ok w v xs hI fid cap g hc (fun x w' hx e=>hf x w' hx (E0.trans e))
 refine Jc Tryz.func200 rfl Tryz.results200 Tryz.ntmps200 rfl ?_
 have stop2:True:=trivial
 focus
  have szE0:=E0.size;refine Ke <| Kc rfl <| Wo rfl (Kb (v:=.slice _ _ _) rfl) <| Kd <| Ke <| Kc rfl <| Wo rfl (Ka (v:=v) rfl) ?_
  refine Wo rfl (Ka (v:=.func _ _ _) rfl) <| Kj rfl (Jn (a:=v) (b:=.func _ _ _) Tryz.call179 rfl rfl) (k1) ?_;rintro _ w1 ⟨E1,y1,rfl,hy1⟩;have hs1:=E1.size
  refine Wo rfl (Kb (v:=.int _ _) rfl) <| Kd <| Ke <| Ke ?_
 clear stop2
 rcases hy1 with ⟨rfl,hn⟩ | ⟨j0,hj0,rfl,hg0,hn0⟩
 ·focus
   have szE1:=E1.size;have szE0:=E0.size;refine Kc rfl <| Wo rfl (Ka (v:=.int _ _) rfl) <| Wo rfl (Kx rfl rfl) <| Kd <| Kg rfl (fun h1=>?_) (fun h1=>?_)
   refine Ke <| Kc rfl <| Wo rfl (Ka (v:=v) rfl) <| Wo rfl (Kb (v:=v) rfl) <| Kd <| Ja ?_;refine at_ret (v:=v) rfl ?_;rotate_left;contradiction
  exact ⟨v,rfl,⟨E1.os,E1.tape,E1.output,E1.size,fun k _ hl=>E1.block k hl⟩,by rw [filter_all (by simpa using hn)];exact Mono.mono E1 hI⟩
 ·obtain ⟨b,c,rfl,hcap⟩:=h.o.lit (by omega)
  have hb:=OwnedB.lt_own h (k:=b) rfl
  clear k1 hI
  focus
   have szE1:=E1.size;have szE0:=E0.size;refine Kc rfl <| Wo rfl (Ka (v:=.int _ _) rfl) <| Wo rfl (Kx rfl rfl) <| Kd <| Kg rfl (fun h1=>?_) (fun h1=>?_)
   contradiction;refine Kt ?_;refine Ke <| Ke <| Kc rfl <| Wo rfl (Ka (v:=.int _ _) rfl) <| Wo rfl (Kw rfl rfl (by omega)) ?_
   refine Wo rfl (Kb (v:=.int _ _) rfl) <| Kd <| Kr ?_
  refine Jh [5,6,7,16,17,18,19,20,21,22,23,24,25,26,27,28,29,30,31,32,33,34,35] (fun ((j,i,ys):Nat × Nat × List Int)=>[(6,.int .i64 (j:Int)),(5,.int .i64 (i:Int))]) (fun (j,i,ys) w'=>Ext w0 w'∧Span lo hi w w'∧j≤xs.length∧i < j∧Owned lo XI w' (.slice (some ⟨b,0,none⟩) xs.length c) ys∧ys.length=xs.length∧ys.take i=(xs.take j).filter (fun x=>!g x)∧ys.drop j=xs.drop j) (fun x=>xs.length - x.1) (j0+1,j0,xs) (by repeat (first | exact trivial | refine And.intro rfl ?_)) ?_ ?_
  ·refine ⟨by exact (E0.trans E1),⟨E1.os,E1.tape,E1.output,E1.size,fun k _ hl=>E1.block k hl⟩,by omega,by omega,(h.ext E1).o,rfl,?_,rfl⟩
   rw [filter_snoc_f hj0 (by rw [hg0];rfl),filter_all (by simpa using hn0)]
  clear h
  rintro ⟨j,i,ys⟩ ρj w2 ⟨E2,S2,hj,hij,hO,hyl,hyt,hyd⟩
  have hs2:=S2.size
  by_cases hlt:j < xs.length
  ·have hyj:ys[j]'(by omega)=xs[j]:=by
    have h1:=List.getElem?_drop (xs:=ys) (i:=j) (j:=0)
    have h2:=List.getElem?_drop (xs:=xs) (i:=j) (j:=0)
    rw [hyd,h2] at h1
    simpa [hlt,show j < ys.length by omega] using h1.symm
   have hf' : ∀ (w':World),Ext w0 w'→Does Tryz.prog fid (.int .i64 (ys[j]'(by omega))::cap) w' (Ret w' (.bool (g xs[j]))):=fun w' e=>by rw [hyj];exact hf _ w' (List.getElem_mem hlt) e
   have hyd':ys.drop (j+1)=xs.drop (j+1):=by rw [← List.drop_drop,hyd,List.drop_drop]
   focus
    have szE2:=E2.size;have szE1:=E1.size;have szE0:=E0.size;refine Ke <| Ke <| Kc rfl <| Wo rfl (Ka (v:=.int _ _) rfl) <| Wo rfl (Ka (v:=.slice _ _ _) rfl) ?_
    refine Wo rfl (Ko Tryz.underlying88 rfl (Owned.read hO)) <| Wo rfl (Ks rfl rfl) <| Kd <| Kg rfl (fun h2=>?_) (fun h2=>?_);refine Kt ?_;refine Ke <| Kr ?_
    refine Ke <| Kc rfl <| Wo rfl (Ka (v:=.slice _ _ _) rfl) <| Wo rfl (Ka (v:=.int _ _) rfl) ?_
    refine Ji Tryz.underlying88 Tryz.sizeOf3 Tryz.isAgg3 rfl (fun _=>rfl) rfl (Owned.read hO) (Ext.refl _) rfl (by first | omega | (simp <;> omega)) ?_;rintro _ _ rfl;refine Wo rfl (Kb (v:=.int _ _) rfl) ?_
    refine Kd <| Ke <| Kc rfl <| Wo rfl (Ka (v:=.func _ _ _) rfl) <| Wo rfl (Ka (v:=.int _ _) rfl) ?_
    refine Kj rfl (opc_val1 (a:=.int _ _) (by assumption) rfl rfl) (hf' _ (E2)) ?_;rintro _ w3 ⟨rfl,E3⟩;have hs3:=E3.size;refine Wo rfl (Jf rfl) <| Kd <| Jx rfl (fun h3=>?_) (fun h3=>?_)
    refine Ke <| Kc rfl <| Wo rfl (Ka (v:=.slice _ _ _) rfl) <| Wo rfl (Ka (v:=.int _ _) rfl) <| Wo rfl (Ka (v:=.int _ _) rfl) ?_
    refine Wo rfl (Jr Tryz.underlying88 Tryz.sizeOf3 rfl rfl (by omega)) ?_;refine Wo_set rfl Tryz.sizeOf3 rfl rfl (hO.toB.ext E3) (by first | omega | (simp <;> omega)) Owned.int (Nat.le_refl _) (by omega) ?_
    rintro w4 hO On1 K1 hz1;have E4:=On1.ext1 (E2.trans E3) (by omega);have hs4:=On1.size;refine Kd <| Kc rfl <| Wo rfl (Ka (v:=.int _ _) rfl) <| Wo rfl (Kw rfl rfl (by omega)) ?_
    refine Wo rfl (Kb (v:=.int _ _) rfl) <| Kd <| Kc rfl <| Wo rfl (Ka (v:=.int _ _) rfl) <| Wo rfl (Kw rfl rfl (by omega)) ?_
    refine Wo rfl (Kb (v:=.int _ _) rfl) <| Kd ?_;rotate_left;refine Kt ?_;refine Kc rfl <| Wo rfl (Ka (v:=.int _ _) rfl) <| Wo rfl (Kw rfl rfl (by omega)) ?_
    refine Wo rfl (Kb (v:=.int _ _) rfl) <| Kd ?_;rotate_left;(exfalso;omega)
   ·refine ⟨((j+1,i+1,ys.set i (ys[j]'(by omega)))),by repeat (first | exact trivial | refine And.intro rfl ?_),by repeat (first | with_reducible exact Same.refl | refine Same.upd rfl ?_ | refine Same.upds rfl ?_ | refine Same.mix rfl ?_),?_,?_⟩
    ·refine ⟨by assumption,S2.trans ((ext_spanD E3).trans (Span.of_only On1 (fun k hk=>by simp at hk;omega))),by omega,by omega,hO,by simp;omega,?_,?_⟩
     ·rw [filter_snoc_t hlt (by assumption),← hyt,take_set_snoc (by omega),hyj]
     ·rw [List.drop_set_of_lt (by omega),hyd']
    ·simp only;omega
   ·refine ⟨((j+1,i,ys)),by repeat (first | exact trivial | refine And.intro rfl ?_),by repeat (first | with_reducible exact Same.refl | refine Same.upd rfl ?_ | refine Same.upds rfl ?_ | refine Same.mix rfl ?_),?_,?_⟩
    ·refine ⟨by exact (E2.trans E3),S2.trans (ext_spanD E3),by omega,by omega,hO.ext E3,hyl,?_,hyd'⟩
     rw [filter_snoc_f hlt (by assumption),hyt]
    ·simp only;omega
  ·obtain rfl:j=xs.length:=by omega
   focus
    have szE2:=E2.size;have szE1:=E1.size;have szE0:=E0.size;refine Ke <| Ke <| Kc rfl <| Wo rfl (Ka (v:=.int _ _) rfl) <| Wo rfl (Ka (v:=.slice _ _ _) rfl) ?_
    refine Wo rfl (Ko Tryz.underlying88 rfl (Owned.read hO)) <| Wo rfl (Ks rfl rfl) <| Kd <| Kg rfl (fun h2=>?_) (fun h2=>?_);(exfalso;omega);refine Jg ?_;refine exitX_same ?_
    refine Ke <| Kc rfl <| Wo rfl (Ka (v:=.slice _ _ _) rfl) <| Wo rfl (Ka (v:=.int _ _) rfl) <| Wo rfl (opv_slice_sl_lo Tryz.underlying88 Tryz.sizeOf3 rfl rfl (by omega)) ?_
   have hcl : ∀ j,j < xs.length→∃ u,w2.cell? ⟨b,j,none⟩=some u∧w2.frozen? ⟨b,j,none⟩=false:=fun j hj=>hO.cellAt (by omega)
   refine Wo_clear rfl Tryz.underlying88 Tryz.zeroValue3 rfl rfl rfl (fun k hk=>?_) (fun k hk=>?_) ?_
   ·obtain ⟨u,h1,h2⟩:=hcl (i+k) (by omega)
    rw [show 0+(i:Int).toNat+k=i+k by omega,h1];rfl
   ·obtain ⟨u,h1,h2⟩:=hcl (i+k) (by omega)
    rw [show 0+(i:Int).toNat+k=i+k by omega,h2]
   intro w3 On K hz hcell
   have hR:Ints w3 (.slice (some ⟨b,0,none⟩) i c) (xs.filter fun x=>!g x):=by
    have hRy0:Ints w2 (.slice (some ⟨b,0,none⟩) xs.length c) ys:=hO.read
    have hRy:=hRy0.takeS (c':=c) (k:=i) (by omega)
    rw [hyt,List.take_length] at hRy
    have hfl:(xs.filter fun x=>!g x).length=i:=by
     have:=congrArg List.length hyt
     rw [List.length_take,List.take_length] at this
     omega
    obtain ⟨a',c',e,hle',hr⟩:=hRy
    refine ⟨some ⟨b,0,none⟩,c,by rw [hfl],hle',?_⟩
    rcases hr with hr | ⟨b',o',e',hr⟩
    ·exact .inl hr
    ·cases e
     cases e'
     refine .inr ⟨b,0,rfl,fun k hk=>?_⟩
     obtain ⟨u,h1,h2⟩:=hr k hk
     refine ⟨u,?_,h2⟩
     rw [Nat.zero_add] at h1 ⊢
     rw [hcell k (by omega),h1]
   have E3:Ext w0 w3:=On.ext E2 (fun k hk=>by simp at hk;omega)
   have S3:Span lo hi w w3:=S2.trans (Span.of_only On (fun k hk=>by simp at hk;omega))
   focus
    have szE3:=E3.size;have szE2:=E2.size;have szE1:=E1.size;have szE0:=E0.size;refine Kd <| Ke <| Kc rfl <| Wo rfl (Ka (v:=.slice _ _ _) rfl) ?_
    refine Wo rfl (Ka (v:=.int _ _) rfl) <| Wo rfl (opv_slice_sl_hi Tryz.underlying88 Tryz.sizeOf3 rfl rfl (by omega)) ?_;refine Wo rfl (Kb (v:=.slice _ _ _) rfl) <| Kd <| Ja ?_
    refine at_ret (v:=.slice _ _ _) rfl ?_
   exact ⟨_,rfl,S3,hR⟩
end Go.Proofs.YtbgpppaljpngmaaGreatDoor
set_option linter.unusedVariables false
namespace Go.Hs
variable {p:List (List Int)} {l L:List Nat} {a j:Nat}
structure Mny (p:List (List Int)) (l L:List Nat):Prop where
 nd:L.Nodup
 mem : ∀ x,x ∈ L↔∃ k ∈ l,knd p k=x
end Go.Hs
namespace Go.Proofs.YtbgpppaljpngmaaGreatDoor
open Go.Hs
set_option maxRecDepth 10000
set_option maxHeartbeats 4000000
set_option linter.unusedVariables false
set_option linter.unusedSimpArgs false
theorem impl_PairOf_ok (w:World) (v u:Value) (p q:List (List Int)) (h:ESl Ints w v p) (h':ESl Ints w u q) (a b:Nat) (ha:Nod p a) (hb:Nod q b):Does Tryz.prog 172 [v,.int .i64 (a:Int),u,.int .i64 (b:Int)] w (RetOB w XR (og (pairV p a q b)) (pairV p a q b).isSome):=by
 have la:a < p.length:=by have:=ha.2;omega
 have lb:b < q.length:=by have:=hb.2;omega
 have hle:=h.le
 have hle':=h'.le
 have hG:=ha.1.bes5 hb.1
 have hbl:=bes_len (p:=p) (q:=q)
 have n1 : ∀ (w:World) (v:Value),ESl Ints w v p→Does Tryz.prog 94 [v,.int .i64 (a:Int)] w (Ret w (.bool true)):=fun w v h=>by
  have:=hasNode_ok w v p h (a:Int);rwa [decide_eq_true ha] at this
 have n2 : ∀ (w:World) (v:Value),ESl Ints w v q→Does Tryz.prog 94 [v,.int .i64 (b:Int)] w (Ret w (.bool true)):=fun w v h=>by
  have:=hasNode_ok w v q h (b:Int);rwa [decide_eq_true hb] at this
 have k1 : ∀ (w:World) (v u:Value),ESl Ints w v p→ESl Ints w u q→Does Tryz.prog 180 [v,u] w (RetO w XR (bes p q)):=fun w v u h h'=>beside_ok w v u p q h h' ha.1 hb.1
 have k2 : ∀ (w:World) (v u:Value),ESl Ints w v (bes p q)→Ints w u [(a:Int),(p.length:Int)+(b:Int)]→Does Tryz.prog 199 [v,u] w (RetOB w XR (og (pairV p a q b)) (pairV p a q b).isSome):=fun w v u h1 h2 =>
  withMembers_ok w v u (bes p q) [a,p.length+b] h1 h2 hG.1 hG.2 (fun x hx=>by
   rw [hbl]
   rcases List.mem_cons.1 hx with rfl | hx
   ·omega
   ·rw [List.mem_singleton.1 hx];omega) (by simp)
 refine fn_of_W2 Tryz.func172 rfl Tryz.results172 Tryz.ntmps172 rfl ?_
 have litown:True:=trivial
 focus
  refine Ke <| Kc rfl <| Wo rfl (Kb (v:=.slice _ _ _) rfl) <| Wo rfl (Kb (v:=.bool _) rfl) <| Kd <| Ke <| Ke <| Kc rfl ?_
  refine Wo rfl (Ka (v:=v) rfl) <| Wo rfl (Ka (v:=.int _ _) rfl) <| Kj rfl (Jn (a:=v) (b:=.int _ _) Tryz.call94 rfl rfl) (n1 _ _ (h)) ?_;rintro _ w1 ⟨rfl,E1⟩;have hs1:=E1.size
  refine Wo rfl (Jf rfl) <| Jy rfl (Ka (v:=.bool _) rfl) (fun h1=>?_) (fun h1=>?_);contradiction;refine Wo rfl (Ka (v:=u) rfl) <| Wo rfl (Ka (v:=.int _ _) rfl) ?_
  refine Kj rfl (Jn (a:=u) (b:=.int _ _) Tryz.call94 rfl rfl) (n2 _ _ ((Mono.mono E1 h'))) ?_;rintro _ w2 ⟨rfl,E2⟩;have hs2:=E2.size;refine Wo rfl (Jf rfl) <| Wo rfl (Kn (v:=.bool _) rfl rfl) ?_
  refine Kd <| Jx rfl (fun h2=>?_) (fun h2=>?_);contradiction;refine Kt ?_;refine Ke <| Kc rfl <| Wo rfl (Ka (v:=v) rfl) <| Wo rfl (Ka (v:=u) rfl) ?_
  refine Kj rfl (Jn (a:=v) (b:=u) Tryz.call180 rfl rfl) (k1 _ _ _ ((Mono.mono (E1.trans E2) h)) ((Mono.mono (E1.trans E2) h'))) ?_;rintro u1 w3 ⟨E3,hO1⟩;have ichO1:=OwnedB.isC (Owned.toB hO1);have hs3:=E3.size
  refine Wo rfl (Kb (v:=u1) rfl) <| Kd <| Ke <| Kc rfl <| Wo rfl (Ka (v:=u1) rfl) <| Wo rfl (Ka (v:=.int _ _) rfl) ?_
  refine Wo rfl (Ka (v:=v) rfl) <| Wo rfl (Ko Tryz.underlying23 rfl h) <| Wo rfl (Ka (v:=.int _ _) rfl) <| Wo rfl (Kw rfl rfl (by omega)) ?_
  refine Jo (ps:=[(0,.int _ _),(1,.int _ _)]) (cs:=[_,_]) rfl Tryz.underlying88 Tryz.sizeOf3 Tryz.zeroValue3 rfl rfl rfl rfl ?_;rintro b1 w4 hb1 E4 hB1 hHb1;have hlb1:=hB1.lt;have hLb1:=own_lit2 hHb1 hb1
  clear hHb1;have hs4:=E4.size;refine Kj rfl (Jn (a:=u1) (b:=.slice _ _ _) Tryz.call199 rfl rfl) (k2 _ _ _ ((Mono.mono E4 (Owned.read hO1))) ((Owned.read hLb1))) ?_;rintro _ w5 ⟨u2,rfl,E5,hO2⟩
  have ichO2:=OwnedB.isC (Owned.toB hO2);have hs5:=E5.size;refine Wo rfl (Kk (v:=u2) rfl rfl) <| Wo rfl (Kk (v:=.bool _) rfl rfl) <| Wo rfl (Kb (v:=u2) rfl) ?_
  refine Wo rfl (Kb (v:=.bool _) rfl) <| Kd <| Ja ?_;refine at_ret (v:=.tuple #[u2,.bool _]) rfl ?_;exact ⟨_,rfl,((((E1.trans E2).trans E3).trans E4).trans E5),hO2.toB.o.mono (by omega)⟩
theorem impl_TogetherOf_ok (w:World) (v u:Value) (p q:List (List Int)) (h:ESl Ints w v p) (h':ESl Ints w u q) (a b:Nat) (ha:Nod p a) (hb:Nod q b):Does Tryz.prog 173 [v,.int .i64 (a:Int),u,.int .i64 (b:Int)] w (RetOB w XR (og (togV p a q b)) (togV p a q b).isSome):=by
 have la:a < p.length:=by have:=ha.2;omega
 have lb:b < q.length:=by have:=hb.2;omega
 have hle:=h.le
 have hle':=h'.le
 have hG:=ha.1.bes5 hb.1
 have hbl:=bes_len (p:=p) (q:=q)
 have n1 : ∀ (w:World) (v:Value),ESl Ints w v p→Does Tryz.prog 94 [v,.int .i64 (a:Int)] w (Ret w (.bool true)):=fun w v h=>by
  have:=hasNode_ok w v p h (a:Int);rwa [decide_eq_true ha] at this
 have n2 : ∀ (w:World) (v:Value),ESl Ints w v q→Does Tryz.prog 94 [v,.int .i64 (b:Int)] w (Ret w (.bool true)):=fun w v h=>by
  have:=hasNode_ok w v q h (b:Int);rwa [decide_eq_true hb] at this
 have k1 : ∀ (w:World) (v u:Value),ESl Ints w v p→ESl Ints w u q→Does Tryz.prog 180 [v,u] w (RetO w XR (bes p q)):=fun w v u h h'=>beside_ok w v u p q h h' ha.1 hb.1
 have c1 : ∀ (w:World) (v:Value),ESl Ints w v (bes p q)→Does Tryz.prog 130 [v,.int .i64 (a:Int)] w (RetO w XI (ints (arr (bes p q) a))):=fun w v h=>arrowsOf_ok w v (bes p q) h (a:Int) ⟨by omega,by omega⟩ (by rw [getD_lt (by omega),hG.1.row (by omega)];omega)
 have c2 : ∀ (w:World) (v:Value),ESl Ints w v (bes p q)→Does Tryz.prog 130 [v,.int .i64 ((p.length:Int)+(b:Int))] w (RetO w XI (ints (arr (bes p q) (p.length+b)))):=fun w v h=>by
  have:=arrowsOf_ok w v (bes p q) h ((p.length:Int)+(b:Int)) ⟨by omega,by omega⟩ (by rw [getD_lt (by omega),hG.1.row (by omega)];omega)
  rwa [show ((p.length:Int)+(b:Int)).toNat=p.length+b by omega] at this
 have l1:=arr_le hG.1 (a:=a) (by omega)
 have l2:=arr_le hG.1 (a:=p.length+b) (by omega)
 have i1:=ints_len (arr (bes p q) a)
 have i2:=ints_len (arr (bes p q) (p.length+b))
 have hapi:ints (arr (bes p q) a)++ints (arr (bes p q) (p.length+b))=ints (arr (bes p q) a++arr (bes p q) (p.length+b)):=by simp [ints]
 have k2 : ∀ (w:World) (v u:Value),ESl Ints w v (bes p q)→Ints w u (ints (arr (bes p q) a)++ints (arr (bes p q) (p.length+b)))→Does Tryz.prog 199 [v,u] w (RetOB w XR (og (togV p a q b)) (togV p a q b).isSome):=fun w v u h1 h2 =>
  withMembers_ok w v u (bes p q) (arr (bes p q) a++arr (bes p q) (p.length+b)) h1 (by rw [← hapi];exact h2) hG.1 hG.2 (fun x hx=>by
   rcases List.mem_append.1 hx with hx | hx
   ·exact arr_lt hG.1 (by omega) hx
   ·exact arr_lt hG.1 (by omega) hx) (by rw [List.length_append];have:=hG.2;omega)
 refine fn_of_W2 Tryz.func173 rfl Tryz.results173 Tryz.ntmps173 rfl ?_
 focus
  refine Ke <| Kc rfl <| Wo rfl (Kb (v:=.slice _ _ _) rfl) <| Wo rfl (Kb (v:=.bool _) rfl) <| Kd <| Ke <| Ke <| Kc rfl ?_
  refine Wo rfl (Ka (v:=v) rfl) <| Wo rfl (Ka (v:=.int _ _) rfl) <| Kj rfl (Jn (a:=v) (b:=.int _ _) Tryz.call94 rfl rfl) (n1 _ _ (h)) ?_;rintro _ w1 ⟨rfl,E1⟩;have hs1:=E1.size
  refine Wo rfl (Jf rfl) <| Jy rfl (Ka (v:=.bool _) rfl) (fun h1=>?_) (fun h1=>?_);contradiction;refine Wo rfl (Ka (v:=u) rfl) <| Wo rfl (Ka (v:=.int _ _) rfl) ?_
  refine Kj rfl (Jn (a:=u) (b:=.int _ _) Tryz.call94 rfl rfl) (n2 _ _ ((Mono.mono E1 h'))) ?_;rintro _ w2 ⟨rfl,E2⟩;have hs2:=E2.size;refine Wo rfl (Jf rfl) <| Wo rfl (Kn (v:=.bool _) rfl rfl) ?_
  refine Kd <| Jx rfl (fun h2=>?_) (fun h2=>?_);contradiction;refine Kt ?_;refine Ke <| Kc rfl <| Wo rfl (Ka (v:=v) rfl) <| Wo rfl (Ka (v:=u) rfl) ?_
  refine Kj rfl (Jn (a:=v) (b:=u) Tryz.call180 rfl rfl) (k1 _ _ _ ((Mono.mono (E1.trans E2) h)) ((Mono.mono (E1.trans E2) h'))) ?_;rintro u1 w3 ⟨E3,hO1⟩;have hs3:=E3.size;refine Wo rfl (Kb (v:=u1) rfl) ?_
  refine Kd <| Ke <| Kc rfl <| Wo rfl (Ka (v:=u1) rfl) <| Wo rfl (Ka (v:=u1) rfl) <| Wo rfl (Ka (v:=.int _ _) rfl) ?_
  refine Kj rfl (Jn (a:=u1) (b:=.int _ _) Tryz.call130 rfl rfl) (c1 _ _ ((Owned.read hO1))) ?_;rintro u2 w4 ⟨E4,hO2⟩;have hs4:=E4.size;refine Wo rfl (Ka (v:=u1) rfl) ?_
  refine Wo rfl (Ka (v:=v) rfl) <| Wo rfl (Ko Tryz.underlying23 rfl h) <| Wo rfl (Ka (v:=.int _ _) rfl) <| Wo rfl (Kw rfl rfl (by omega)) ?_
  refine Kj rfl (Jn (a:=u1) (b:=.int _ _) Tryz.call130 rfl rfl) (c2 _ _ ((Mono.mono E4 (Owned.read hO1)))) ?_;rintro u3 w5 ⟨E5,hO3⟩;have hs5:=E5.size
  refine Wo_appS rfl el88 rfl rfl (Owned.read hO3) (hO2.toB.ext E5) (by first | omega | (simp <;> omega)) (by omega) (by omega) ((((E1.trans E2).trans E3).trans E4).trans E5) (by omega) ?_;have hT1:=(hO2.toB.ext E5)
  rintro v1 w6 hO2 E6 M1;have E7:=M1.ext hT1 (((E2.trans E3).trans E4).trans E5) (by omega);have szE7:=E7.size;have E8:=M1.ext hT1 ((E3.trans E4).trans E5) (by omega);have szE8:=E8.size
  have E9:=M1.ext hT1 (E4.trans E5) (by omega);have szE9:=E9.size;have hO1:=(hO1.toB.ext (E4.trans E5)).moves M1 hT1 (by omega);have hO3:=hO3.toB.moves M1 hT1 (by omega);have hs6:=E6.size
  refine Kj rfl (Jn (a:=u1) (b:=v1) Tryz.call199 rfl rfl) (k2 _ _ _ ((OwnedB.read hO1)) ((Owned.read hO2))) ?_;rintro _ w7 ⟨u4,rfl,E10,hO4⟩;have hs7:=E10.size;refine Wo rfl (Kk (v:=u4) rfl rfl) ?_
  refine Wo rfl (Kk (v:=.bool _) rfl rfl) <| Wo rfl (Kb (v:=u4) rfl) <| Wo rfl (Kb (v:=.bool _) rfl) <| Kd <| Ja ?_
  refine at_ret (v:=.tuple #[u4,.bool _]) rfl ?_;exact ⟨_,rfl,(E6.trans E10),hO4.toB.o.mono (by omega)⟩
open Classical in
theorem impl_WithoutSet_ok (w:World) (v u:Value) (p q:List (List Int)) (h:ESl Ints w v p) (h':ESl Ints w u q) (a b:Nat) (ha:Nod p a) (hb:Nod q b):Does Tryz.prog 174 [v,.int .i64 (a:Int),u,.int .i64 (b:Int)] w (RetOB w XR (og (wosV p a q b)) (wosV p a q b).isSome):=by
 have la:a < p.length:=by have:=ha.2;omega
 have lb:b < q.length:=by have:=hb.2;omega
 have hle:=h.le
 have hle':=h'.le
 have hp:=ha.1
 have hq:=hb.1
 obtain ⟨pa,pc,rfl,_⟩:=id h
 obtain ⟨qa,qc,rfl,_⟩:=id h'
 have n1 : ∀ (w:World) (v:Value),ESl Ints w v p→Does Tryz.prog 94 [v,.int .i64 (a:Int)] w (Ret w (.bool true)):=fun w v h=>by
  have:=hasNode_ok w v p h (a:Int);rwa [decide_eq_true ha] at this
 have n2 : ∀ (w:World) (v:Value),ESl Ints w v q→Does Tryz.prog 94 [v,.int .i64 (b:Int)] w (Ret w (.bool true)):=fun w v h=>by
  have:=hasNode_ok w v q h (b:Int);rwa [decide_eq_true hb] at this
 have c1 : ∀ (w:World) (v:Value),ESl Ints w v p→Does Tryz.prog 130 [v,.int .i64 (a:Int)] w (RetO w XI (ints (arr p a))):=fun w v h=>arrowsOf_ok w v p h (a:Int) ⟨by omega,by omega⟩ (by rw [getD_lt (by omega),hp.gr.row (by omega)];have:=hp.2.1;omega)
 have hfl:(ints (arr p a)).filter (fun x=>!decide (Bis p x.toNat q b))=ints ((arr p a).filter fun v=>!decide (Bis p v q b)):=by
  unfold ints
  rw [List.filter_map];rfl
 have hdel : ∀ (w0 w1:World) (t:Value) (lo hi:Nat) (b1 b2 b3:Nat),Ext w w0→Ext w0 w1→w0.heap.size≤lo→lo≤hi→hi≤w1.heap.size→Blk w0 b1 [.slice pa p.length pc]→Blk w0 b2 [.slice qa q.length qc]→Blk w0 b3 [.int .i64 (b:Int)]→OwnedB lo hi XI w1 t (ints (arr p a))→Does Tryz.prog 200 [t,.func (.func 201) [].toArray [.pointer (some ⟨b1,0,none⟩),.pointer (some ⟨b2,0,none⟩),.pointer (some ⟨b3,0,none⟩)].toArray] w1 (RetS lo hi w1 (fun y:Value=>y) (fun y w'=>Ints w' y (ints ((arr p a).filter fun v=>!decide (Bis p v q b))))):=by
  intro w0 w1 t lo hi b1 b2 b3 Ew E0 hlo hlh hhi hB1 hB2 hB3 ht
  have:=DeleteFunc_ok w1 t (ints (arr p a)) ht E0 hlo hlh hhi 201 [.pointer (some ⟨b1,0,none⟩),.pointer (some ⟨b2,0,none⟩),.pointer (some ⟨b3,0,none⟩)] (fun x=>decide (Bis p x.toNat q b)) Tryz.call201 (fun x w' hx e=>by
   simp only [ints,List.mem_map] at hx
   obtain ⟨j,hj,rfl⟩:=hx
   have hjl:=arr_lt hp.gr la hj
   have hp':ESl Ints w' (.slice pa p.length pc) p:=Mono.mono (Ew.trans e) h
   have hq':ESl Ints w' (.slice qa q.length qc) q:=Mono.mono (Ew.trans e) h'
   have hB1:=hB1.ext e
   have hB2:=hB2.ext e
   have hB3:=hB3.ext e
   have k1 : ∀ (w:World) (v u:Value),ESl Ints w v p→ESl Ints w u q→Does Tryz.prog 148 [v,.int .i64 (j:Int),u,.int .i64 (b:Int)] w (Ret w (.bool (decide (Bis p j q b)))):=fun w v u h h'=>by
    have:=sameSet_ok w v u p q h h' hp hq (j:Int) (b:Int) ⟨by omega,by omega⟩ ⟨by omega,by omega⟩
    simpa only [Int.toNat_natCast] using this
   refine Jc Tryz.func201 rfl Tryz.results201 Tryz.ntmps201 rfl ?_
   focus
    have szE0:=E0.size;have szEw:=Ew.size;refine Ke <| Kc rfl <| Wo rfl (Kb (v:=.bool _) rfl) <| Kd <| Ke <| Kc rfl ?_
    refine Wo (v:=.slice _ _ _) rfl (Km Tryz.isAgg23 rfl (hB1.cell rfl)) <| Wo rfl (Ka (v:=.int _ _) rfl) <| Wo (v:=.slice _ _ _) rfl (Km Tryz.isAgg23 rfl (hB2.cell rfl)) ?_
    refine Wo (v:=.int _ _) rfl (Km Tryz.isAgg3 rfl (hB3.cell rfl)) <| Kj rfl (opc4 (a:=.slice _ _ _) (b:=.int _ _) (c:=.slice _ _ _) (d:=.int _ _) Tryz.call148 rfl rfl rfl rfl) (k1 _ _ _ (hp') (hq')) ?_
    rintro _ w2 ⟨rfl,E1⟩;have hs1:=E1.size;refine Wo rfl (Kb (v:=.bool _) rfl) <| Kd <| Ja ?_;exact ⟨rfl,E1⟩)
  rw [hfl] at this
  exact this
 have k2 : ∀ (w:World) (v u:Value),ESl Ints w v p→Ints w u (ints ((arr p a).filter fun v=>!decide (Bis p v q b)))→Does Tryz.prog 199 [v,u] w (RetOB w XR (og (wosV p a q b)) (wosV p a q b).isSome):=fun w v u h1 h2 =>
  withMembers_ok w v u p _ h1 h2 hp.gr (by have:=hp.2.1;omega) (fun x hx=>arr_lt hp.gr la (List.mem_filter.1 hx).1) (Nat.le_trans (List.length_filter_le _ _) (by have:=arr_le hp.gr la;have:=hp.2.1;omega))
 refine fn_of_W2 Tryz.func174 rfl Tryz.results174 Tryz.ntmps174 rfl ?_
 have stop3:True:=trivial
 focus
  refine Ke <| Kc rfl <| Jp rfl rfl rfl ?_;rintro b1 w1 hb1 E1 hB1;have hlb1:=hB1.lt;have hs1:=E1.size;refine Jp rfl rfl rfl ?_;rintro b2 w2 hb2 E2 hB2;have hlb2:=hB2.lt
  have hs2:=E2.size;refine Jp rfl rfl rfl ?_;rintro b3 w3 hb3 E3 hB3;have hlb3:=hB3.lt;have hs3:=E3.size;refine Wo rfl (Kb (v:=.slice _ _ _) rfl) <| Wo rfl (Kb (v:=.bool _) rfl) ?_
  refine Kd <| Ke <| Ke <| Kc rfl <| Wo (v:=.slice _ _ _) rfl (Km Tryz.isAgg23 rfl ((hB1.ext (E2.trans E3)).cell rfl)) <| Wo rfl (Ka (v:=.int _ _) rfl) ?_
  refine Kj rfl (Jn (a:=.slice _ _ _) (b:=.int _ _) Tryz.call94 rfl rfl) (n1 _ _ ((Mono.mono ((E1.trans E2).trans E3) h))) ?_;rintro _ w4 ⟨rfl,E4⟩;have hs4:=E4.size;refine Wo rfl (Jf rfl) ?_
  refine Jy rfl (Ka (v:=.bool _) rfl) (fun h1=>?_) (fun h1=>?_);contradiction;refine Wo (v:=.slice _ _ _) rfl (Km Tryz.isAgg23 rfl ((hB2.ext (E3.trans E4)).cell rfl)) ?_
  refine Wo (v:=.int _ _) rfl (Km Tryz.isAgg3 rfl ((hB3.ext E4).cell rfl)) <| Kj rfl (Jn (a:=.slice _ _ _) (b:=.int _ _) Tryz.call94 rfl rfl) (n2 _ _ ((Mono.mono (((E1.trans E2).trans E3).trans E4) h'))) ?_
  rintro _ w5 ⟨rfl,E5⟩;have hs5:=E5.size;refine Wo rfl (Jf rfl) <| Wo rfl (Kn (v:=.bool _) rfl rfl) <| Kd <| Jx rfl (fun h2=>?_) (fun h2=>?_);contradiction;refine Kt ?_
  refine Ke ?_
 clear stop3
 have hdl : ∀ (w1:World) (t:Value),Ext w5 w1→OwnedB w5.heap.size w1.heap.size XI w1 t (ints (arr p a))→Does Tryz.prog 200 [t,.func (.func 201) [].toArray [.pointer (some ⟨b1,0,none⟩),.pointer (some ⟨b2,0,none⟩),.pointer (some ⟨b3,0,none⟩)].toArray] w1 (RetS w5.heap.size w1.heap.size w1 (fun y:Value=>y) (fun y w'=>Ints w' y (ints ((arr p a).filter fun v=>!decide (Bis p v q b))))):=fun w1 t e ho=>hdel w5 w1 t _ _ b1 b2 b3 (by exact ((((E1.trans E2).trans E3).trans E4).trans E5)) e (Nat.le_refl _) e.size (Nat.le_refl _) (by exact (hB1.ext (((E2.trans E3).trans E4).trans E5))) (by exact (hB2.ext ((E3.trans E4).trans E5))) (by exact (hB3.ext (E4.trans E5))) ho
 clear hdel
 focus
  have szE5:=E5.size;have szE4:=E4.size;have szE3:=E3.size;have szE2:=E2.size;have szE1:=E1.size;refine Kc rfl ?_
  refine Wo (v:=.slice _ _ _) rfl (Km Tryz.isAgg23 rfl ((hB1.ext (((E2.trans E3).trans E4).trans E5)).cell rfl)) <| Wo rfl (Ka (v:=.int _ _) rfl) ?_
  refine Kj rfl (Jn (a:=.slice _ _ _) (b:=.int _ _) Tryz.call130 rfl rfl) (c1 _ _ ((Mono.mono ((((E1.trans E2).trans E3).trans E4).trans E5) h))) ?_;rintro u1 w6 ⟨E6,hO1⟩;have hs6:=E6.size
  refine Wo rfl (opv_makeFunc rfl rfl) <| Kj rfl (Jn (a:=u1) (b:=.func _ _ _) Tryz.call200 rfl rfl) (hdl _ _ (E6) (hO1.toB)) ?_;rintro _ w7 ⟨y1,rfl,E7,hy1⟩
  have hB1:=(hB1.ext ((((E2.trans E3).trans E4).trans E5).trans E6)).span E7 (by omega);have hB2:=(hB2.ext (((E3.trans E4).trans E5).trans E6)).span E7 (by omega);have hB3:=(hB3.ext ((E4.trans E5).trans E6)).span E7 (by omega)
  have E8:=(((((E1.trans E2).trans E3).trans E4).trans E5).trans E6).span E7 (by omega);have E9:=(((((E2.trans E3).trans E4).trans E5).trans E6)).span E7 (by omega);have szE9:=E9.size
  have E10:=((((E3.trans E4).trans E5).trans E6)).span E7 (by omega);have szE10:=E10.size;have E11:=(((E4.trans E5).trans E6)).span E7 (by omega);have szE11:=E11.size;have E12:=((E5.trans E6)).span E7 (by omega)
  have szE12:=E12.size;have E13:=(E6).span E7 (by omega);have szE13:=E13.size;have hs7:=E7.size;refine Wo rfl (Kb (v:=_) rfl) <| Kd <| Ke <| Kc rfl ?_
  refine Wo (v:=.slice _ _ _) rfl (Km Tryz.isAgg23 rfl (hB1.cell rfl)) <| Wo rfl (Ka (v:=_) rfl) <| Kj rfl (Jn (a:=.slice _ _ _) Tryz.call199 rfl rfl) (k2 _ _ _ ((Mono.mono E8 h)) (hy1)) ?_
  rintro _ w8 ⟨u2,rfl,E14,hO2⟩;have hs8:=E14.size;refine Wo rfl (Kk (v:=u2) rfl rfl) <| Wo rfl (Kk (v:=.bool _) rfl rfl) <| Wo rfl (Kb (v:=u2) rfl) ?_
  refine Wo rfl (Kb (v:=.bool _) rfl) <| Kd <| Ja ?_;refine at_ret (v:=.tuple #[u2,.bool _]) rfl ?_;exact ⟨_,rfl,(E8.trans E14),hO2.toB.o.mono (by omega)⟩
open Classical in
theorem nextSet_ok (w:World) (hM:EMx gMx w (.bool true) ()) (v:Value) (p:List (List Int)) (h:ESl Ints w v p) (hp:Pic p) (k n:Int) (t:List UInt8) (ht:t.length≤1048576) (hk1:k=1∨k=2∨t=[]) (hk2:k=3∨n=0) :
  Does Tryz.prog 138 [v,.agg #[.int .i64 k,str t,.int .i64 n]] w (RetOB w XR (og (madeV p ⟨k,t,n⟩)) (madeV p ⟨k,t,n⟩).isSome):=by
 have hle:=h.le
 have hp1:=hp.1
 have hp5:=hp.2.1
 have hN:Nod p (0:Nat):=⟨hp,by decide,by omega⟩
 obtain ⟨Q,hQ⟩ : ∃ Q,Q=(rdP t).getD []:=⟨_,rfl⟩
 obtain ⟨B,hB⟩ : ∃ B,B=(rdP t).isSome:=⟨_,rfl⟩
 obtain ⟨M,hMd⟩ : ∃ M,M=madeV p ⟨k,t,n⟩:=⟨_,rfl⟩
 rw [← hMd]
 have k0 : ∀ w,EMx gMx w (.bool true) ()→Does Tryz.prog 150 [str t] w (RetOB w XR Q B):=fun w hM=>hQ ▸ hB ▸ readPicture_ok w t hM ht
 refine fn_of_W2 Tryz.func138 rfl Tryz.results138 Tryz.ntmps138 rfl ?_
 by_cases e0:k=0
 ·subst e0
  have et:t=[]:=by rcases hk1 with h | h | h;exact absurd h (by decide);exact absurd h (by decide);exact h
  have en:n=0:=by rcases hk2 with h | h;exact absurd h (by decide);exact h
  subst et en
  have hm:M=pairV p 0 p 0:=hMd.trans (by simp [madeV])
  rw [hm]
  have k1 : ∀ (w:World) (v u:Value),ESl Ints w v p→ESl Ints w u p→Does Tryz.prog 172 [v,.int .i64 0,u,.int .i64 0] w (RetOB w XR (og (pairV p 0 p 0)) (pairV p 0 p 0).isSome):=fun w v u h1 h2=>impl_PairOf_ok w v u p p h1 h2 0 0 hN hN
  focus
   refine Ke <| Kc rfl <| Jp rfl rfl rfl ?_;rintro b1 w1 hb1 E1 hB1;have hlb1:=hB1.lt;have hs1:=E1.size;refine Wo rfl (Kb (v:=.slice _ _ _) rfl) ?_
   refine Wo rfl (Kb (v:=.bool _) rfl) <| Kd <| Ke <| Ke <| Kc rfl <| Wo rfl (Kf Tryz.underlying48 rfl rfl Tryz.sizeOf3 rfl) ?_
   refine Wo (v:=.int _ _) rfl (Km Tryz.isAgg3 rfl (hB1.cell rfl)) <| Kd <| Kr <| Ke <| Kc rfl <| Wo rfl (Kx rfl rfl) ?_
   refine Wo rfl (Kb (v:=.bool _) rfl) <| Kd <| Kg rfl (fun h1=>?_) (fun h1=>?_);refine Ke <| Kc rfl <| Wo rfl (Ka (v:=v) rfl) ?_
   refine Wo rfl (Ka (v:=v) rfl) <| Kj rfl (opc4 (a:=v) (b:=.int _ _) (c:=v) (d:=.int _ _) Tryz.call172 rfl rfl rfl rfl) (k1 _ _ _ ((Mono.mono E1 h)) ((Mono.mono E1 h))) ?_;rintro _ w2 ⟨u1,rfl,E2,hO1⟩
   have hs2:=E2.size;refine Wo rfl (Kk (v:=u1) rfl rfl) <| Wo rfl (Kk (v:=.bool _) rfl rfl) <| Wo rfl (Kb (v:=u1) rfl) <| Wo rfl (Kb (v:=.bool _) rfl) ?_
   refine Kd <| Ja ?_;refine at_ret (v:=.tuple #[u1,.bool _]) rfl ?_;exact ⟨_,rfl,(E1.trans E2),hO1.toB.o.mono (by omega)⟩;contradiction
 by_cases e1:k=1
 ·subst e1
  have en:n=0:=by rcases hk2 with h | h;exact absurd h (by decide);exact h
  subst en
  have hm:M=(rdP t).bind fun q=>(pairV q 0 q 0).bind fun s=>togV p 0 s 0:=hMd.trans (by simp only [madeV];rw [if_neg (fun h=>absurd h.1 (by decide)),if_pos (by simp)])
  cases hr:rdP t with
  | none =>
    rw [hr] at hm hB hQ
    rw [hm, show og (none.bind fun q => (pairV q 0 q 0).bind fun s => togV p 0 s 0) = [] from rfl, show (none.bind fun q => (pairV q 0 q 0).bind fun s => togV p 0 s 0).isSome = false from rfl]
    rw [hB, show (none : Option (List (List Int))).isSome = false from rfl] at k0
    focus
      refine Ke <| Kc rfl <| Jp rfl rfl rfl ?_; rintro b1 w1 hb1 E1 hB1; have hlb1 := hB1.lt; have hs1 := E1.size; refine Wo rfl (Kb (v := .slice _ _ _) rfl) ?_
      refine Wo rfl (Kb (v := .bool _) rfl) <| Kd <| Ke <| Ke <| Kc rfl <| Wo rfl (Kf Tryz.underlying48 rfl rfl Tryz.sizeOf3 rfl) ?_
      refine Wo (v := .int _ _) rfl (Km Tryz.isAgg3 rfl (hB1.cell rfl)) <| Kd <| Kr <| Ke <| Kc rfl <| Wo rfl (Kx rfl rfl) ?_
      refine Wo rfl (Kb (v := .bool _) rfl) <| Kd <| Kg rfl (fun h1 => ?_) (fun h1 => ?_); contradiction; refine Ke <| Kc rfl <| Wo rfl (Kx rfl rfl) ?_
      refine Wo rfl (Kb (v := .bool _) rfl) <| Kd <| Kg rfl (fun h2 => ?_) (fun h2 => ?_); contradiction; refine Ke <| Kc rfl <| Wo rfl (Kx rfl rfl) ?_
      refine Wo rfl (Kb (v := .bool _) rfl) <| Kd <| Kg rfl (fun h3 => ?_) (fun h3 => ?_); refine Ke <| Kc rfl ?_
      refine Wo rfl (Kf Tryz.underlying48 rfl rfl Tryz.sizeOf9 rfl) <| Wo (v := .string _) rfl (Km Tryz.isAgg9 rfl (hB1.cell rfl)) ?_
      refine Kj rfl (Jk (a := .string _) Tryz.call150 rfl) (k0 _ ((Mono.mono E1 hM))) ?_; rintro _ w2 ⟨u1, rfl, E2, hO1⟩; have hs2 := E2.size; refine Wo rfl (Ka (v := .tuple _) rfl) ?_
      refine Wo rfl (Kk (v := u1) rfl rfl) <| Wo rfl (Kk (v := .bool _) rfl rfl) <| Wo rfl (Kb (v := u1) rfl) <| Wo rfl (Kb (v := .bool _) rfl) <| Kd ?_
      refine Ke <| Ke <| Kc rfl <| Wo rfl (Ka (v := .bool _) rfl) <| Wo rfl (Jf rfl) <| Kd <| Jx rfl (fun h4 => ?_) (fun h4 => ?_); refine Ke ?_
      refine Kc rfl <| Wo rfl (Kb (v := .slice _ _ _) rfl) <| Wo rfl (Kb (v := .bool _) rfl) <| Kd <| Ja ?_; refine at_ret (v := .tuple #[.slice _ _ _, .bool _]) rfl ?_
      exact ⟨_, rfl, (E1.trans E2), Owned.nil⟩; contradiction; contradiction
  | some q =>
    rw [hr] at hm hB hQ
    rw [hB, hQ, show (some q).isSome = true from rfl, show (some q).getD [] = q from rfl] at k0
    have hq := (rdP_some hr).1
    have hNq : Nod q (0 : Nat) := ⟨hq, by decide, by have := hq.1; omega⟩
    have k1 : ∀ (w : World) (v u : Value), ESl Ints w v q → ESl Ints w u q → Does Tryz.prog 172 [v, .int .i64 0, u, .int .i64 0] w (RetOB w XR (og (pairV q 0 q 0)) (pairV q 0 q 0).isSome) := fun w v u h1 h2 => impl_PairOf_ok w v u q q h1 h2 0 0 hNq hNq
    rw [hm, show ((some q).bind fun q => (pairV q 0 q 0).bind fun s => togV p 0 s 0) = (pairV q 0 q 0).bind fun s => togV p 0 s 0 from rfl]
    cases hs : pairV q 0 q 0 with
    | none =>
      rw [hs] at k1
      rw [show (none.bind fun s => togV p 0 s 0) = none from rfl]
      rw [show og none = [] from rfl, show (none : Option (List (List Int))).isSome = false from rfl] at k1 ⊢
      focus
        refine Ke <| Kc rfl <| Jp rfl rfl rfl ?_; rintro b1 w1 hb1 E1 hB1; have hlb1 := hB1.lt; have hs1 := E1.size; refine Wo rfl (Kb (v := .slice _ _ _) rfl) ?_
        refine Wo rfl (Kb (v := .bool _) rfl) <| Kd <| Ke <| Ke <| Kc rfl <| Wo rfl (Kf Tryz.underlying48 rfl rfl Tryz.sizeOf3 rfl) ?_
        refine Wo (v := .int _ _) rfl (Km Tryz.isAgg3 rfl (hB1.cell rfl)) <| Kd <| Kr <| Ke <| Kc rfl <| Wo rfl (Kx rfl rfl) ?_
        refine Wo rfl (Kb (v := .bool _) rfl) <| Kd <| Kg rfl (fun h1 => ?_) (fun h1 => ?_); contradiction; refine Ke <| Kc rfl <| Wo rfl (Kx rfl rfl) ?_
        refine Wo rfl (Kb (v := .bool _) rfl) <| Kd <| Kg rfl (fun h2 => ?_) (fun h2 => ?_); contradiction; refine Ke <| Kc rfl <| Wo rfl (Kx rfl rfl) ?_
        refine Wo rfl (Kb (v := .bool _) rfl) <| Kd <| Kg rfl (fun h3 => ?_) (fun h3 => ?_); refine Ke <| Kc rfl ?_
        refine Wo rfl (Kf Tryz.underlying48 rfl rfl Tryz.sizeOf9 rfl) <| Wo (v := .string _) rfl (Km Tryz.isAgg9 rfl (hB1.cell rfl)) ?_
        refine Kj rfl (Jk (a := .string _) Tryz.call150 rfl) (k0 _ ((Mono.mono E1 hM))) ?_; rintro _ w2 ⟨u1, rfl, E2, hO1⟩; have hs2 := E2.size; refine Wo rfl (Ka (v := .tuple _) rfl) ?_
        refine Wo rfl (Kk (v := u1) rfl rfl) <| Wo rfl (Kk (v := .bool _) rfl rfl) <| Wo rfl (Kb (v := u1) rfl) <| Wo rfl (Kb (v := .bool _) rfl) <| Kd ?_
        refine Ke <| Ke <| Kc rfl <| Wo rfl (Ka (v := .bool _) rfl) <| Wo rfl (Jf rfl) <| Kd <| Jx rfl (fun h4 => ?_) (fun h4 => ?_); contradiction
        refine Kt ?_; refine Ke <| Kc rfl <| Wo rfl (Ka (v := u1) rfl) <| Wo rfl (Ka (v := u1) rfl) ?_
        refine Kj rfl (opc4 (a := u1) (b := .int _ _) (c := u1) (d := .int _ _) Tryz.call172 rfl rfl rfl rfl) (k1 _ _ _ ((Owned.read hO1)) ((Owned.read hO1))) ?_; rintro _ w3 ⟨u2, rfl, E3, hO2⟩; have hs3 := E3.size
        refine Wo rfl (Ka (v := .tuple _) rfl) <| Wo rfl (Kk (v := u2) rfl rfl) <| Wo rfl (Kk (v := .bool _) rfl rfl) <| Wo rfl (Kb (v := u2) rfl) ?_
        refine Wo rfl (Kb (v := .bool _) rfl) <| Kd <| Ke <| Ke <| Kc rfl <| Wo rfl (Ka (v := .bool _) rfl) <| Wo rfl (Jf rfl) <| Kd ?_
        refine Jx rfl (fun h5 => ?_) (fun h5 => ?_); refine Ke <| Kc rfl <| Wo rfl (Kb (v := .slice _ _ _) rfl) <| Wo rfl (Kb (v := .bool _) rfl) <| Kd <| Ja ?_
        refine at_ret (v := .tuple #[.slice _ _ _, .bool _]) rfl ?_; exact ⟨_, rfl, ((E1.trans E2).trans E3), Owned.nil⟩; contradiction; contradiction
    | some s =>
      rw [hs] at k1
      rw [show ((some s).bind fun s => togV p 0 s 0) = togV p 0 s 0 from rfl]
      rw [show og (some s) = s from rfl, show (some s).isSome = true from rfl] at k1
      have hsp := (pairV_some hq hq hs).1
      have hNs : Nod s (0 : Nat) := ⟨hsp, by decide, by have := hsp.1; omega⟩
      have k2 : ∀ (w : World) (v u : Value), ESl Ints w v p → ESl Ints w u s → Does Tryz.prog 173 [v, .int .i64 0, u, .int .i64 0] w (RetOB w XR (og (togV p 0 s 0)) (togV p 0 s 0).isSome) := fun w v u h1 h2 => impl_TogetherOf_ok w v u p s h1 h2 0 0 hN hNs
      focus
        refine Ke <| Kc rfl <| Jp rfl rfl rfl ?_; rintro b1 w1 hb1 E1 hB1; have hlb1 := hB1.lt; have hs1 := E1.size; refine Wo rfl (Kb (v := .slice _ _ _) rfl) ?_
        refine Wo rfl (Kb (v := .bool _) rfl) <| Kd <| Ke <| Ke <| Kc rfl <| Wo rfl (Kf Tryz.underlying48 rfl rfl Tryz.sizeOf3 rfl) ?_
        refine Wo (v := .int _ _) rfl (Km Tryz.isAgg3 rfl (hB1.cell rfl)) <| Kd <| Kr <| Ke <| Kc rfl <| Wo rfl (Kx rfl rfl) ?_
        refine Wo rfl (Kb (v := .bool _) rfl) <| Kd <| Kg rfl (fun h1 => ?_) (fun h1 => ?_); contradiction; refine Ke <| Kc rfl <| Wo rfl (Kx rfl rfl) ?_
        refine Wo rfl (Kb (v := .bool _) rfl) <| Kd <| Kg rfl (fun h2 => ?_) (fun h2 => ?_); contradiction; refine Ke <| Kc rfl <| Wo rfl (Kx rfl rfl) ?_
        refine Wo rfl (Kb (v := .bool _) rfl) <| Kd <| Kg rfl (fun h3 => ?_) (fun h3 => ?_); refine Ke <| Kc rfl ?_
        refine Wo rfl (Kf Tryz.underlying48 rfl rfl Tryz.sizeOf9 rfl) <| Wo (v := .string _) rfl (Km Tryz.isAgg9 rfl (hB1.cell rfl)) ?_
        refine Kj rfl (Jk (a := .string _) Tryz.call150 rfl) (k0 _ ((Mono.mono E1 hM))) ?_; rintro _ w2 ⟨u1, rfl, E2, hO1⟩; have hs2 := E2.size; refine Wo rfl (Ka (v := .tuple _) rfl) ?_
        refine Wo rfl (Kk (v := u1) rfl rfl) <| Wo rfl (Kk (v := .bool _) rfl rfl) <| Wo rfl (Kb (v := u1) rfl) <| Wo rfl (Kb (v := .bool _) rfl) <| Kd ?_
        refine Ke <| Ke <| Kc rfl <| Wo rfl (Ka (v := .bool _) rfl) <| Wo rfl (Jf rfl) <| Kd <| Jx rfl (fun h4 => ?_) (fun h4 => ?_); contradiction
        refine Kt ?_; refine Ke <| Kc rfl <| Wo rfl (Ka (v := u1) rfl) <| Wo rfl (Ka (v := u1) rfl) ?_
        refine Kj rfl (opc4 (a := u1) (b := .int _ _) (c := u1) (d := .int _ _) Tryz.call172 rfl rfl rfl rfl) (k1 _ _ _ ((Owned.read hO1)) ((Owned.read hO1))) ?_; rintro _ w3 ⟨u2, rfl, E3, hO2⟩; have hs3 := E3.size
        refine Wo rfl (Ka (v := .tuple _) rfl) <| Wo rfl (Kk (v := u2) rfl rfl) <| Wo rfl (Kk (v := .bool _) rfl rfl) <| Wo rfl (Kb (v := u2) rfl) ?_
        refine Wo rfl (Kb (v := .bool _) rfl) <| Kd <| Ke <| Ke <| Kc rfl <| Wo rfl (Ka (v := .bool _) rfl) <| Wo rfl (Jf rfl) <| Kd ?_
        refine Jx rfl (fun h5 => ?_) (fun h5 => ?_); contradiction; refine Kt ?_; refine Ke <| Kc rfl <| Wo rfl (Ka (v := v) rfl) <| Wo rfl (Ka (v := u2) rfl) ?_
        refine Kj rfl (opc4 (a := v) (b := .int _ _) (c := u2) (d := .int _ _) Tryz.call173 rfl rfl rfl rfl) (k2 _ _ _ ((Mono.mono ((E1.trans E2).trans E3) h)) ((Owned.read hO2))) ?_; rintro _ w4 ⟨u3, rfl, E4, hO3⟩; have hs4 := E4.size
        refine Wo rfl (Kk (v := u3) rfl rfl) <| Wo rfl (Kk (v := .bool _) rfl rfl) <| Wo rfl (Kb (v := u3) rfl) <| Wo rfl (Kb (v := .bool _) rfl) <| Kd ?_
        refine Ja ?_; refine at_ret (v := .tuple #[u3, .bool _]) rfl ?_; exact ⟨_, rfl, (((E1.trans E2).trans E3).trans E4), hO3.toB.o.mono (by omega)⟩; contradiction
 by_cases e2:k=2
 ·subst e2
  have en:n=0:=by rcases hk2 with h | h;exact absurd h (by decide);exact h
  subst en
  have hm:M=(rdP t).bind fun q=>wosV p 0 q 0:=hMd.trans (by simp only [madeV];rw [if_neg (fun h=>absurd h.1 (by decide)),if_neg (fun h=>absurd h.1 (by decide)),if_pos (by simp)])
  cases hr:rdP t with
  | none =>
    rw [hr] at hm hB hQ
    rw [hm, show og (none.bind fun q => wosV p 0 q 0) = [] from rfl, show (none.bind fun q => wosV p 0 q 0).isSome = false from rfl]
    rw [hB, show (none : Option (List (List Int))).isSome = false from rfl] at k0
    focus
      refine Ke <| Kc rfl <| Jp rfl rfl rfl ?_; rintro b1 w1 hb1 E1 hB1; have hlb1 := hB1.lt; have hs1 := E1.size; refine Wo rfl (Kb (v := .slice _ _ _) rfl) ?_
      refine Wo rfl (Kb (v := .bool _) rfl) <| Kd <| Ke <| Ke <| Kc rfl <| Wo rfl (Kf Tryz.underlying48 rfl rfl Tryz.sizeOf3 rfl) ?_
      refine Wo (v := .int _ _) rfl (Km Tryz.isAgg3 rfl (hB1.cell rfl)) <| Kd <| Kr <| Ke <| Kc rfl <| Wo rfl (Kx rfl rfl) ?_
      refine Wo rfl (Kb (v := .bool _) rfl) <| Kd <| Kg rfl (fun h1 => ?_) (fun h1 => ?_); contradiction; refine Ke <| Kc rfl <| Wo rfl (Kx rfl rfl) ?_
      refine Wo rfl (Kb (v := .bool _) rfl) <| Kd <| Kg rfl (fun h2 => ?_) (fun h2 => ?_); contradiction; refine Ke <| Kc rfl <| Wo rfl (Kx rfl rfl) ?_
      refine Wo rfl (Kb (v := .bool _) rfl) <| Kd <| Kg rfl (fun h3 => ?_) (fun h3 => ?_); contradiction; refine Ke <| Kc rfl <| Wo rfl (Kx rfl rfl) ?_
      refine Wo rfl (Kb (v := .bool _) rfl) <| Kd <| Kg rfl (fun h4 => ?_) (fun h4 => ?_); refine Ke <| Kc rfl ?_
      refine Wo rfl (Kf Tryz.underlying48 rfl rfl Tryz.sizeOf9 rfl) <| Wo (v := .string _) rfl (Km Tryz.isAgg9 rfl (hB1.cell rfl)) ?_
      refine Kj rfl (Jk (a := .string _) Tryz.call150 rfl) (k0 _ ((Mono.mono E1 hM))) ?_; rintro _ w2 ⟨u1, rfl, E2, hO1⟩; have hs2 := E2.size; refine Wo rfl (Ka (v := .tuple _) rfl) ?_
      refine Wo rfl (Kk (v := u1) rfl rfl) <| Wo rfl (Kk (v := .bool _) rfl rfl) <| Wo rfl (Kb (v := u1) rfl) <| Wo rfl (Kb (v := .bool _) rfl) <| Kd ?_
      refine Ke <| Ke <| Kc rfl <| Wo rfl (Ka (v := .bool _) rfl) <| Wo rfl (Jf rfl) <| Kd <| Jx rfl (fun h5 => ?_) (fun h5 => ?_); refine Ke ?_
      refine Kc rfl <| Wo rfl (Kb (v := .slice _ _ _) rfl) <| Wo rfl (Kb (v := .bool _) rfl) <| Kd <| Ja ?_; refine at_ret (v := .tuple #[.slice _ _ _, .bool _]) rfl ?_
      exact ⟨_, rfl, (E1.trans E2), Owned.nil⟩; contradiction; contradiction
  | some q =>
    rw [hr] at hm hB hQ
    rw [hB, hQ, show (some q).isSome = true from rfl, show (some q).getD [] = q from rfl] at k0
    have hq := (rdP_some hr).1
    have hNq : Nod q (0 : Nat) := ⟨hq, by decide, by have := hq.1; omega⟩
    have k1 : ∀ (w : World) (v u : Value), ESl Ints w v p → ESl Ints w u q → Does Tryz.prog 174 [v, .int .i64 0, u, .int .i64 0] w (RetOB w XR (og (wosV p 0 q 0)) (wosV p 0 q 0).isSome) := fun w v u h1 h2 => impl_WithoutSet_ok w v u p q h1 h2 0 0 hN hNq
    rw [hm, show ((some q).bind fun q => wosV p 0 q 0) = wosV p 0 q 0 from rfl]
    focus
      refine Ke <| Kc rfl <| Jp rfl rfl rfl ?_; rintro b1 w1 hb1 E1 hB1; have hlb1 := hB1.lt; have hs1 := E1.size; refine Wo rfl (Kb (v := .slice _ _ _) rfl) ?_
      refine Wo rfl (Kb (v := .bool _) rfl) <| Kd <| Ke <| Ke <| Kc rfl <| Wo rfl (Kf Tryz.underlying48 rfl rfl Tryz.sizeOf3 rfl) ?_
      refine Wo (v := .int _ _) rfl (Km Tryz.isAgg3 rfl (hB1.cell rfl)) <| Kd <| Kr <| Ke <| Kc rfl <| Wo rfl (Kx rfl rfl) ?_
      refine Wo rfl (Kb (v := .bool _) rfl) <| Kd <| Kg rfl (fun h1 => ?_) (fun h1 => ?_); contradiction; refine Ke <| Kc rfl <| Wo rfl (Kx rfl rfl) ?_
      refine Wo rfl (Kb (v := .bool _) rfl) <| Kd <| Kg rfl (fun h2 => ?_) (fun h2 => ?_); contradiction; refine Ke <| Kc rfl <| Wo rfl (Kx rfl rfl) ?_
      refine Wo rfl (Kb (v := .bool _) rfl) <| Kd <| Kg rfl (fun h3 => ?_) (fun h3 => ?_); contradiction; refine Ke <| Kc rfl <| Wo rfl (Kx rfl rfl) ?_
      refine Wo rfl (Kb (v := .bool _) rfl) <| Kd <| Kg rfl (fun h4 => ?_) (fun h4 => ?_); refine Ke <| Kc rfl ?_
      refine Wo rfl (Kf Tryz.underlying48 rfl rfl Tryz.sizeOf9 rfl) <| Wo (v := .string _) rfl (Km Tryz.isAgg9 rfl (hB1.cell rfl)) ?_
      refine Kj rfl (Jk (a := .string _) Tryz.call150 rfl) (k0 _ ((Mono.mono E1 hM))) ?_; rintro _ w2 ⟨u1, rfl, E2, hO1⟩; have hs2 := E2.size; refine Wo rfl (Ka (v := .tuple _) rfl) ?_
      refine Wo rfl (Kk (v := u1) rfl rfl) <| Wo rfl (Kk (v := .bool _) rfl rfl) <| Wo rfl (Kb (v := u1) rfl) <| Wo rfl (Kb (v := .bool _) rfl) <| Kd ?_
      refine Ke <| Ke <| Kc rfl <| Wo rfl (Ka (v := .bool _) rfl) <| Wo rfl (Jf rfl) <| Kd <| Jx rfl (fun h5 => ?_) (fun h5 => ?_); contradiction
      refine Kt ?_; refine Ke <| Kc rfl <| Wo rfl (Ka (v := v) rfl) <| Wo rfl (Ka (v := u1) rfl) ?_
      refine Kj rfl (opc4 (a := v) (b := .int _ _) (c := u1) (d := .int _ _) Tryz.call174 rfl rfl rfl rfl) (k1 _ _ _ ((Mono.mono (E1.trans E2) h)) ((Owned.read hO1))) ?_; rintro _ w3 ⟨u2, rfl, E3, hO2⟩; have hs3 := E3.size
      refine Wo rfl (Kk (v := u2) rfl rfl) <| Wo rfl (Kk (v := .bool _) rfl rfl) <| Wo rfl (Kb (v := u2) rfl) <| Wo rfl (Kb (v := .bool _) rfl) <| Kd ?_
      refine Ja ?_; refine at_ret (v := .tuple #[u2, .bool _]) rfl ?_; exact ⟨_, rfl, ((E1.trans E2).trans E3), hO2.toB.o.mono (by omega)⟩; contradiction
 by_cases e3:k=3
 ·subst e3
  have et:t=[]:=by rcases hk1 with h | h | h;exact absurd h (by decide);exact absurd h (by decide);exact h
  subst et
  by_cases en:Nod p n
  ·have k2 : ∀ (w:World) (v:Value),ESl Ints w v p→Does Tryz.prog 94 [v,.int .i64 n] w (Ret w (.bool true)):=fun w v h=>by
    have:=hasNode_ok w v p h n;rwa [decide_eq_true en] at this
   have hrow:p[0].length=p.length:=hp.row hp1
   have en2:=en.2
   obtain ⟨i,rfl⟩ : ∃ i:Nat,n=i:=⟨n.toNat,by omega⟩
   have hil:i < p.length:=by omega
   have hbit:bit p 0 i=p[0][i]:=by unfold bit;rw [getD_lt hp1,getD_lt (show i < p[0].length by omega)]
   have h01:p[0][i]=0∨p[0][i]=1:=(hp.2.2 _ (List.getElem_mem hp1)).2 _ (List.getElem_mem (by omega))
   by_cases eb:p[0][i]=1
   ·have hm:M=some (lst p i):=hMd.trans (by simp only [madeV];rw [if_neg (fun h=>absurd h.1 (by decide)),if_neg (fun h=>absurd h.1 (by decide)),if_neg (fun h=>absurd h.1 (by decide)),if_pos ⟨trivial,trivial,by omega,by omega,by rw [Int.toNat_natCast,hbit,eb]⟩,Int.toNat_natCast])
    have hl:=lst_pic hp (a:=i) hil
    have k3 : ∀ (w:World) (v:Value),ESl Ints w v p→Does Tryz.prog 153 [v,.int .i64 (i:Int)] w (RetOB w XR (lst p i) true):=fun w v h=>by
     have:=leastOf_ok w v p h hp.gr i hil
     rwa [if_pos hl.2.1,decide_eq_true hl.2.1] at this
    have eb0 : ¬p[0][i]=0:=by rw [eb];decide
    rw [hm,show og (some (lst p i))=lst p i from rfl,show (some (lst p i)).isSome=true from rfl]
    focus
     refine Ke <| Kc rfl <| Jp rfl rfl rfl ?_;rintro b1 w1 hb1 E1 hB1;have hlb1:=hB1.lt;have hs1:=E1.size;refine Wo rfl (Kb (v:=.slice _ _ _) rfl) ?_
     refine Wo rfl (Kb (v:=.bool _) rfl) <| Kd <| Ke <| Ke <| Kc rfl <| Wo rfl (Kf Tryz.underlying48 rfl rfl Tryz.sizeOf3 rfl) ?_
     refine Wo (v:=.int _ _) rfl (Km Tryz.isAgg3 rfl (hB1.cell rfl)) <| Kd <| Kr <| Ke <| Kc rfl <| Wo rfl (Kx rfl rfl) ?_
     refine Wo rfl (Kb (v:=.bool _) rfl) <| Kd <| Kg rfl (fun h1=>?_) (fun h1=>?_);contradiction;refine Ke <| Kc rfl <| Wo rfl (Kx rfl rfl) ?_
     refine Wo rfl (Kb (v:=.bool _) rfl) <| Kd <| Kg rfl (fun h2=>?_) (fun h2=>?_);refine Ke <| Ke <| W_draw mixed (by kernel_rfl) rfl ?_
     refine Jb rfl (fun _ _=>Ka (v:=v) rfl) ?_;refine Jb rfl (fun _ _=>Kf Tryz.underlying48 rfl rfl Tryz.sizeOf3 rfl) ?_
     refine Jb (v:=.int _ _) rfl (fun w' hw'=>Km Tryz.isAgg3 rfl ((hB1.ext hw').cell rfl)) ?_
     refine Wq_call rfl (fun _ _=>Jn (a:=v) (b:=.int _ _) Tryz.call94 rfl rfl) (fun w' hw'=>(k2 _ _ ((Mono.mono (E1.trans hw') h)))) ?_;refine Jb rfl (fun _ _=>Jf rfl) ?_
     refine Wq_split rfl (fun _ _=>Ka (v:=.bool _) rfl) (fun h3=>?_) (fun h3=>?_);contradiction;refine Jb rfl (fun _ _=>Ka (v:=v) rfl) ?_
     refine Wq_get (k:=0) Tryz.underlying23 Tryz.sizeOf88 Tryz.isAgg88 rfl (fun _=>rfl) rfl h E1 rfl (by first | omega | (simp <;> omega)) ?_;rintro _ u1 hu1
     refine Jb rfl (fun _ _=>Kf Tryz.underlying48 rfl rfl Tryz.sizeOf3 rfl) ?_;refine Jb (v:=.int _ _) rfl (fun w' hw'=>Km Tryz.isAgg3 rfl ((hB1.ext hw').cell rfl)) ?_
     refine Wq_get Tryz.underlying88 Tryz.sizeOf3 Tryz.isAgg3 rfl (fun _=>rfl) rfl hu1 E1 rfl (by first | omega | (simp <;> omega)) ?_;rintro _ _ rfl;refine Jb rfl (fun _ _=>Kx rfl rfl) ?_
     refine Jb rfl (fun _ _=>Kn (v:=.bool _) rfl rfl) ?_;refine Wq_nil (fun w2 E2=>?_);have hs2:=E2.size;refine Kg rfl (fun h4=>?_) (fun h4=>?_);contradiction;refine Kt ?_;refine Ke ?_
     refine Kc rfl <| Wo rfl (Ka (v:=v) rfl) <| Wo rfl (Kf Tryz.underlying48 rfl rfl Tryz.sizeOf3 rfl) <| Wo (v:=.int _ _) rfl (Km Tryz.isAgg3 rfl ((hB1.ext E2).cell rfl)) ?_
     refine Kj rfl (Jn (a:=v) (b:=.int _ _) Tryz.call153 rfl rfl) (k3 _ _ ((Mono.mono (E1.trans E2) h))) ?_;rintro _ w3 ⟨u2,rfl,E3,hO1⟩;have hs3:=E3.size;refine Wo rfl (Kk (v:=u2) rfl rfl) ?_
     refine Wo rfl (Kk (v:=.bool _) rfl rfl) <| Wo rfl (Kb (v:=u2) rfl) <| Wo rfl (Kb (v:=.bool _) rfl) <| Kd <| Ja ?_
     refine at_ret (v:=.tuple #[u2,.bool _]) rfl ?_;exact ⟨_,rfl,((E1.trans E2).trans E3),hO1.toB.o.mono (by omega)⟩;contradiction
   ·have eb0:p[0][i]=0:=by omega
    have hm:M=none:=hMd.trans (by simp only [madeV];rw [if_neg (fun h=>absurd h.1 (by decide)),if_neg (fun h=>absurd h.1 (by decide)),if_neg (fun h=>absurd h.1 (by decide)),if_neg (fun h=>eb (by have:=h.2.2.2.2;rwa [Int.toNat_natCast,hbit] at this))])
    rw [hm,show og none=[] from rfl,show (none:Option (List (List Int))).isSome=false from rfl]
    focus
     refine Ke <| Kc rfl <| Jp rfl rfl rfl ?_;rintro b1 w1 hb1 E1 hB1;have hlb1:=hB1.lt;have hs1:=E1.size;refine Wo rfl (Kb (v:=.slice _ _ _) rfl) ?_
     refine Wo rfl (Kb (v:=.bool _) rfl) <| Kd <| Ke <| Ke <| Kc rfl <| Wo rfl (Kf Tryz.underlying48 rfl rfl Tryz.sizeOf3 rfl) ?_
     refine Wo (v:=.int _ _) rfl (Km Tryz.isAgg3 rfl (hB1.cell rfl)) <| Kd <| Kr <| Ke <| Kc rfl <| Wo rfl (Kx rfl rfl) ?_
     refine Wo rfl (Kb (v:=.bool _) rfl) <| Kd <| Kg rfl (fun h1=>?_) (fun h1=>?_);contradiction;refine Ke <| Kc rfl <| Wo rfl (Kx rfl rfl) ?_
     refine Wo rfl (Kb (v:=.bool _) rfl) <| Kd <| Kg rfl (fun h2=>?_) (fun h2=>?_);refine Ke <| Ke <| W_draw mixed (by kernel_rfl) rfl ?_
     refine Jb rfl (fun _ _=>Ka (v:=v) rfl) ?_;refine Jb rfl (fun _ _=>Kf Tryz.underlying48 rfl rfl Tryz.sizeOf3 rfl) ?_
     refine Jb (v:=.int _ _) rfl (fun w' hw'=>Km Tryz.isAgg3 rfl ((hB1.ext hw').cell rfl)) ?_
     refine Wq_call rfl (fun _ _=>Jn (a:=v) (b:=.int _ _) Tryz.call94 rfl rfl) (fun w' hw'=>(k2 _ _ ((Mono.mono (E1.trans hw') h)))) ?_;refine Jb rfl (fun _ _=>Jf rfl) ?_
     refine Wq_split rfl (fun _ _=>Ka (v:=.bool _) rfl) (fun h3=>?_) (fun h3=>?_);contradiction;refine Jb rfl (fun _ _=>Ka (v:=v) rfl) ?_
     refine Wq_get (k:=0) Tryz.underlying23 Tryz.sizeOf88 Tryz.isAgg88 rfl (fun _=>rfl) rfl h E1 rfl (by first | omega | (simp <;> omega)) ?_;rintro _ u1 hu1
     refine Jb rfl (fun _ _=>Kf Tryz.underlying48 rfl rfl Tryz.sizeOf3 rfl) ?_;refine Jb (v:=.int _ _) rfl (fun w' hw'=>Km Tryz.isAgg3 rfl ((hB1.ext hw').cell rfl)) ?_
     refine Wq_get Tryz.underlying88 Tryz.sizeOf3 Tryz.isAgg3 rfl (fun _=>rfl) rfl hu1 E1 rfl (by first | omega | (simp <;> omega)) ?_;rintro _ _ rfl;refine Jb rfl (fun _ _=>Kx rfl rfl) ?_
     refine Jb rfl (fun _ _=>Kn (v:=.bool _) rfl rfl) ?_;refine Wq_nil (fun w2 E2=>?_);have hs2:=E2.size;refine Kg rfl (fun h4=>?_) (fun h4=>?_);refine Ke <| Kc rfl ?_
     refine Wo rfl (Kb (v:=.slice _ _ _) rfl) <| Wo rfl (Kb (v:=.bool _) rfl) <| Kd <| Ja ?_;refine at_ret (v:=.tuple #[.slice _ _ _,.bool _]) rfl ?_
     exact ⟨_,rfl,(E1.trans E2),Owned.nil⟩;contradiction;contradiction
  ·have k2 : ∀ (w:World) (v:Value),ESl Ints w v p→Does Tryz.prog 94 [v,.int .i64 n] w (Ret w (.bool false)):=fun w v h=>by
    have:=hasNode_ok w v p h n;rwa [decide_eq_false en] at this
   have hm:M=none:=hMd.trans (by simp only [madeV];rw [if_neg (fun h=>absurd h.1 (by decide)),if_neg (fun h=>absurd h.1 (by decide)),if_neg (fun h=>absurd h.1 (by decide)),if_neg (fun h=>en ⟨hp,h.2.2.1,by have:=h.2.2.2.1;omega⟩)])
   rw [hm,show og none=[] from rfl,show (none:Option (List (List Int))).isSome=false from rfl]
   focus
    refine Ke <| Kc rfl <| Jp rfl rfl rfl ?_;rintro b1 w1 hb1 E1 hB1;have hlb1:=hB1.lt;have hs1:=E1.size;refine Wo rfl (Kb (v:=.slice _ _ _) rfl) ?_
    refine Wo rfl (Kb (v:=.bool _) rfl) <| Kd <| Ke <| Ke <| Kc rfl <| Wo rfl (Kf Tryz.underlying48 rfl rfl Tryz.sizeOf3 rfl) ?_
    refine Wo (v:=.int _ _) rfl (Km Tryz.isAgg3 rfl (hB1.cell rfl)) <| Kd <| Kr <| Ke <| Kc rfl <| Wo rfl (Kx rfl rfl) ?_
    refine Wo rfl (Kb (v:=.bool _) rfl) <| Kd <| Kg rfl (fun h1=>?_) (fun h1=>?_);contradiction;refine Ke <| Kc rfl <| Wo rfl (Kx rfl rfl) ?_
    refine Wo rfl (Kb (v:=.bool _) rfl) <| Kd <| Kg rfl (fun h2=>?_) (fun h2=>?_);refine Ke <| Ke <| W_draw mixed (by kernel_rfl) rfl ?_
    refine Jb rfl (fun _ _=>Ka (v:=v) rfl) ?_;refine Jb rfl (fun _ _=>Kf Tryz.underlying48 rfl rfl Tryz.sizeOf3 rfl) ?_
    refine Jb (v:=.int _ _) rfl (fun w' hw'=>Km Tryz.isAgg3 rfl ((hB1.ext hw').cell rfl)) ?_
    refine Wq_call rfl (fun _ _=>Jn (a:=v) (b:=.int _ _) Tryz.call94 rfl rfl) (fun w' hw'=>(k2 _ _ ((Mono.mono (E1.trans hw') h)))) ?_;refine Jb rfl (fun _ _=>Jf rfl) ?_
    refine Wq_split rfl (fun _ _=>Ka (v:=.bool _) rfl) (fun h3=>?_) (fun h3=>?_);refine Kq rfl <| Kq rfl <| Kq rfl <| Kq rfl <| Kq rfl <| Kq rfl ?_
    refine Kq rfl <| Kq rfl <| Jb rfl (fun _ _=>Kz (v:=.bool _) rfl rfl) ?_;refine Wq_nil (fun w2 E2=>?_);have hs2:=E2.size;refine Ga rfl ?_;refine Ke ?_
    refine Kc rfl <| Wo rfl (Kb (v:=.slice _ _ _) rfl) <| Wo rfl (Kb (v:=.bool _) rfl) <| Kd <| Ja ?_;refine at_ret (v:=.tuple #[.slice _ _ _,.bool _]) rfl ?_
    exact ⟨_,rfl,(E1.trans E2),Owned.nil⟩;contradiction;contradiction
 have hm:M=none:=hMd.trans (by simp only [madeV];rw [if_neg (fun h=>e0 h.1),if_neg (fun h=>e1 h.1),if_neg (fun h=>e2 h.1),if_neg (fun h=>e3 h.1)])
 rw [hm,show og none=[] from rfl,show (none:Option (List (List Int))).isSome=false from rfl]
 focus
  refine Ke <| Kc rfl <| Jp rfl rfl rfl ?_;rintro b1 w1 hb1 E1 hB1;have hlb1:=hB1.lt;have hs1:=E1.size;refine Wo rfl (Kb (v:=.slice _ _ _) rfl) ?_
  refine Wo rfl (Kb (v:=.bool _) rfl) <| Kd <| Ke <| Ke <| Kc rfl <| Wo rfl (Kf Tryz.underlying48 rfl rfl Tryz.sizeOf3 rfl) ?_
  refine Wo (v:=.int _ _) rfl (Km Tryz.isAgg3 rfl (hB1.cell rfl)) <| Kd <| Kr <| Ke <| Kc rfl <| Wo rfl (Kx rfl rfl) ?_
  refine Wo rfl (Kb (v:=.bool _) rfl) <| Kd <| Kg rfl (fun h1=>?_) (fun h1=>?_);contradiction;refine Ke <| Kc rfl <| Wo rfl (Kx rfl rfl) ?_
  refine Wo rfl (Kb (v:=.bool _) rfl) <| Kd <| Kg rfl (fun h2=>?_) (fun h2=>?_);contradiction;refine Ke <| Kc rfl <| Wo rfl (Kx rfl rfl) ?_
  refine Wo rfl (Kb (v:=.bool _) rfl) <| Kd <| Kg rfl (fun h3=>?_) (fun h3=>?_);contradiction;refine Ke <| Kc rfl <| Wo rfl (Kx rfl rfl) ?_
  refine Wo rfl (Kb (v:=.bool _) rfl) <| Kd <| Kg rfl (fun h4=>?_) (fun h4=>?_);contradiction;refine Kt ?_;refine Ke <| Kc rfl ?_
  refine Wo rfl (Kb (v:=.slice _ _ _) rfl) <| Wo rfl (Kb (v:=.bool _) rfl) <| Kd <| Ja ?_;refine at_ret (v:=.tuple #[.slice _ _ _,.bool _]) rfl ?_;exact ⟨_,rfl,E1,Owned.nil⟩
theorem marksS_get : ∀ (p:List (List Int)) (k0:Int) (i:Nat) (hi:i < p.length),(marksS k0 p)[i]'(by rw [marksS_len];exact hi)=marks (k0+total (p.take i)) p[i].length:=by
 intro p
 induction p with
 | nil=>intro k0 i hi;cases hi
 | cons a p ih =>
   intro k0 i hi
   cases i with
   | zero => simp [marksS, total]
   | succ i =>
     simp only [marksS, List.getElem_cons_succ, List.take_succ_cons, total]
     rw [ih _ i (by simpa using hi)]
     congr 1; omega
theorem heldIntSS_ok (w:World) (v:Value) (p:List (List Int)) (k0:Int) (h:ESl Ints w v (marksS k0 p)) (hk0:0≤k0∧k0≤1048576) (hn:p.length≤1048576) (ht:total p≤1099511627776 - 1048576):Does Tryz.prog 89 [v,.int .i64 k0] w (Ret w (.int .i64 (k0+total p))):=by
 have hml:=marksS_len k0 p
 have hle:=h.le
 refine Jc Tryz.func89 rfl Tryz.results89 Tryz.ntmps89 rfl ?_
 focus
  refine Ke <| Kc rfl <| Wo rfl (Kb (v:=.int _ _) rfl) <| Kd <| Ke <| Ke <| Kc rfl <| Wo rfl (Kb (v:=.int _ _) rfl) ?_
  refine Kd <| Kr ?_
 refine Jh [1,4,5,6,7,8,9,10,11,12,13,14,15,16,17,18,19] (fun (k,m)=>[(5,.int .i64 (k:Nat)),(1,.int .i64 (m:Int))]) (fun (k,m) w'=>Ext w w'∧k≤p.length∧m=k0+(total (p.take k):Nat)) (fun x=>p.length - x.1) (0,k0) (by repeat (first | exact trivial | refine And.intro rfl ?_)) ?_ ?_
 ·exact ⟨Ext.refl _,Nat.zero_le _,by simp [total]⟩
 rintro ⟨k,m⟩ ρj w1 ⟨E1,hk,hm0⟩
 by_cases hlt:k < p.length
 ·have hg:=marksS_get p k0 k hlt
  have htk:=total_take_le p k
  have htk1:=total_take_le p (k+1)
  have hte:=total_ge p hlt
  have kH : ∀ (w:World) (u:Value),Ints w u ((marksS k0 p)[k]'(by omega))→Does Tryz.prog 137 [u,.int .i64 m] w (Ret w (.int .i64 (k0+(total (p.take (k+1)):Nat)))):=fun w u h=>by
   rw [hg,← hm0] at h
   have:=heldIntS_ok w u p[k].length m h (by omega) (by omega)
   rw [show m+(p[k].length:Int)=k0+(total (p.take (k+1)):Nat) by omega] at this
   exact this
  focus
   have szE1:=E1.size;refine Ke <| Ke <| Kc rfl <| Wo rfl (Ka (v:=.int _ _) rfl) <| Wo rfl (Ka (v:=v) rfl) <| Wo rfl (Ko Tryz.underlying23 rfl h) ?_
   refine Wo rfl (Ks rfl rfl) <| Kd <| Kg rfl (fun h1=>?_) (fun h1=>?_);refine Kt ?_;refine Ke <| Kr <| Ke <| Kc rfl ?_
   refine Wo rfl (Ka (v:=v) rfl) <| Wo rfl (Ka (v:=.int _ _) rfl) <| Ji Tryz.underlying23 Tryz.sizeOf88 Tryz.isAgg88 rfl (fun _=>rfl) rfl h E1 rfl (by first | omega | (simp <;> omega)) ?_
   rintro _ u1 hu1;refine Wo rfl (Ka (v:=.int _ _) rfl) <| Kj rfl (Jn (a:=u1) (b:=.int _ _) Tryz.call137 rfl rfl) (kH _ _ ((Mono.mono E1 hu1))) ?_;rintro _ w2 ⟨rfl,E2⟩;have hs1:=E2.size
   refine Wo rfl (Kb (v:=.int _ _) rfl) <| Kd <| Ke <| Kc rfl <| Wo rfl (Ka (v:=.int _ _) rfl) <| Wo rfl (Ks rfl rfl) <| Kd ?_
   refine Kg rfl (fun h2=>?_) (fun h2=>?_);(exfalso;omega);refine Kt ?_;refine Kc rfl <| Wo rfl (Ka (v:=.int _ _) rfl) <| Wo rfl (Kw rfl rfl (by omega)) ?_
   refine Wo rfl (Kb (v:=.int _ _) rfl) <| Kd ?_;rotate_left;(exfalso;omega)
  refine ⟨((k+1,k0+(total (p.take (k+1)):Nat))),by repeat (first | exact trivial | refine And.intro rfl ?_),by repeat (first | with_reducible exact Same.refl | refine Same.upd rfl ?_ | refine Same.upds rfl ?_ | refine Same.mix rfl ?_),?_,?_⟩
  ·exact ⟨by first | assumption | exact E1.trans E2,by omega,rfl⟩
  ·simp only;omega
 ·obtain rfl:k=p.length:=by omega
  rw [List.take_length] at hm0
  subst hm0
  focus
   have szE1:=E1.size;refine Ke <| Ke <| Kc rfl <| Wo rfl (Ka (v:=.int _ _) rfl) <| Wo rfl (Ka (v:=v) rfl) <| Wo rfl (Ko Tryz.underlying23 rfl h) ?_
   refine Wo rfl (Ks rfl rfl) <| Kd <| Kg rfl (fun h1=>?_) (fun h1=>?_);(exfalso;omega);refine Jg ?_;refine exitX_same ?_;refine Ke <| Kc rfl ?_
   refine Wo rfl (Ka (v:=.int _ _) rfl) <| Wo rfl (Kb (v:=.int _ _) rfl) <| Kd <| Ja ?_;exact ⟨rfl,E1⟩
end Go.Proofs.YtbgpppaljpngmaaGreatDoor
set_option linter.unusedVariables false
namespace Go.Hs
section
variable {β : Type} {P:Program} {n d:Nat} {N:Env→World→Prop} {ρ : Env} {w:World} {all:Array Oper} {rest:List Oper} {t e ty:TypeId} {pos:String} {after:Array Edge} {g:Option (Nat × Bool)} {x:Operand} {k:IntKind}
theorem Wo_makeN (e2:TypeId) (Y:World→List Nat→Value→β→Prop) (hw:wantedE all ⟨some d,.makeSlice t x x,ty,pos,after,g⟩ ρ = true) (hel:El P t e (.slice none 0 0)) {m:Nat} (hx:evalE ρ x=.int k (m:Int)) (ha:m≤1099511627776)
  (hk : ∀ b w1,w.heap.size≤b→b < w1.heap.size→Ext w w1→Owned w.heap.size (XSl e (XSl e2 Y)) w1 (.slice (some ⟨b,0,none⟩) m m) (List.replicate m [])→Wops P n all rest N (upd ρ d (.slice (some ⟨b,0,none⟩) m m)) w1) :
  Wops P n all (⟨some d,.makeSlice t x x,ty,pos,after,g⟩::rest) N ρ w:=Wo_make hw hel hx ha (fun w=>XSl.nil w) hk
end
theorem opc_val2 {P:Program} {ρ : Env} {w:World} {ty:TypeId} {f:FuncId} {cap:List Value} {x x0 x1:Operand} {ts:Array TypeId} {a b:Value} (hc : ∀ args w,Sem.run P (callFunc f args) w=.ok (.enter f args) w)
  (hx:evalE ρ x=.func (.func f) [].toArray cap.toArray) (h0:evalE ρ x0=a) (h1:evalE ρ x1=b) :
  OpC P (.call { callee:=.value x,args:=#[x0,x1],argTypes:=ts }) ty ρ w f (a::b::cap):=opc_val (first:=[]) (vs:=[a,b]) hc hx (by simp [h0,h1])
end Go.Hs
namespace Go.Proofs.YtbgpppaljpngmaaGreatDoor
open Go.Hs
set_option maxRecDepth 10000
set_option maxHeartbeats 4000000
set_option linter.unusedVariables false
set_option linter.unusedSimpArgs false
abbrev XR3:=XSl 23 XR
theorem toIntSSS_ok (w:World) (v:Value) (p:List (List (List Int))) (h:ESl (ESl Ints) w v p) (hl:p.length≤1048576) (hr : ∀ q ∈ p,q.length≤1048576∧∀ r ∈ q,r.length≤1048576):Does Tryz.prog 83 [v] w (RetO w XR3 p):=by
 have hrk : ∀ (k:Nat) (hk:k < p.length),p[k].length≤1048576∧∀ r ∈ p[k],r.length≤1048576:=fun k hk=>hr _ (List.getElem_mem hk)
 refine Jc Tryz.func83 rfl Tryz.results83 Tryz.ntmps83 rfl ?_
 focus
  refine Ke <| Kc rfl <| Wo rfl (Kb (v:=.slice _ _ _) rfl) <| Kd <| Ke <| Kc rfl <| Wo rfl (Ka (v:=v) rfl) ?_
  refine Wo rfl (Ko Tryz.underlying24 rfl h) <| Wo_makeN 88 (XSl 3 XInt) rfl el24 rfl (by omega) ?_;rintro b1 w1 hb1 b1lt E1 hO1;have hs1:=E1.size;refine Wo rfl (Kb (v:=.slice _ _ _) rfl) ?_
  refine Kd <| Ke <| Ke <| Kc rfl <| Wo rfl (Kb (v:=.int _ _) rfl) <| Kd <| Kr ?_
 refine Jh [4,8,9,10,11,12,13,14,15,16,17,18,19,20,21] (fun (k:Nat)=>[(4,.int .i64 (k:Nat))]) (fun k w'=>Ext w w'∧k≤p.length∧Owned w.heap.size XR3 w' (.slice (some ⟨b1,0,none⟩) p.length p.length) (p.take k++List.replicate (p.length - k) [])) (fun x=>p.length - x) 0 (by repeat (first | exact trivial | refine And.intro rfl ?_)) ?_ ?_
 ·exact ⟨by assumption,Nat.zero_le _,by simpa using hO1⟩
 rintro k ρj w2 ⟨E2,hk,hO2⟩
 by_cases hlt:k < p.length
 ·have hrr:=hrk k hlt
  have t1:=toIntSS_ok
  have hr1:=hrr.1
  have hr2:=hrr.2
  focus
   have szE2:=E2.size;have szE1:=E1.size;refine Ke <| Ke <| Kc rfl <| Wo rfl (Ka (v:=.int _ _) rfl) <| Wo rfl (Ka (v:=v) rfl) ?_
   refine Wo rfl (Ko Tryz.underlying24 rfl h) <| Wo rfl (Ks rfl rfl) <| Kd <| Kg rfl (fun h1=>?_) (fun h1=>?_);refine Kt ?_;refine Ke <| Kr ?_
   refine Kc rfl <| Wo rfl (Ka (v:=.slice _ _ _) rfl) <| Wo rfl (Ka (v:=.int _ _) rfl) <| Wo rfl (Ka (v:=v) rfl) <| Wo rfl (Ka (v:=.int _ _) rfl) ?_
   refine Ji Tryz.underlying24 Tryz.sizeOf23 Tryz.isAgg23 rfl (fun _=>rfl) rfl h E2 rfl (by first | omega | (simp <;> omega)) ?_;rintro _ u1 hu1
   refine Kj rfl (Jk (a:=u1) Tryz.call82 rfl) (toIntSS_ok _ _ _ ((Mono.mono E2 hu1)) (by assumption) (by assumption)) ?_;rintro u2 w3 ⟨E3,hO3⟩;have hs2:=E3.size
   refine Wo rfl (Jr Tryz.underlying24 Tryz.sizeOf23 rfl rfl (by omega)) ?_;refine Wo_set rfl Tryz.sizeOf23 rfl rfl (hO2.toB.ext E3) (by first | omega | (simp <;> omega)) hO3.toB.o (by omega) (by omega) ?_
   rintro w4 hO2 On1 K1 hz1;have E4:=On1.ext1 (E2.trans E3) (by omega);have hs3:=On1.size;refine Kd <| Kc rfl <| Wo rfl (Ka (v:=.int _ _) rfl) <| Wo rfl (Kw rfl rfl (by omega)) ?_
   refine Wo rfl (Kb (v:=.int _ _) rfl) <| Kd ?_;rotate_left;(exfalso;omega)
  refine ⟨(k+1),by repeat (first | exact trivial | refine And.intro rfl ?_),by repeat (first | with_reducible exact Same.refl | refine Same.upd rfl ?_ | refine Same.upds rfl ?_ | refine Same.mix rfl ?_),?_,?_⟩
  ·refine ⟨by assumption,by omega,?_⟩
   rw [← set_fill _ _ (by omega)];simpa using hO2
  ·omega
 ·obtain rfl:k=p.length:=by omega
  focus
   have szE2:=E2.size;have szE1:=E1.size;refine Ke <| Ke <| Kc rfl <| Wo rfl (Ka (v:=.int _ _) rfl) <| Wo rfl (Ka (v:=v) rfl) ?_
   refine Wo rfl (Ko Tryz.underlying24 rfl h) <| Wo rfl (Ks rfl rfl) <| Kd <| Kg rfl (fun h1=>?_) (fun h1=>?_);(exfalso;omega);refine Jg ?_;refine exitX_same ?_;refine Ke ?_
   refine Kc rfl <| Wo rfl (Ka (v:=.slice _ _ _) rfl) <| Wo rfl (Kb (v:=.slice _ _ _) rfl) <| Kd <| Ja ?_
   refine ⟨E2,(congrArg (Owned _ _ _ _) ?_).mp (hO2.toB.o.mono (by omega))⟩
  simp
theorem eqIntSSS_ok (w:World) (v u:Value) (xs ys:List (List (List Int))) (h:ESl (ESl Ints) w v xs) (h':ESl (ESl Ints) w u ys):Does Tryz.prog 85 [v,u] w (Ret w (.bool (decide (xs=ys)))):=by
 have hle:=h.le
 have hle':=h'.le
 refine Jc Tryz.func85 rfl Tryz.results85 Tryz.ntmps85 rfl ?_
 focus
  refine Ke <| Kc rfl <| Wo rfl (Kb (v:=.bool _) rfl) <| Kd <| Ke <| Ke <| Kc rfl <| Wo rfl (Ka (v:=v) rfl) ?_
  refine Wo rfl (Ko Tryz.underlying24 rfl h) <| Wo rfl (Ka (v:=u) rfl) <| Wo rfl (Ko Tryz.underlying24 rfl h') <| Wo rfl (Gb rfl rfl) <| Kd ?_
  refine Jj rfl (fun h1=>?_) (fun h1=>?_);refine Ke <| Kc rfl <| Wo rfl (Kb (v:=.bool _) rfl) <| Kd <| Ja ?_;refine at_ret (v:=.bool _) rfl ?_
  refine ⟨congrArg Value.bool ?_,(Ext.refl _)⟩;rotate_left;refine Kt ?_;refine Ke <| Ke <| Kc rfl <| Wo rfl (Kb (v:=.int _ _) rfl) <| Kd <| Kr ?_
  rotate_left
 ·exact (decide_eq_false (fun e=>by subst e;omega)).symm
 refine Jh [4,5,11,12,13,14,15,16,17,18,19,20,21,22,23,24,25,26] (fun (k:Nat)=>[(5,.int .i64 (k:Nat))]) (fun k w'=>Ext w w'∧k≤xs.length∧xs.take k=ys.take k) (fun x=>xs.length - x) 0 (by repeat (first | exact trivial | refine And.intro rfl ?_)) ?_ ?_
 ·exact ⟨Ext.refl _,Nat.zero_le _,by simp⟩
 rintro k ρj w1 ⟨E1,hk,he⟩
 focus
  have szE1:=E1.size;refine Ke <| Ke <| Kc rfl <| Wo rfl (Ka (v:=.int _ _) rfl) <| Wo rfl (Ka (v:=v) rfl) <| Wo rfl (Ko Tryz.underlying24 rfl h) ?_
  refine Wo rfl (Ks rfl rfl) <| Kd <| Kg rfl (fun h2=>?_) (fun h2=>?_);refine Kt ?_;refine Ke <| Kr <| Ke <| W_draw mixed (by kernel_rfl) rfl ?_
  refine Jb rfl (fun _ _=>Ka (v:=v) rfl) ?_;refine Jb rfl (fun _ _=>Ka (v:=.int _ _) rfl) ?_
  refine Wq_get Tryz.underlying24 Tryz.sizeOf23 Tryz.isAgg23 rfl (fun _=>rfl) rfl h E1 rfl (by first | omega | (simp <;> omega)) ?_;rintro _ u1 hu1;refine Jb rfl (fun _ _=>Ka (v:=u) rfl) ?_
  refine Jb rfl (fun _ _=>Ka (v:=.int _ _) rfl) ?_;refine Wq_get Tryz.underlying24 Tryz.sizeOf23 Tryz.isAgg23 rfl (fun _=>rfl) rfl h' E1 rfl (by first | omega | (simp <;> omega)) ?_;rintro _ u2 hu2
  refine Wq_call rfl (fun _ _=>Jn (a:=u1) (b:=u2) Tryz.call84 rfl rfl) (fun w' hw'=>(eqIntSS_ok _ _ _ _ _ ((Mono.mono (E1.trans hw') hu1)) ((Mono.mono (E1.trans hw') hu2)))) ?_;refine Jb rfl (fun _ _=>Jf rfl) ?_
  refine Wq_nil (fun w2 E2=>?_);have hs1:=E2.size;refine Jj rfl (fun h3=>?_) (fun h3=>?_);refine Ke <| Kc rfl <| Wo rfl (Kb (v:=.bool _) rfl) <| Kd <| Ja ?_
  refine at_ret (v:=.bool _) rfl ?_;refine ⟨congrArg Value.bool ?_,(E1.trans E2)⟩;rotate_left;refine Kt ?_;refine Kc rfl <| Wo rfl (Ka (v:=.int _ _) rfl) ?_
  refine Wo rfl (Kw rfl rfl (by omega)) ?_;refine Wo rfl (Kb (v:=.int _ _) rfl) <| Kd ?_;rotate_left;refine Jg ?_;refine exitX_same ?_;refine Ke <| Kc rfl ?_
  refine Wo rfl (Kb (v:=.bool _) rfl) <| Kd <| Ja ?_;refine at_ret (v:=.bool _) rfl ?_;refine ⟨congrArg Value.bool ?_,E1⟩;rotate_left
 ·exact (decide_eq_false (ne_at (k:=k) (by omega) (by omega) (by assumption))).symm
 ·refine ⟨(k+1),by repeat (first | exact trivial | refine And.intro rfl ?_),by repeat (first | with_reducible exact Same.refl | refine Same.upd rfl ?_ | refine Same.upds rfl ?_ | refine Same.mix rfl ?_),?_,?_⟩
  ·exact ⟨E1.trans E2,by omega,(take_eq_snoc (by omega) (by omega)).2 ⟨he,by assumption⟩⟩
  ·omega
 ·obtain rfl:k=xs.length:=by omega
  exact (decide_eq_true (ext_take (by omega) he)).symm
theorem markIntSS_mf (w:World) {fp:List Nat} (v:Value) (p:List (List Int)) (hX:XR w fp v p) (hnd:fp.Nodup) (k0:Int) (hk0:0≤k0∧k0≤1099511627776) (hn:p.length≤1048576) (ht:k0+total p≤1099511627776) :
  Does Tryz.prog 86 [v,.int .i64 k0] w (RetMF fp w (.int .i64 (k0+total p)) XR v (marksS k0 p)):=by
 by_cases h0:p=[]
 ·subst h0
  have hR:ESl Ints w v []:=Shows.shows hX
  refine Jc Tryz.func86 rfl Tryz.results86 Tryz.ntmps86 rfl ?_
  focus
   refine Ke <| Kc rfl <| Wo rfl (Kb (v:=.int _ _) rfl) <| Kd <| Ke <| Ke <| Kc rfl <| Wo rfl (Kb (v:=.int _ _) rfl) ?_
   refine Kd <| Kr ?_
  refine Jh [1,5,6,7,8,9,10,11,12,13,14,15,16,17] (fun (k:Nat)=>[(5,.int .i64 (k:Nat)),(1,.int .i64 k0)]) (fun k w'=>w'=w∧k=0) (fun x=>0) 0 (by repeat (first | exact trivial | refine And.intro rfl ?_)) ?_ ?_
  ·exact ⟨rfl,rfl⟩
  rintro k ρj w1 ⟨rfl,rfl⟩
  focus
   refine Ke <| Ke <| Kc rfl <| Wo rfl (Ka (v:=.int _ _) rfl) <| Wo rfl (Ka (v:=v) rfl) <| Wo rfl (Ko Tryz.underlying23 rfl hR) ?_
   refine Wo rfl (Ks rfl rfl) <| Kd <| Kg rfl (fun h1=>?_) (fun h1=>?_);contradiction;refine Jg ?_;refine exitX_same ?_;refine Ke <| Kc rfl ?_
   refine Wo rfl (Ka (v:=.int _ _) rfl) <| Wo rfl (Kb (v:=.int _ _) rfl) <| Kd <| Ja ?_;refine at_ret (v:=.int _ _) rfl ?_
  exact ⟨by simp [total],Only.refl,hX⟩
 obtain ⟨b,c,_,_,rfl,_⟩:=hX.lens hnd (i:=0) (List.length_pos_iff.2 h0)
 refine Jc Tryz.func86 rfl Tryz.results86 Tryz.ntmps86 rfl ?_
 focus
  refine Ke <| Kc rfl <| Wo rfl (Kb (v:=.int _ _) rfl) <| Kd <| Ke <| Ke <| Kc rfl <| Wo rfl (Kb (v:=.int _ _) rfl) ?_
  refine Kd <| Kr ?_
 refine Jh [1,5,6,7,8,9,10,11,12,13,14,15,16,17] (fun (k,m)=>[(5,.int .i64 (k:Nat)),(1,.int .i64 (m:Int))]) (fun (k,m) w'=>Only fp w w'∧k≤p.length∧m=k0+(total (p.take k):Nat)∧XR w' fp (.slice (some ⟨b,0,none⟩) p.length c) (marksS k0 (p.take k)++p.drop k)) (fun x=>p.length - x.1) (0,k0) (by repeat (first | exact trivial | refine And.intro rfl ?_)) ?_ ?_
 ·exact ⟨Only.refl,Nat.zero_le _,by simp [total],by simpa [marksS] using hX⟩
 rintro ⟨k,m⟩ ρj w1 ⟨S1,hk,hm0,hX1⟩
 have hml:(marksS k0 (p.take k)++p.drop k).length=p.length:=by simp [marksS_len];omega
 by_cases hlt:k < p.length
 ·have htk:=total_ge p hlt
  have htl:=total_take_le p (k+1)
  obtain ⟨b',c',f,u,e,hcell,hXu,hfn,hsub,hback⟩:=hX1.lens hnd (i:=k) (by omega)
  simp only [Value.slice.injEq,Option.some.injEq,Addr.mk.injEq] at e
  obtain ⟨⟨rfl,_⟩,_,rfl⟩:=e
  have hrow:(marksS k0 (p.take k)++p.drop k)[k]'(by omega)=p[k]:=by
   rw [List.getElem_append_right (by rw [marksS_len];simp;omega)]
   simp [marksS_len,Nat.min_eq_left hk]
  rw [hrow] at hXu
  have hfe:=XI_fp hXu
  have hcall : ∀ w2,w2=w1→Does Tryz.prog 136 [u,.int .i64 m] w2 (RetS 0 w2.heap.size w2 (Value.int .i64) (fun n w'=>n=m+p[k].length∧Only fp w2 w'∧XR w' fp (.slice (some ⟨b,0,none⟩) p.length c) (marksS k0 (p.take (k+1))++p.drop (k+1)))):=by
   rintro w2 rfl
   obtain ⟨lb,hb,hin,hlo⟩ : ∃ lb hb,(∀ k ∈ f,lb≤k∧k < hb)∧(∀ k,lb≤k→k < hb→k ∈ f):=by
    cases hob:u.ownBlock with
    | none=>rw [hob] at hfe;subst hfe;exact ⟨0,0,by simp,fun k _ h=>by omega⟩
    | some br=>rw [hob] at hfe;subst hfe;exact ⟨br,br+1,by simp,fun k h1 h2=>by simp;omega⟩
   refine (markIntS_ok w2 (lo:=lb) (hi:=hb) u p[k] ⟨f,hfn,hin,hXu⟩ m (by omega) (by omega)).mono ?_
   rintro r w3 ⟨rfl,Sp,fp',h1,h2,h3⟩
   have hfe':=XI_fp h3
   have hff:fp'=f:=hfe'.trans hfe.symm
   subst hff
   have hblk : ∀ j,j ∉ fp'→j < w2.heap.size→w3.heap[j]? = w2.heap[j]?:=fun j hj hl=>Sp.block j (by
    rcases Nat.lt_or_ge j lb with h5 | h5
    ·exact .inl h5
    ·right
     rcases Nat.lt_or_ge j hb with h6 | h6
     ·exact absurd (hlo j h5 h6) hj
     ·exact h6) hl
   refine ⟨_,rfl,⟨Sp.os,Sp.tape,Sp.output,Sp.size,fun j hj hl=>by omega⟩,rfl,⟨Sp.os,Sp.tape,Sp.output,Sp.size,fun j hj hl=>hblk j (fun hm=>hj (hsub j hm)) hl⟩,?_⟩
   have:=hback w3 _ hblk h3
   rw [hm0,marksS_set hlt] at this
   exact this
  have hcell':w1.cell? ⟨b,0+k,none⟩=some u:=by rw [Nat.zero_add];exact hcell
  clear hback hX1
  focus
   refine Ke <| Ke <| Kc rfl <| Wo rfl (Ka (v:=.int _ _) rfl) <| Wo rfl (Ka (v:=.slice _ _ _) rfl) <| Wo rfl (opv_len_slice Tryz.underlying23 rfl) ?_
   refine Wo rfl (Ks rfl rfl) <| Kd <| Kg rfl (fun h1=>?_) (fun h1=>?_);refine Kt ?_;refine Ke <| Kr <| Kc rfl ?_
   refine Wo rfl (Ka (v:=.slice _ _ _) rfl) <| Wo rfl (Ka (v:=.int _ _) rfl) <| Wo rfl (Jr Tryz.underlying23 Tryz.sizeOf88 rfl rfl (by omega)) ?_
   refine Wo rfl (Km Tryz.isAgg88 rfl (by assumption)) ?_;refine Wo rfl (Ka (v:=.int _ _) rfl) <| Kj rfl (Jn (a:=u) (b:=.int _ _) Tryz.call136 rfl rfl) (hcall _ (by rfl)) ?_
   rintro _ w2 ⟨y1,rfl,E1,hy1⟩;have hs1:=E1.size;refine Wo rfl (Kb (v:=.int _ _) rfl) <| Kd <| Kc rfl <| Wo rfl (Ka (v:=.int _ _) rfl) ?_
   refine Wo rfl (Kw rfl rfl (by omega)) ?_;refine Wo rfl (Kb (v:=.int _ _) rfl) <| Kd ?_;rotate_left;(exfalso;omega)
  refine ⟨((k+1,y1)),by repeat (first | exact trivial | refine And.intro rfl ?_),by repeat (first | with_reducible exact Same.refl | refine Same.upd rfl ?_ | refine Same.upds rfl ?_ | refine Same.mix rfl ?_),?_,?_⟩
  ·refine ⟨S1.trans hy1.2.1,by omega,?_,hy1.2.2⟩
   rw [hy1.1,hm0,htk];omega
  ·simp only;omega
 ·obtain rfl:k=p.length:=by omega
  focus
   refine Ke <| Ke <| Kc rfl <| Wo rfl (Ka (v:=.int _ _) rfl) <| Wo rfl (Ka (v:=.slice _ _ _) rfl) <| Wo rfl (opv_len_slice Tryz.underlying23 rfl) ?_
   refine Wo rfl (Ks rfl rfl) <| Kd <| Kg rfl (fun h1=>?_) (fun h1=>?_);(exfalso;omega);refine Jg ?_;refine exitX_same ?_;refine Ke <| Kc rfl ?_
   refine Wo rfl (Ka (v:=.int _ _) rfl) <| Wo rfl (Kb (v:=.int _ _) rfl) <| Kd <| Ja ?_;refine at_ret (v:=.int _ _) rfl ?_
  exact ⟨by rw [hm0,List.take_length],S1,by simpa using hX1⟩
theorem markIntSSS_mf (w:World) {fp:List Nat} (v:Value) (p:List (List (List Int))) (hX:XSl 23 XR w fp v p) (hnd:fp.Nodup) (k0:Int) (hk0:0≤k0∧k0≤1099511627776) (hn:p.length≤1048576) (hq : ∀ q ∈ p,q.length≤1048576) (ht:k0+total3 p≤1099511627776) :
  Does Tryz.prog 87 [v,.int .i64 k0] w (RetMF fp w (.int .i64 (k0+total3 p)) (XSl 23 XR) v (marks3 k0 p)):=by
 by_cases h0:p=[]
 ·subst h0
  have hR:ESl (ESl Ints) w v []:=Shows.shows hX
  refine Jc Tryz.func87 rfl Tryz.results87 Tryz.ntmps87 rfl ?_
  focus
   refine Ke <| Kc rfl <| Wo rfl (Kb (v:=.int _ _) rfl) <| Kd <| Ke <| Ke <| Kc rfl <| Wo rfl (Kb (v:=.int _ _) rfl) ?_
   refine Kd <| Kr ?_
  refine Jh [1,5,6,7,8,9,10,11,12,13,14,15,16,17] (fun (k:Nat)=>[(5,.int .i64 (k:Nat)),(1,.int .i64 k0)]) (fun k w'=>w'=w∧k=0) (fun x=>0) 0 (by repeat (first | exact trivial | refine And.intro rfl ?_)) ?_ ?_
  ·exact ⟨rfl,rfl⟩
  rintro k ρj w1 ⟨rfl,rfl⟩
  focus
   refine Ke <| Ke <| Kc rfl <| Wo rfl (Ka (v:=.int _ _) rfl) <| Wo rfl (Ka (v:=v) rfl) <| Wo rfl (Ko Tryz.underlying24 rfl hR) ?_
   refine Wo rfl (Ks rfl rfl) <| Kd <| Kg rfl (fun h1=>?_) (fun h1=>?_);contradiction;refine Jg ?_;refine exitX_same ?_;refine Ke <| Kc rfl ?_
   refine Wo rfl (Ka (v:=.int _ _) rfl) <| Wo rfl (Kb (v:=.int _ _) rfl) <| Kd <| Ja ?_;refine at_ret (v:=.int _ _) rfl ?_
  exact ⟨by simp [total3],Only.refl,hX⟩
 obtain ⟨b,c,_,_,rfl,_⟩:=hX.lens hnd (i:=0) (List.length_pos_iff.2 h0)
 refine Jc Tryz.func87 rfl Tryz.results87 Tryz.ntmps87 rfl ?_
 focus
  refine Ke <| Kc rfl <| Wo rfl (Kb (v:=.int _ _) rfl) <| Kd <| Ke <| Ke <| Kc rfl <| Wo rfl (Kb (v:=.int _ _) rfl) ?_
  refine Kd <| Kr ?_
 refine Jh [1,5,6,7,8,9,10,11,12,13,14,15,16,17] (fun (k,m)=>[(5,.int .i64 (k:Nat)),(1,.int .i64 (m:Int))]) (fun (k,m) w'=>Only fp w w'∧k≤p.length∧m=k0+(total3 (p.take k):Nat)∧XSl 23 XR w' fp (.slice (some ⟨b,0,none⟩) p.length c) (marks3 k0 (p.take k)++p.drop k)) (fun x=>p.length - x.1) (0,k0) (by repeat (first | exact trivial | refine And.intro rfl ?_)) ?_ ?_
 ·exact ⟨Only.refl,Nat.zero_le _,by simp [total3],by simpa [marks3] using hX⟩
 rintro ⟨k,m⟩ ρj w1 ⟨S1,hk,hm0,hX1⟩
 have hml:(marks3 k0 (p.take k)++p.drop k).length=p.length:=by simp [marks3_len];omega
 by_cases hlt:k < p.length
 ·have htk:=total3_ge p hlt
  have htl:=total3_take_le p (k+1)
  obtain ⟨b',c',f,u,e,hcell,hXu,hfn,hsub,hback⟩:=hX1.lens hnd (i:=k) (by omega)
  simp only [Value.slice.injEq,Option.some.injEq,Addr.mk.injEq] at e
  obtain ⟨⟨rfl,_⟩,_,rfl⟩:=e
  have hrow:(marks3 k0 (p.take k)++p.drop k)[k]'(by omega)=p[k]:=by
   rw [List.getElem_append_right (by rw [marks3_len];simp;omega)]
   simp [marks3_len,Nat.min_eq_left hk]
  rw [hrow] at hXu
  have hcall : ∀ w2,w2=w1→Does Tryz.prog 86 [u,.int .i64 m] w2 (RetS 0 w2.heap.size w2 (Value.int .i64) (fun n w'=>n=m+total p[k]∧Only fp w2 w'∧XSl 23 XR w' fp (.slice (some ⟨b,0,none⟩) p.length c) (marks3 k0 (p.take (k+1))++p.drop (k+1)))):=by
   rintro w2 rfl
   refine (markIntSS_mf w2 u p[k] hXu hfn m (by omega) (hq _ (List.getElem_mem hlt)) (by omega)).mono ?_
   rintro r w3 ⟨rfl,O,h3⟩
   refine ⟨_,rfl,⟨O.os,O.tape,O.output,O.size,fun j hj hl=>by omega⟩,rfl,O.mono hsub,?_⟩
   have:=hback w3 _ O.block h3
   rw [hm0,marks3_set hlt] at this
   exact this
  have hcell':w1.cell? ⟨b,0+k,none⟩=some u:=by rw [Nat.zero_add];exact hcell
  clear hback hX1
  focus
   refine Ke <| Ke <| Kc rfl <| Wo rfl (Ka (v:=.int _ _) rfl) <| Wo rfl (Ka (v:=.slice _ _ _) rfl) <| Wo rfl (opv_len_slice Tryz.underlying24 rfl) ?_
   refine Wo rfl (Ks rfl rfl) <| Kd <| Kg rfl (fun h1=>?_) (fun h1=>?_);refine Kt ?_;refine Ke <| Kr <| Kc rfl ?_
   refine Wo rfl (Ka (v:=.slice _ _ _) rfl) <| Wo rfl (Ka (v:=.int _ _) rfl) <| Wo rfl (Jr Tryz.underlying24 Tryz.sizeOf23 rfl rfl (by omega)) ?_
   refine Wo rfl (Km Tryz.isAgg23 rfl (by assumption)) ?_;refine Wo rfl (Ka (v:=.int _ _) rfl) <| Kj rfl (Jn (a:=u) (b:=.int _ _) Tryz.call86 rfl rfl) (hcall _ (by rfl)) ?_
   rintro _ w2 ⟨y1,rfl,E1,hy1⟩;have hs1:=E1.size;refine Wo rfl (Kb (v:=.int _ _) rfl) <| Kd <| Kc rfl <| Wo rfl (Ka (v:=.int _ _) rfl) ?_
   refine Wo rfl (Kw rfl rfl (by omega)) ?_;refine Wo rfl (Kb (v:=.int _ _) rfl) <| Kd ?_;rotate_left;(exfalso;omega)
  refine ⟨((k+1,y1)),by repeat (first | exact trivial | refine And.intro rfl ?_),by repeat (first | with_reducible exact Same.refl | refine Same.upd rfl ?_ | refine Same.upds rfl ?_ | refine Same.mix rfl ?_),?_,?_⟩
  ·refine ⟨S1.trans hy1.2.1,by omega,?_,hy1.2.2⟩
   rw [hy1.1,hm0,htk];omega
  ·simp only;omega
 ·obtain rfl:k=p.length:=by omega
  focus
   refine Ke <| Ke <| Kc rfl <| Wo rfl (Ka (v:=.int _ _) rfl) <| Wo rfl (Ka (v:=.slice _ _ _) rfl) <| Wo rfl (opv_len_slice Tryz.underlying24 rfl) ?_
   refine Wo rfl (Ks rfl rfl) <| Kd <| Kg rfl (fun h1=>?_) (fun h1=>?_);(exfalso;omega);refine Jg ?_;refine exitX_same ?_;refine Ke <| Kc rfl ?_
   refine Wo rfl (Ka (v:=.int _ _) rfl) <| Wo rfl (Kb (v:=.int _ _) rfl) <| Kd <| Ja ?_;refine at_ret (v:=.int _ _) rfl ?_
  exact ⟨by rw [hm0,List.take_length],S1,by simpa using hX1⟩
theorem markIntSSS_ok (w:World) {lo hi:Nat} (v:Value) (p:List (List (List Int))) (h:OwnedB lo hi (XSl 23 XR) w v p) (k0:Int) (hk0:0≤k0∧k0≤1099511627776) (hn:p.length≤1048576) (hq : ∀ q ∈ p,q.length≤1048576) (ht:k0+total3 p≤1099511627776) :
  Does Tryz.prog 87 [v,.int .i64 k0] w (RetSO lo hi w (.int .i64 (k0+total3 p)) (XSl 23 XR) v (marks3 k0 p)):=by
 obtain ⟨fp,h1,h2,h3⟩:=h
 refine (markIntSSS_mf w v p h3 h1 k0 hk0 hn hq ht).mono ?_
 rintro r w' ⟨rfl,O,h4⟩
 exact ⟨rfl,Span.of_only O h2,fp,h1,h2,h4⟩
theorem heldIntSSS_ok (w:World) (v:Value) (p:List (List (List Int))) (k0:Int) (h:ESl (ESl Ints) w v (marks3 k0 p)) (hk0:0≤k0) (hn:p.length≤1048576) (hq : ∀ q ∈ p,q.length≤1048576) (ht:k0+total3 p≤1048576):Does Tryz.prog 90 [v,.int .i64 k0] w (Ret w (.int .i64 (k0+(total3 p:Nat)))):=by
 have hml:=marks3_len k0 p
 have hle:=h.le
 refine Jc Tryz.func90 rfl Tryz.results90 Tryz.ntmps90 rfl ?_
 focus
  refine Ke <| Kc rfl <| Wo rfl (Kb (v:=.int _ _) rfl) <| Kd <| Ke <| Ke <| Kc rfl <| Wo rfl (Kb (v:=.int _ _) rfl) ?_
  refine Kd <| Kr ?_
 refine Jh [1,4,5,6,7,8,9,10,11,12,13,14,15,16,17,18,19] (fun (k,m)=>[(5,.int .i64 (k:Nat)),(1,.int .i64 (m:Int))]) (fun (k,m) w'=>Ext w w'∧k≤p.length∧m=k0+(total3 (p.take k):Nat)) (fun x=>p.length - x.1) (0,k0) (by repeat (first | exact trivial | refine And.intro rfl ?_)) ?_ ?_
 ·exact ⟨Ext.refl _,Nat.zero_le _,by simp [total3]⟩
 rintro ⟨k,m⟩ ρj w1 ⟨E1,hk,hm0⟩
 by_cases hlt:k < p.length
 ·have hg:=marks3_get p k0 k hlt
  have htk:=total3_take_le p k
  have htk1:=total3_take_le p (k+1)
  have hte:=total3_ge p hlt
  have kH : ∀ (w:World) (u:Value),ESl Ints w u ((marks3 k0 p)[k]'(by omega))→Does Tryz.prog 89 [u,.int .i64 m] w (Ret w (.int .i64 (k0+(total3 (p.take (k+1)):Nat)))):=fun w u h=>by
   rw [hg,← hm0] at h
   have:=heldIntSS_ok w u p[k] m h (by omega) (hq _ (List.getElem_mem hlt)) (by omega)
   rw [show m+((total p[k]:Nat):Int)=k0+(total3 (p.take (k+1)):Nat) by omega] at this
   exact this
  focus
   have szE1:=E1.size;refine Ke <| Ke <| Kc rfl <| Wo rfl (Ka (v:=.int _ _) rfl) <| Wo rfl (Ka (v:=v) rfl) <| Wo rfl (Ko Tryz.underlying24 rfl h) ?_
   refine Wo rfl (Ks rfl rfl) <| Kd <| Kg rfl (fun h1=>?_) (fun h1=>?_);refine Kt ?_;refine Ke <| Kr <| Ke <| Kc rfl ?_
   refine Wo rfl (Ka (v:=v) rfl) <| Wo rfl (Ka (v:=.int _ _) rfl) <| Ji Tryz.underlying24 Tryz.sizeOf23 Tryz.isAgg23 rfl (fun _=>rfl) rfl h E1 rfl (by first | omega | (simp <;> omega)) ?_
   rintro _ u1 hu1;refine Wo rfl (Ka (v:=.int _ _) rfl) <| Kj rfl (Jn (a:=u1) (b:=.int _ _) Tryz.call89 rfl rfl) (kH _ _ ((Mono.mono E1 hu1))) ?_;rintro _ w2 ⟨rfl,E2⟩;have hs1:=E2.size
   refine Wo rfl (Kb (v:=.int _ _) rfl) <| Kd <| Ke <| Kc rfl <| Wo rfl (Ka (v:=.int _ _) rfl) <| Wo rfl (Ks rfl rfl) <| Kd ?_
   refine Kg rfl (fun h2=>?_) (fun h2=>?_);(exfalso;omega);refine Kt ?_;refine Kc rfl <| Wo rfl (Ka (v:=.int _ _) rfl) <| Wo rfl (Kw rfl rfl (by omega)) ?_
   refine Wo rfl (Kb (v:=.int _ _) rfl) <| Kd ?_;rotate_left;(exfalso;omega)
  refine ⟨((k+1,k0+(total3 (p.take (k+1)):Nat))),by repeat (first | exact trivial | refine And.intro rfl ?_),by repeat (first | with_reducible exact Same.refl | refine Same.upd rfl ?_ | refine Same.upds rfl ?_ | refine Same.mix rfl ?_),?_,?_⟩
  ·exact ⟨by first | assumption | exact E1.trans E2,by omega,rfl⟩
  ·simp only;omega
 ·obtain rfl:k=p.length:=by omega
  rw [List.take_length] at hm0
  subst hm0
  focus
   have szE1:=E1.size;refine Ke <| Ke <| Kc rfl <| Wo rfl (Ka (v:=.int _ _) rfl) <| Wo rfl (Ka (v:=v) rfl) <| Wo rfl (Ko Tryz.underlying24 rfl h) ?_
   refine Wo rfl (Ks rfl rfl) <| Kd <| Kg rfl (fun h1=>?_) (fun h1=>?_);(exfalso;omega);refine Jg ?_;refine exitX_same ?_;refine Ke <| Kc rfl ?_
   refine Wo rfl (Ka (v:=.int _ _) rfl) <| Wo rfl (Kb (v:=.int _ _) rfl) <| Kd <| Ja ?_;exact ⟨rfl,E1⟩
theorem eqDesk_ok (w:World) (u1 u2 v1 v2:Value) (p p':List (List Int)) (q q':List (List (List Int))) (h1:ESl Ints w u1 p) (h2:ESl (ESl Ints) w u2 q) (h3:ESl Ints w v1 p') (h4:ESl (ESl Ints) w v2 q') :
  Does Tryz.prog 29 [.agg #[u1,u2],.agg #[v1,v2]] w (Ret w (.bool (decide (p=p'∧q=q')))):=by
 refine Jc Tryz.func29 rfl Tryz.results29 Tryz.ntmps29 rfl ?_
 focus
  refine Ke <| Kc rfl <| Jp rfl rfl rfl ?_;rintro b1 w1 hb1 E1 hB1;have hlb1:=hB1.lt;have hs1:=E1.size;refine Jp rfl rfl rfl ?_;rintro b2 w2 hb2 E2 hB2;have hlb2:=hB2.lt
  have hs2:=E2.size;refine Wo rfl (Kb (v:=.bool _) rfl) <| Kd <| Ke <| Ke <| Kc rfl <| Wo rfl (Kf Tryz.underlying26 rfl rfl Tryz.sizeOf23 rfl) ?_
  refine Wo (v:=u1) rfl (Km Tryz.isAgg23 rfl ((hB1.ext E2).cell rfl)) <| Wo rfl (Kf Tryz.underlying26 rfl rfl Tryz.sizeOf23 rfl) <| Wo (v:=v1) rfl (Km Tryz.isAgg23 rfl (hB2.cell rfl)) ?_
  refine Kj rfl (Jn (a:=u1) (b:=v1) Tryz.call84 rfl rfl) (eqIntSS_ok _ _ _ _ _ ((Mono.mono (E1.trans E2) h1)) ((Mono.mono (E1.trans E2) h3))) ?_;rintro _ w3 ⟨rfl,E3⟩;have hs3:=E3.size;refine Wo rfl (Jf rfl) ?_
  refine Kd <| Jj rfl (fun h5=>?_) (fun h5=>?_);refine Ke <| Kc rfl <| Wo rfl (Kb (v:=.bool _) rfl) <| Kd <| Ja ?_
  refine at_ret (v:=.bool _) rfl ?_;refine ⟨congrArg Value.bool ?_,((E1.trans E2).trans E3)⟩;rotate_left;refine Kt ?_;refine Ke <| Ke <| Kc rfl ?_
  refine Wo rfl (Kf Tryz.underlying26 rfl rfl Tryz.sizeOf24 rfl) <| Wo (v:=u2) rfl (Km Tryz.isAgg24 rfl ((hB1.ext (E2.trans E3)).cell rfl)) ?_
  refine Wo rfl (Kf Tryz.underlying26 rfl rfl Tryz.sizeOf24 rfl) <| Wo (v:=v2) rfl (Km Tryz.isAgg24 rfl ((hB2.ext E3).cell rfl)) ?_
  refine Kj rfl (Jn (a:=u2) (b:=v2) Tryz.call85 rfl rfl) (eqIntSSS_ok _ _ _ _ _ ((Mono.mono ((E1.trans E2).trans E3) h2)) ((Mono.mono ((E1.trans E2).trans E3) h4))) ?_;rintro _ w4 ⟨rfl,E4⟩;have hs4:=E4.size
  refine Wo rfl (Jf rfl) <| Kd <| Jj rfl (fun h6=>?_) (fun h6=>?_);refine Ke <| Kc rfl <| Wo rfl (Kb (v:=.bool _) rfl) <| Kd <| Ja ?_
  refine at_ret (v:=.bool _) rfl ?_;refine ⟨congrArg Value.bool ?_,(((E1.trans E2).trans E3).trans E4)⟩;rotate_left;refine Kt ?_;refine Ke <| Kc rfl <| Wo rfl (Kb (v:=.bool _) rfl) ?_
  refine Kd <| Ja ?_;refine at_ret (v:=.bool _) rfl ?_;refine ⟨congrArg Value.bool ?_,(((E1.trans E2).trans E3).trans E4)⟩;rotate_left
 all_goals first
  | exact (decide_eq_true (by simp_all)).symm
  | exact (decide_eq_false (by simp_all)).symm
theorem markDesk_ok (w:World) {lo m hi:Nat} (u1 u2:Value) (p:List (List Int)) (q:List (List (List Int))) (h1:OwnedB lo m XR w u1 p) (h2:OwnedB m hi (XSl 23 XR) w u2 q) (hlm:lo≤m) (hmh:m≤hi) (hhi:hi≤w.heap.size) (k0:Int) (hk0:0≤k0∧k0≤1048576) (hn:p.length≤1048576) (ht:total p≤1048576)
  (hq:q.length≤1048576) (hqq : ∀ r ∈ q,r.length≤1048576) (ht3:total3 q≤1048576) :
  Does Tryz.prog 31 [.agg #[u1,u2],.int .i64 k0] w (RetS lo hi w (Value.int .i64) (fun z w'=>z=k0+(total p:Nat)+(total3 q:Nat)∧OwnedB lo m XR w' u1 (marksS k0 p)∧OwnedB m hi (XSl 23 XR) w' u2 (marks3 (k0+(total p:Nat)) q))):=by
 have k1 : ∀ (w:World),OwnedB lo m XR w u1 p→Does Tryz.prog 86 [u1,.int .i64 k0] w (RetSO lo m w (.int .i64 (k0+total p)) XR u1 (marksS k0 p)):=fun w h=>markIntSS_ok w u1 p h k0 hk0 hn (by omega)
 have k2 : ∀ (w:World),OwnedB m hi (XSl 23 XR) w u2 q→Does Tryz.prog 87 [u2,.int .i64 (k0+total p)] w (RetSO m hi w (.int .i64 (k0+total p+total3 q)) (XSl 23 XR) u2 (marks3 (k0+total p) q)):=fun w h=>markIntSSS_ok w u2 q h _ (by omega) hq hqq (by omega)
 refine Jc Tryz.func31 rfl Tryz.results31 Tryz.ntmps31 rfl ?_
 focus
  refine Ke <| Kc rfl <| Jp rfl rfl rfl ?_;rintro b1 w1 hb1 E1 hB1;have hlb1:=hB1.lt;have hs1:=E1.size;refine Wo rfl (Kb (v:=.int _ _) rfl) <| Kd <| Ke ?_
  refine Kc rfl <| Wo rfl (Kf Tryz.underlying26 rfl rfl Tryz.sizeOf23 rfl) <| Wo (v:=u1) rfl (Km Tryz.isAgg23 rfl (hB1.cell rfl)) <| Wo rfl (Ka (v:=.int _ _) rfl) ?_
  refine Kj rfl (Jn (a:=u1) (b:=.int _ _) Tryz.call86 rfl rfl) (k1 _ ((h1.ext E1))) ?_;rintro _ w2 ⟨rfl,E2,hO1⟩;have h2:=(h2.ext E1).span E2 (by omega);have hB1:=hB1.span E2 (by omega);have hs2:=E2.size
  refine Wo rfl (Kb (v:=.int _ _) rfl) <| Kd <| Ke <| Kc rfl <| Wo rfl (Kf Tryz.underlying26 rfl rfl Tryz.sizeOf24 rfl) ?_
  refine Wo (v:=u2) rfl (Km Tryz.isAgg24 rfl (hB1.cell rfl)) <| Wo rfl (Ka (v:=.int _ _) rfl) <| Kj rfl (Jn (a:=u2) (b:=.int _ _) Tryz.call87 rfl rfl) (k2 _ (h2)) ?_
  rintro _ w3 ⟨rfl,E3,hO2⟩;have hO1:=hO1.span E3 (by omega);have hB1:=hB1.span E3 (by omega);have hs3:=E3.size;refine Wo rfl (Kb (v:=.int _ _) rfl) <| Kd <| Ke <| Kc rfl ?_
  refine Wo rfl (Ka (v:=.int _ _) rfl) <| Wo rfl (Kb (v:=.int _ _) rfl) <| Kd <| Ja ?_;refine at_ret (v:=.int _ _) rfl ?_
 exact ⟨_,rfl,(Span.of_only (Ext.only (fp:=[]) E1) (fun k hk=>by cases hk)).trans ((E2.mono (Nat.le_refl _) hmh).trans (E3.mono hlm (Nat.le_refl _))),rfl,hO1,hO2⟩
theorem heldDesk_ok (w:World) (u1 u2:Value) (p:List (List Int)) (q:List (List (List Int))) (k0:Int) (h1:ESl Ints w u1 (marksS k0 p)) (h2:ESl (ESl Ints) w u2 (marks3 (k0+(total p:Nat)) q)) (hk0:0≤k0) (hn:p.length≤1048576)
  (hq:q.length≤1048576) (hqq : ∀ r ∈ q,r.length≤1048576) (ht3:k0+(total p:Nat)+total3 q≤1048576) :
  Does Tryz.prog 33 [.agg #[u1,u2],.int .i64 k0] w (Ret w (.int .i64 (k0+(total p:Nat)+(total3 q:Nat)))):=by
 have k1 : ∀ (w:World),ESl Ints w u1 (marksS k0 p)→Does Tryz.prog 89 [u1,.int .i64 k0] w (Ret w (.int .i64 (k0+total p))):=fun w h=>heldIntSS_ok w u1 p k0 h (by omega) hn (by omega)
 have k2 : ∀ (w:World),ESl (ESl Ints) w u2 (marks3 (k0+total p) q)→Does Tryz.prog 90 [u2,.int .i64 (k0+total p)] w (Ret w (.int .i64 (k0+total p+total3 q))):=fun w h=>heldIntSSS_ok w u2 q _ h (by omega) hq hqq ht3
 refine Jc Tryz.func33 rfl Tryz.results33 Tryz.ntmps33 rfl ?_
 focus
  refine Ke <| Kc rfl <| Jp rfl rfl rfl ?_;rintro b1 w1 hb1 E1 hB1;have hlb1:=hB1.lt;have hs1:=E1.size;refine Wo rfl (Kb (v:=.int _ _) rfl) <| Kd <| Ke ?_
  refine Kc rfl <| Wo rfl (Kf Tryz.underlying26 rfl rfl Tryz.sizeOf23 rfl) <| Wo (v:=u1) rfl (Km Tryz.isAgg23 rfl (hB1.cell rfl)) <| Wo rfl (Ka (v:=.int _ _) rfl) ?_
  refine Kj rfl (Jn (a:=u1) (b:=.int _ _) Tryz.call89 rfl rfl) (k1 _ ((Mono.mono E1 h1))) ?_;rintro _ w2 ⟨rfl,E2⟩;have hs2:=E2.size;refine Wo rfl (Kb (v:=.int _ _) rfl) <| Kd <| Ke ?_
  refine Ke <| Kc rfl <| Wo rfl (Ka (v:=.int _ _) rfl) <| Wo rfl (Ks rfl rfl) <| Kd <| Kg rfl (fun h3=>?_) (fun h3=>?_);(exfalso;omega);refine Kt ?_
  refine Ke <| Kc rfl <| Wo rfl (Kf Tryz.underlying26 rfl rfl Tryz.sizeOf24 rfl) <| Wo (v:=u2) rfl (Km Tryz.isAgg24 rfl ((hB1.ext E2).cell rfl)) ?_
  refine Wo rfl (Ka (v:=.int _ _) rfl) <| Kj rfl (Jn (a:=u2) (b:=.int _ _) Tryz.call90 rfl rfl) (k2 _ ((Mono.mono (E1.trans E2) h2))) ?_;rintro _ w3 ⟨rfl,E3⟩;have hs3:=E3.size
  refine Wo rfl (Kb (v:=.int _ _) rfl) <| Kd <| Ke <| Ke <| Kc rfl <| Wo rfl (Ka (v:=.int _ _) rfl) <| Wo rfl (Ks rfl rfl) <| Kd ?_
  refine Kg rfl (fun h4=>?_) (fun h4=>?_);(exfalso;omega);refine Kt ?_;refine Ke <| Kc rfl <| Wo rfl (Ka (v:=.int _ _) rfl) <| Wo rfl (Kb (v:=.int _ _) rfl) ?_
  refine Kd <| Ja ?_;exact ⟨rfl,((E1.trans E2).trans E3)⟩
def ptR (p:List (List Int)) (K:List Int) (x:Int) (j:Nat) (y:Int):Int:=b01 ((List.range j).any (ptF p K x y))
def ptM (p:List (List Int)) (K L:List Int) (x:Int) (j m:Nat):List Int:=(L.take m).map (ptR p K x (j+1))++(L.drop m).map (ptR p K x j)
theorem ptM_len {p:List (List Int)} {K L:List Int} {x:Int} {j m:Nat} : (ptM p K L x j m).length=L.length:=by
 unfold ptM
 rw [List.length_append,List.length_map,List.length_map,← List.length_append,List.take_append_drop]
theorem ptR_succ {p:List (List Int)} {K:List Int} {x y:Int} {j:Nat} : ptR p K x (j+1) y=if ptF p K x y j then 1 else ptR p K x j y:=by
 unfold ptR
 rw [any_range_succ']
 cases ptF p K x y j <;> cases (List.range j).any (ptF p K x y) <;> rfl
theorem ptM_yes {p:List (List Int)} {K L:List Int} {x:Int} {j m:Nat} (hm:m < L.length) (hf:ptF p K x L[m] j=true):(ptM p K L x j m).set m 1=ptM p K L x j (m+1):=by
 have hl:((L.take m).map (ptR p K x (j+1))).length=m:=by simp;omega
 unfold ptM
 rw [List.set_append_right _ _ (by omega),hl,Nat.sub_self,List.drop_eq_getElem_cons hm,List.map_cons,List.set_cons_zero,take_snoc _ _ hm,List.map_append,List.append_assoc]
 congr 1
 rw [List.map_cons,List.map_nil,ptR_succ,hf]
 rfl
theorem ptM_no {p:List (List Int)} {K L:List Int} {x:Int} {j m:Nat} (hm:m < L.length) (hf:ptF p K x L[m] j=false):ptM p K L x j m=ptM p K L x j (m+1):=by
 unfold ptM
 rw [List.drop_eq_getElem_cons hm,List.map_cons,take_snoc _ _ hm,List.map_append,List.append_assoc]
 congr 1
 rw [List.map_cons,List.map_nil,ptR_succ,hf]
 rfl
theorem ptM_zero {p:List (List Int)} {K L:List Int} {x:Int} {j:Nat} : ptM p K L x j 0=L.map (ptR p K x j):=by simp [ptM]
theorem ptM_all {p:List (List Int)} {K L:List Int} {x:Int} {j:Nat} : ptM p K L x j L.length=L.map (ptR p K x (j+1)):=by simp [ptM]
theorem ptR_none {p:List (List Int)} {K L:List Int} {x:Int} : L.map (ptR p K x 0)=List.replicate L.length 0:=by
 rw [← List.map_const']
 exact List.map_congr_left fun y _=>rfl
theorem l4Part_ok (w:World) (v u t:Value) (p:List (List Int)) (K L:List Int) (h:ESl Ints w v p) (hK:Ints w u K) (hL:Ints w t L) (hp:Gr p) (hk:K.length=p.length) (hl : ∀ x ∈ L,0≤x∧x < p.length) (hn:L.length≤1000) :
  Does Tryz.prog 195 [v,u,t] w (RetO w XR (ptV p K L)):=by
 have hp5:=hp.2.1
 have hle:=h.le
 have hle1:=hK.le
 have hle2:=hL.le
 have hpl:=ptV_len (p:=p) (K:=K) (L:=L)
 refine Jc Tryz.func195 rfl Tryz.results195 Tryz.ntmps195 rfl ?_
 focus
  refine Ke <| Kc rfl <| Wo rfl (Kb (v:=.slice _ _ _) rfl) <| Kd <| Ke <| Kc rfl <| Js (XSl 3 XInt) rfl el23 Tryz.sizeOf88 ?_
  rintro b1 w1 hb1 b1lt E1 hO1;have hs1:=E1.size;refine Wo rfl (Kb (v:=.slice _ _ _) rfl) <| Kd <| Ke <| Ke <| Kc rfl <| Wo rfl (Kb (v:=.int _ _) rfl) ?_
  refine Kd <| Kr ?_
 refine Jh [7,8,9,10,11,13,14,15,16,17,18,19,20,21,22,23,24,25,26,27,28,29,30,31,32,33,34,35,36,37,38,39,40,41,42,43,44,45,46,47,48,49,50,51,52,53,54,55,56,57,58,59,60,61,62,63,64,65] (fun ((k,o):Nat × Value)=>[(8,.int .i64 (k:Nat)),(7,o)]) (fun (k,o) w'=>Ext w w'∧k≤L.length∧Owned w.heap.size XR w' o ((ptV p K L).take k)) (fun x=>L.length - x.1) (0,.slice (some ⟨b1,0,none⟩) 0 0) (by repeat (first | exact trivial | refine And.intro rfl ?_)) ?_ ?_
 ·exact ⟨by assumption,Nat.zero_le _,by simpa using hO1⟩
 clear hO1
 rintro ⟨k,o⟩ ρj w2 ⟨E2,hkl,hO1⟩
 by_cases hlt:k < L.length
 ·have hLk:=hl L[k] (List.getElem_mem hlt)
  have hrow:=hp.row (i:=L[k].toNat) (by omega)
  have htl:((ptV p K L).take k).length=k:=by simp;omega
  focus
   have szE2:=E2.size;have szE1:=E1.size;refine Ke <| Ke <| Kc rfl <| Wo rfl (Ka (v:=.int _ _) rfl) <| Wo rfl (Ka (v:=t) rfl) ?_
   refine Wo rfl (Ko Tryz.underlying88 rfl hL) <| Wo rfl (Ks rfl rfl) <| Kd <| Kg rfl (fun h1=>?_) (fun h1=>?_);refine Kt ?_;refine Ke <| Kr <| Ke ?_
   refine Kc rfl <| Wo rfl (Ka (v:=t) rfl) <| Wo rfl (Ko Tryz.underlying88 rfl hL) <| Wo_makeI rfl el88 rfl (by omega) ?_;rintro b2 w3 hb2 b2lt E3 hO2;have hs2:=E3.size
   refine Wo rfl (Kb (v:=.slice _ _ _) rfl) <| Kd <| Ke <| Ke <| Kc rfl <| Wo rfl (Kb (v:=.int _ _) rfl) <| Kd <| Kr ?_;rotate_left
   (exfalso;omega)
  have hrb:=hO2.lt_own (k:=b2) rfl
  refine Jh [10,11,22,23,24,25,26,27,28,29,30,31,32,33,34,35,36,37,38,39,40,41,42,43,44,45,46,47,48,49,50,51,52,53,54,55,56,57,58,59,60,61] (fun (j:Nat)=>[(10,.int .i64 (j:Nat))]) (fun j w'=>Ext w w'∧w2.heap.size≤w'.heap.size∧j≤p.length∧OwnedB w.heap.size w2.heap.size XR w' o ((ptV p K L).take k)∧Owned w2.heap.size XI w' (.slice (some ⟨b2,0,none⟩) L.length L.length) (L.map (ptR p K L[k] j))) (fun j=>p.length - j) 0 (by repeat (first | exact trivial | refine And.intro rfl ?_)) ?_ ?_
  ·exact ⟨E2.trans E3,E3.size,Nat.zero_le _,hO1.toB.ext E3,by rw [ptR_none];exact hO2⟩
  clear hO1 hO2
  rintro j ρk w4 ⟨E4,hs4,hj,hO1,hO2⟩
  by_cases hjl:j < p.length
  ·focus
    have szE4:=E4.size;have szE3:=E3.size;have szE2:=E2.size;have szE1:=E1.size;refine Ke <| Ke <| Kc rfl <| Wo rfl (Ka (v:=.int _ _) rfl) ?_
    refine Wo rfl (Ka (v:=v) rfl) <| Wo rfl (Ko Tryz.underlying23 rfl h) <| Wo rfl (Ks rfl rfl) <| Kd <| Kg rfl (fun h2=>?_) (fun h2=>?_);refine Kt ?_
    refine Ke <| Kr <| Ke <| Kc rfl <| Wo rfl (Kb (v:=.int _ _) rfl) <| Kd <| Kr ?_;rotate_left;(exfalso;omega)
   refine Jh [11,28,29,30,31,32,33,34,35,36,37,38,39,40,41,42,43,44,45,46,47,48,49,50,51,52,53,54,55,56,57,58,59,60,61] (fun (m:Nat)=>[(11,.int .i64 (m:Nat))]) (fun m w'=>Ext w w'∧w2.heap.size≤w'.heap.size∧m≤L.length∧OwnedB w.heap.size w2.heap.size XR w' o ((ptV p K L).take k)∧Owned w2.heap.size XI w' (.slice (some ⟨b2,0,none⟩) L.length L.length) (ptM p K L L[k] j m)) (fun m=>L.length - m) 0 (by repeat (first | exact trivial | refine And.intro rfl ?_)) ?_ ?_
   ·exact ⟨E4,hs4,Nat.zero_le _,hO1,by rw [ptM_zero];exact hO2⟩
   clear hO1 hO2
   rintro m ρl w5 ⟨E5,hs5,hm,hO1,hO2⟩
   have hpm:=ptM_len (p:=p) (K:=K) (L:=L) (x:=L[k]) (j:=j) (m:=m)
   by_cases hml:m < L.length
   ·have hLm:=hl L[m] (List.getElem_mem hml)
    have eF:ptF p K L[k] L[m] j=(decide (p[L[k].toNat][j]=1) && decide (K[j]=K[L[m].toNat])):=by
     unfold ptF
     rw [getD_lt (show L[k].toNat < p.length by omega),getD_lt (show j < p[L[k].toNat].length by omega),getD_lt (show j < K.length by omega),getD_lt (show L[m].toNat < K.length by omega)]
    by_cases c1:p[L[k].toNat][j]=1
    ·by_cases c2:K[j]=K[L[m].toNat]
     ·focus
       have szE5:=E5.size;have szE4:=E4.size;have szE3:=E3.size;have szE2:=E2.size;have szE1:=E1.size;refine Ke <| Ke <| Kc rfl <| Wo rfl (Ka (v:=.int _ _) rfl) ?_
       refine Wo rfl (Ka (v:=t) rfl) <| Wo rfl (Ko Tryz.underlying88 rfl hL) <| Wo rfl (Ks rfl rfl) <| Kd <| Kg rfl (fun h3=>?_) (fun h3=>?_);refine Kt ?_
       refine Ke <| Kr <| Ke <| W_draw mixed (by kernel_rfl) rfl ?_;refine Jb rfl (fun _ _=>Ka (v:=v) rfl) ?_;refine Jb rfl (fun _ _=>Ka (v:=t) rfl) ?_
       refine Jb rfl (fun _ _=>Ka (v:=.int _ _) rfl) ?_;refine Wq_get Tryz.underlying88 Tryz.sizeOf3 Tryz.isAgg3 rfl (fun _=>rfl) rfl hL E5 rfl (by first | omega | (simp <;> omega)) ?_;rintro _ _ rfl
       refine Wq_get_z Tryz.underlying23 Tryz.sizeOf88 Tryz.isAgg88 rfl (fun _=>rfl) rfl h E5 rfl (by first | omega | (simp <;> omega)) ?_;rintro _ u1 hu1;refine Jb rfl (fun _ _=>Ka (v:=.int _ _) rfl) ?_
       refine Wq_get Tryz.underlying88 Tryz.sizeOf3 Tryz.isAgg3 rfl (fun _=>rfl) rfl hu1 E5 rfl (by first | omega | (simp <;> omega)) ?_;rintro _ _ rfl;refine Jb rfl (fun _ _=>Kx rfl rfl) ?_
       refine Jt rfl (fun _ _=>Ka (v:=.bool _) rfl) (fun h4=>?_) (fun h4=>?_);refine Jb rfl (fun _ _=>Ka (v:=u) rfl) ?_;refine Jb rfl (fun _ _=>Ka (v:=.int _ _) rfl) ?_
       refine Wq_get Tryz.underlying88 Tryz.sizeOf3 Tryz.isAgg3 rfl (fun _=>rfl) rfl hK E5 rfl (by first | omega | (simp <;> omega)) ?_;rintro _ _ rfl;refine Jb rfl (fun _ _=>Ka (v:=u) rfl) ?_
       refine Jb rfl (fun _ _=>Ka (v:=t) rfl) ?_;refine Jb rfl (fun _ _=>Ka (v:=.int _ _) rfl) ?_
       refine Wq_get Tryz.underlying88 Tryz.sizeOf3 Tryz.isAgg3 rfl (fun _=>rfl) rfl hL E5 rfl (by first | omega | (simp <;> omega)) ?_;rintro _ _ rfl
       refine Wq_get_z Tryz.underlying88 Tryz.sizeOf3 Tryz.isAgg3 rfl (fun _=>rfl) rfl hK E5 rfl (by first | omega | (simp <;> omega)) ?_;rintro _ _ rfl;refine Jb rfl (fun _ _=>Kx rfl rfl) ?_
       refine Jb rfl (fun _ _=>Kz (v:=.bool _) rfl rfl) ?_;refine Wq_nil (fun w6 E6=>?_);have hs3:=E6.size;refine Kg rfl (fun h5=>?_) (fun h5=>?_);refine Kc rfl ?_
       refine Wo rfl (Ka (v:=.slice _ _ _) rfl) <| Wo rfl (Ka (v:=.int _ _) rfl) <| Wo rfl (Jr Tryz.underlying88 Tryz.sizeOf3 rfl rfl (by omega)) ?_
       refine Wo_set rfl Tryz.sizeOf3 rfl rfl (hO2.toB.ext E6) (by first | omega | (simp <;> omega)) Owned.int (Nat.le_refl _) (by omega) ?_;rintro w7 hO2 On1 K1 hz1;have E7:=On1.ext1 (E5.trans E6) (by omega)
       have hO1:=(hO1.ext E6).wrote K1 (by omega);have hs6:=On1.size;refine Kd <| Kc rfl <| Wo rfl (Ka (v:=.int _ _) rfl) <| Wo rfl (Kw rfl rfl (by omega)) ?_
       refine Wo rfl (Kb (v:=.int _ _) rfl) <| Kd ?_;rotate_left;contradiction;contradiction;(exfalso;omega)
      refine ⟨(m+1),by repeat (first | exact trivial | refine And.intro rfl ?_),by repeat (first | with_reducible exact Same.refl | refine Same.upd rfl ?_ | refine Same.upds rfl ?_ | refine Same.mix rfl ?_),?_,?_⟩
      ·refine ⟨by assumption,by omega,by omega,by assumption,?_⟩
       rw [← ptM_yes hml (by rw [eF,decide_eq_true c1,decide_eq_true c2];rfl)]
       assumption
      ·omega
     ·focus
       have szE5:=E5.size;have szE4:=E4.size;have szE3:=E3.size;have szE2:=E2.size;have szE1:=E1.size;refine Ke <| Ke <| Kc rfl <| Wo rfl (Ka (v:=.int _ _) rfl) ?_
       refine Wo rfl (Ka (v:=t) rfl) <| Wo rfl (Ko Tryz.underlying88 rfl hL) <| Wo rfl (Ks rfl rfl) <| Kd <| Kg rfl (fun h3=>?_) (fun h3=>?_);refine Kt ?_
       refine Ke <| Kr <| Ke <| W_draw mixed (by kernel_rfl) rfl ?_;refine Jb rfl (fun _ _=>Ka (v:=v) rfl) ?_;refine Jb rfl (fun _ _=>Ka (v:=t) rfl) ?_
       refine Jb rfl (fun _ _=>Ka (v:=.int _ _) rfl) ?_;refine Wq_get Tryz.underlying88 Tryz.sizeOf3 Tryz.isAgg3 rfl (fun _=>rfl) rfl hL E5 rfl (by first | omega | (simp <;> omega)) ?_;rintro _ _ rfl
       refine Wq_get_z Tryz.underlying23 Tryz.sizeOf88 Tryz.isAgg88 rfl (fun _=>rfl) rfl h E5 rfl (by first | omega | (simp <;> omega)) ?_;rintro _ u1 hu1;refine Jb rfl (fun _ _=>Ka (v:=.int _ _) rfl) ?_
       refine Wq_get Tryz.underlying88 Tryz.sizeOf3 Tryz.isAgg3 rfl (fun _=>rfl) rfl hu1 E5 rfl (by first | omega | (simp <;> omega)) ?_;rintro _ _ rfl;refine Jb rfl (fun _ _=>Kx rfl rfl) ?_
       refine Jt rfl (fun _ _=>Ka (v:=.bool _) rfl) (fun h4=>?_) (fun h4=>?_);refine Jb rfl (fun _ _=>Ka (v:=u) rfl) ?_;refine Jb rfl (fun _ _=>Ka (v:=.int _ _) rfl) ?_
       refine Wq_get Tryz.underlying88 Tryz.sizeOf3 Tryz.isAgg3 rfl (fun _=>rfl) rfl hK E5 rfl (by first | omega | (simp <;> omega)) ?_;rintro _ _ rfl;refine Jb rfl (fun _ _=>Ka (v:=u) rfl) ?_
       refine Jb rfl (fun _ _=>Ka (v:=t) rfl) ?_;refine Jb rfl (fun _ _=>Ka (v:=.int _ _) rfl) ?_
       refine Wq_get Tryz.underlying88 Tryz.sizeOf3 Tryz.isAgg3 rfl (fun _=>rfl) rfl hL E5 rfl (by first | omega | (simp <;> omega)) ?_;rintro _ _ rfl
       refine Wq_get_z Tryz.underlying88 Tryz.sizeOf3 Tryz.isAgg3 rfl (fun _=>rfl) rfl hK E5 rfl (by first | omega | (simp <;> omega)) ?_;rintro _ _ rfl;refine Jb rfl (fun _ _=>Kx rfl rfl) ?_
       refine Jb rfl (fun _ _=>Kz (v:=.bool _) rfl rfl) ?_;refine Wq_nil (fun w6 E6=>?_);have hs3:=E6.size;refine Kg rfl (fun h5=>?_) (fun h5=>?_);contradiction;refine Kt ?_;refine Kc rfl ?_
       refine Wo rfl (Ka (v:=.int _ _) rfl) <| Wo rfl (Kw rfl rfl (by omega)) ?_;refine Wo rfl (Kb (v:=.int _ _) rfl) <| Kd ?_;rotate_left;contradiction;(exfalso;omega)
      refine ⟨(m+1),by repeat (first | exact trivial | refine And.intro rfl ?_),by repeat (first | with_reducible exact Same.refl | refine Same.upd rfl ?_ | refine Same.upds rfl ?_ | refine Same.mix rfl ?_),?_,?_⟩
      ·refine ⟨by first | assumption | exact E5.trans (by assumption),by omega,by omega,by first | assumption | exact hO1.ext (by assumption),?_⟩
       rw [← ptM_no hml (by rw [eF,decide_eq_false c2];simp)]
       first | assumption | exact hO2.ext (by assumption)
      ·omega
    ·focus
      have szE5:=E5.size;have szE4:=E4.size;have szE3:=E3.size;have szE2:=E2.size;have szE1:=E1.size;refine Ke <| Ke <| Kc rfl <| Wo rfl (Ka (v:=.int _ _) rfl) ?_
      refine Wo rfl (Ka (v:=t) rfl) <| Wo rfl (Ko Tryz.underlying88 rfl hL) <| Wo rfl (Ks rfl rfl) <| Kd <| Kg rfl (fun h3=>?_) (fun h3=>?_);refine Kt ?_
      refine Ke <| Kr <| Ke <| W_draw mixed (by kernel_rfl) rfl ?_;refine Jb rfl (fun _ _=>Ka (v:=v) rfl) ?_;refine Jb rfl (fun _ _=>Ka (v:=t) rfl) ?_
      refine Jb rfl (fun _ _=>Ka (v:=.int _ _) rfl) ?_;refine Wq_get Tryz.underlying88 Tryz.sizeOf3 Tryz.isAgg3 rfl (fun _=>rfl) rfl hL E5 rfl (by first | omega | (simp <;> omega)) ?_;rintro _ _ rfl
      refine Wq_get_z Tryz.underlying23 Tryz.sizeOf88 Tryz.isAgg88 rfl (fun _=>rfl) rfl h E5 rfl (by first | omega | (simp <;> omega)) ?_;rintro _ u1 hu1;refine Jb rfl (fun _ _=>Ka (v:=.int _ _) rfl) ?_
      refine Wq_get Tryz.underlying88 Tryz.sizeOf3 Tryz.isAgg3 rfl (fun _=>rfl) rfl hu1 E5 rfl (by first | omega | (simp <;> omega)) ?_;rintro _ _ rfl;refine Jb rfl (fun _ _=>Kx rfl rfl) ?_
      refine Jt rfl (fun _ _=>Ka (v:=.bool _) rfl) (fun h4=>?_) (fun h4=>?_);contradiction;refine Kq rfl <| Kq rfl <| Kq rfl <| Kq rfl <| Kq rfl ?_
      refine Kq rfl <| Kq rfl <| Kq rfl <| Kq rfl <| Kq rfl <| Kq rfl <| Kq rfl <| Jb rfl (fun _ _=>Kn (v:=.bool _) rfl rfl) ?_
      refine Wq_nil (fun w6 E6=>?_);have hs3:=E6.size;refine Ky rfl ?_;refine Kt ?_;refine Kc rfl <| Wo rfl (Ka (v:=.int _ _) rfl) <| Wo rfl (Kw rfl rfl (by omega)) ?_
      refine Wo rfl (Kb (v:=.int _ _) rfl) <| Kd ?_;rotate_left;(exfalso;omega)
     refine ⟨(m+1),by repeat (first | exact trivial | refine And.intro rfl ?_),by repeat (first | with_reducible exact Same.refl | refine Same.upd rfl ?_ | refine Same.upds rfl ?_ | refine Same.mix rfl ?_),?_,?_⟩
     ·refine ⟨by first | assumption | exact E5.trans (by assumption),by omega,by omega,by first | assumption | exact hO1.ext (by assumption),?_⟩
      rw [← ptM_no hml (by rw [eF,decide_eq_false c1];simp)]
      first | assumption | exact hO2.ext (by assumption)
     ·omega
   ·obtain rfl:m=L.length:=by omega
    focus
     have szE5:=E5.size;have szE4:=E4.size;have szE3:=E3.size;have szE2:=E2.size;have szE1:=E1.size;refine Ke <| Ke <| Kc rfl <| Wo rfl (Ka (v:=.int _ _) rfl) ?_
     refine Wo rfl (Ka (v:=t) rfl) <| Wo rfl (Ko Tryz.underlying88 rfl hL) <| Wo rfl (Ks rfl rfl) <| Kd <| Kg rfl (fun h3=>?_) (fun h3=>?_);(exfalso;omega)
     refine Jg ?_;refine exitX_same ?_;refine Kc rfl <| Wo rfl (Ka (v:=.int _ _) rfl) <| Wo rfl (Kw rfl rfl (by omega)) ?_;refine Wo rfl (Kb (v:=.int _ _) rfl) <| Kd ?_
    refine ⟨(j+1),by repeat (first | exact trivial | refine And.intro rfl ?_),by repeat (first | with_reducible exact Same.refl | refine Same.upd rfl ?_ | refine Same.upds rfl ?_ | refine Same.mix rfl ?_),?_,?_⟩
    ·refine ⟨by assumption,by omega,by omega,by assumption,?_⟩
     rw [← ptM_all];assumption
    ·omega
  ·obtain rfl:j=p.length:=by omega
   have hrl:(L.map (ptR p K L[k] p.length)).length=L.length:=by simp
   focus
    have szE4:=E4.size;have szE3:=E3.size;have szE2:=E2.size;have szE1:=E1.size;refine Ke <| Ke <| Kc rfl <| Wo rfl (Ka (v:=.int _ _) rfl) ?_
    refine Wo rfl (Ka (v:=v) rfl) <| Wo rfl (Ko Tryz.underlying23 rfl h) <| Wo rfl (Ks rfl rfl) <| Kd <| Kg rfl (fun h2=>?_) (fun h2=>?_);(exfalso;omega)
    refine Jg ?_;refine exitX_same ?_;refine Kc rfl <| Wo rfl (Ka (v:=o) rfl) <| Wo rfl (Ka (v:=.slice _ _ _) rfl) ?_
    refine Ju (ps:=[(0,.slice _ _ _)]) (cs:=[_]) rfl Tryz.underlying23 Tryz.sizeOf88 Tryz.zeroValue88 rfl rfl rfl rfl ?_;rintro b3 w5 hb3 E5 hB1;have hlb3:=hB1.lt;have hs3:=E5.size
    refine Jv rfl el23 rfl rfl hB1 (hO1.ext E5) (hO2.toB.ext E5).o (by omega) (by first | omega | (simp <;> omega)) (by omega) (by omega) (E4.trans E5) (by omega) ?_;have hT1:=(hO1.ext E5);rintro v1 w6 hO1 E6 M1
    have hO2:=(hO2.toB.ext E5).moves M1 hT1 (by omega);have hB1:=hB1.moves M1 hT1 (by omega);have hs5:=E6.size;refine Wo rfl (Kb (v:=v1) rfl) <| Kd <| Kc rfl ?_
    refine Wo rfl (Ka (v:=.int _ _) rfl) <| Wo rfl (Kw rfl rfl (by omega)) ?_;refine Wo rfl (Kb (v:=.int _ _) rfl) <| Kd ?_
   refine ⟨((k+1,v1)),by repeat (first | exact trivial | refine And.intro rfl ?_),by repeat (first | with_reducible exact Same.refl | refine Same.upd rfl ?_ | refine Same.upds rfl ?_ | refine Same.mix rfl ?_),?_,?_⟩
   ·refine ⟨by assumption,by omega,?_⟩
    rw [take_snoc _ _ (by omega)]
    have e:(ptV p K L)[k]'(by omega)=L.map (ptR p K L[k] p.length):=by simp only [ptV,List.getElem_map];rfl
    rw [e]
    assumption
   ·simp only;omega
 ·obtain rfl:k=L.length:=by omega
  focus
   have szE2:=E2.size;have szE1:=E1.size;refine Ke <| Ke <| Kc rfl <| Wo rfl (Ka (v:=.int _ _) rfl) <| Wo rfl (Ka (v:=t) rfl) ?_
   refine Wo rfl (Ko Tryz.underlying88 rfl hL) <| Wo rfl (Ks rfl rfl) <| Kd <| Kg rfl (fun h1=>?_) (fun h1=>?_);(exfalso;omega);refine Jg ?_;refine exitX_same ?_
   refine Ke <| Kc rfl <| Wo rfl (Ka (v:=o) rfl) <| Wo rfl (Kb (v:=o) rfl) <| Kd <| Ja ?_
   refine ⟨E2,(congrArg (Owned _ _ _ _) ?_).mp (hO1.toB.o.mono (by omega))⟩
  rw [List.take_of_length_le (by omega)]
theorem JoinedOf_ok (w:World) (v:Value) (p:List (List Int)) (h:ESl Ints w v p) (z:Int):Does Tryz.prog 165 [v,.int .i64 z] w (RetDX w XR (fun c=>(Nod p z→Cand p z.toNat c)∧(¬Nod p z→c=[]))):=by
 by_cases hz:Nod p z
 ·obtain ⟨hp,hz0,hz1⟩:=id hz
  obtain ⟨i,rfl⟩:=Int.eq_ofNat_of_zero_le hz0
  have hi:i < p.length:=by omega
  have hp5:=hp.2.1
  have k1 : ∀ (w:World) (v:Value),ESl Ints w v p→Does Tryz.prog 161 [v,.int .i64 (i:Int)] w (RetO w XI (ints (rf p i))):=fun w v h=>by
   have:=spec_ReachedFrom_ok w v p i h
   rw [show rfV p (i:Int)=rf p i from if_pos hz] at this;exact this
  have k2 : ∀ (w:World) (v:Value),ESl Ints w v p→Does Tryz.prog 194 [v] w (RetO w XI (ints (kndL p))):=fun w v h=>by
   have:=spec_KindsOf_ok w v p h
   rw [if_pos hp] at this;exact this
  have hrl:=rf_len (p:=p) (i:=i)
  have hril:=ints_len (rf p i)
  have hr0:0 < (rf p i).length:=List.length_pos_iff.2 fun e=>by
   have:=(mem_rf hp.gr hi).2 (Rch.refl i)
   rw [e] at this;cases this
  have hkl:=ikndL_len (p:=p)
  have k4 : ∀ (w:World) (v u t:Value) (L:List Nat),ESl Ints w v p→Ints w u (ints (kndL p))→Ints w t (ints L)→(∀ x ∈ L,x < p.length)→L.length≤p.length→Does Tryz.prog 195 [v,u,t] w (RetO w XR (qp p (L.map (knd p)))):=fun w v u t L h1 h2 h3 h4 h5=>by
   rw [← ptV_qp hp.gr h4]
   refine l4Part_ok w v u t p _ _ h1 h2 h3 hp.gr hkl (fun x hx=>?_) (by rw [ints_len];omega)
   obtain ⟨y,hy,rfl⟩:=List.mem_map.1 hx
   have:=h4 y hy
   omega
  refine Jc Tryz.func165 rfl Tryz.results165 Tryz.ntmps165 rfl ?_
  focus
   refine Ke <| Kc rfl <| Wo rfl (Kb (v:=.slice _ _ _) rfl) <| Kd <| Ke <| Kc rfl <| Wo rfl (Ka (v:=v) rfl) ?_
   refine Wo rfl (Ka (v:=.int _ _) rfl) <| Kj rfl (Jn (a:=v) (b:=.int _ _) Tryz.call161 rfl rfl) (k1 _ _ (h)) ?_;rintro u1 w1 ⟨E1,hO1⟩;have hs1:=E1.size;refine Wo rfl (Kb (v:=u1) rfl) ?_
   refine Kd <| Ke <| Kc rfl <| Wo rfl (Ka (v:=v) rfl) <| Kj rfl (Jk (a:=v) Tryz.call194 rfl) (k2 _ _ ((Mono.mono E1 h))) ?_;rintro u2 w2 ⟨E2,hO2⟩;have hs2:=E2.size
   refine Wo rfl (Kb (v:=u2) rfl) <| Kd <| Ke <| Ke <| Kc rfl <| Wo rfl (Ka (v:=u1) rfl) <| Wo rfl (Ko Tryz.underlying88 rfl (Owned.read hO1)) ?_
   refine Wo rfl (Kx rfl rfl) <| Kd <| Kg rfl (fun h1=>?_) (fun h1=>?_);(exfalso;omega);refine Kt ?_;refine Ke <| Kc rfl <| Wo rfl (Ka (v:=.int _ _) rfl) ?_
   refine Jo (ps:=[(0,.int _ _)]) (cs:=[_]) rfl Tryz.underlying88 Tryz.sizeOf3 Tryz.zeroValue3 rfl rfl rfl rfl ?_;rintro b1 w3 hb1 E3 hB1 hHb1;have hlb1:=hB1.lt;have hs3:=E3.size
   refine Wo rfl (Kb (v:=.slice _ _ _) rfl) <| Kd <| Ke <| Ke <| Kc rfl <| Wo rfl (Kb (v:=.int _ _) rfl) <| Kd <| Kr ?_
  have hO3:Owned w2.heap.size XI w3 (.slice (some ⟨b1,0,none⟩) 1 1) (ints [i]):=Owned.block hHb1 hb1 rfl (by decide) ⟨⟨rfl,rfl⟩,trivial⟩
  have r1:=hO1.read
  have r2:=hO2.read
  clear hHb1 hB1 hO1 hO2
  refine Jh [7,8,9,10,22,23,24,25,26,27,28,29,30,31,32,33,34,35,36,37,38,39,40,41,42,43,44,45,46,47,48,49,50,51,52,53,54,55,56,57,58,59] (fun ((k,u,L):Nat × Value × List Nat)=>[(8,.int .i64 (k:Nat)),(7,u)]) (fun (k,u,L) w'=>Ext w2 w'∧Owned w2.heap.size XI w' u (ints L)∧k≤(rf p i).length∧Fnd p i k L) (fun x=>(rf p i).length - x.1) (0,.slice (some ⟨b1,0,none⟩) 1 1,[i]) (by repeat (first | exact trivial | refine And.intro rfl ?_)) ?_ ?_
  ·exact ⟨by assumption,hO3,Nat.zero_le _,Fnd.zero⟩
  clear hO3
  rintro ⟨k,u,L⟩ ρj w4 ⟨E4,hO3,hk,hF⟩
  have hLl:=hF.len hp.gr hi
  have hLil:=ints_len L
  by_cases hlt:k < (rf p i).length
  ·have hrk:=(mem_rf hp.gr hi).1 (List.getElem_mem hlt) |>.lt hp.gr hi
   have hgk:(ints (rf p i))[k]'(by omega)=((rf p i)[k]:Int):=ints_get hlt
   focus
    have szE4:=E4.size;have szE3:=E3.size;have szE2:=E2.size;have szE1:=E1.size;refine Ke <| Ke <| Kc rfl <| Wo rfl (Ka (v:=.int _ _) rfl) ?_
    refine Wo rfl (Ka (v:=u1) rfl) <| Wo rfl (Ko Tryz.underlying88 rfl r1) <| Wo rfl (Ks rfl rfl) <| Kd <| Kg rfl (fun h2=>?_) (fun h2=>?_);refine Kt ?_
    refine Ke <| Kr <| Ke <| Kc rfl <| Wo rfl (Kb (v:=.bool _) rfl) <| Kd <| Ke <| Ke <| Kc rfl ?_
    refine Wo rfl (Kb (v:=.int _ _) rfl) <| Kd <| Kr ?_;rotate_left;(exfalso;omega)
   refine Jh [9,10,28,29,30,31,32,33,34,35,36,37,38,39,40,41,42,43,44,45,46,47,48,49,50,51] (fun ((j,f):Nat × Bool)=>[(10,.int .i64 (j:Nat)),(9,.bool f)]) (fun (j,f) w'=>Ext w4 w'∧j≤L.length∧(f=true↔knd p (rf p i)[k] ∉ (L.take j).map (knd p))) (fun x=>L.length - x.1) (0,true) (by repeat (first | exact trivial | refine And.intro rfl ?_)) ?_ ?_
   ·exact ⟨Ext.refl _,Nat.zero_le _,by simp⟩
   rintro ⟨j,f⟩ ρk w5 ⟨E5,hj,hf⟩
   by_cases hjl:j < L.length
   ·have hLj:=hF.lt hp.gr hi (List.getElem_mem hjl)
    have hgj:(ints L)[j]'(by omega)=(L[j]:Int):=ints_get hjl
    have hkj:(ints (kndL p))[((ints L)[j]'(by omega)).toNat]'(by omega)=(knd p L[j]:Int):=by
     simp only [hgj,Int.toNat_natCast];exact ikndL_at _
    have hkk:(ints (kndL p))[((ints (rf p i))[k]'(by omega)).toNat]'(by omega)=(knd p (rf p i)[k]:Int):=by
     simp only [hgk,Int.toNat_natCast];exact ikndL_at _
    have hts:=take_snoc _ _ hjl
    have bj:((ints L)[j]'(by omega)).toNat < (ints (kndL p)).length:=by rw [hkl,hgj];omega
    have bk:((ints (rf p i))[k]'(by omega)).toNat < (ints (kndL p)).length:=by rw [hkl,hgk];omega
    cases f
    ·focus
      have szE5:=E5.size;have szE4:=E4.size;have szE3:=E3.size;have szE2:=E2.size;have szE1:=E1.size;refine Ke <| Ke <| Kc rfl <| Wo rfl (Ka (v:=.int _ _) rfl) ?_
      refine Wo rfl (Ka (v:=u) rfl) <| Wo rfl (Ko Tryz.underlying88 rfl (Owned.read hO3)) <| Wo rfl (Ks rfl rfl) <| Kd <| Kg rfl (fun h3=>?_) (fun h3=>?_);refine Kt ?_
      refine Ke <| Kr <| W_draw mixed (by kernel_rfl) rfl ?_;refine Jb rfl (fun _ _=>Ka (v:=.bool _) rfl) ?_;refine Jb rfl (fun _ _=>Ka (v:=.bool _) rfl) ?_;refine Kq rfl ?_
      refine Kq rfl <| Kq rfl <| Kq rfl <| Kq rfl <| Kq rfl <| Kq rfl <| Kq rfl <| Kq rfl <| Kq rfl <| Kq rfl ?_
      refine Kq rfl <| Kq rfl <| Kq rfl <| Kq rfl <| Jb rfl (fun _ _=>Kn (v:=.bool _) rfl rfl) ?_;refine Jb rfl (fun _ _=>Kb (v:=.bool _) rfl) ?_
      refine Wq_nil (fun w6 E6=>?_);have hs4:=E6.size;refine Kc rfl <| Wo rfl (Ka (v:=.int _ _) rfl) <| Wo rfl (Kw rfl rfl (by omega)) ?_;refine Wo rfl (Kb (v:=.int _ _) rfl) ?_
      refine Kd ?_;rotate_left;(exfalso;omega)
     refine ⟨((j+1,false)),by repeat (first | exact trivial | refine And.intro rfl ?_),by repeat (first | with_reducible exact Same.refl | refine Same.upd rfl ?_ | refine Same.upds rfl ?_ | refine Same.mix rfl ?_),?_,?_⟩
     ·refine ⟨by exact (E5.trans E6),by omega,⟨fun h=>(by cases h),fun h=>?_⟩⟩
      rw [hts,List.map_append,List.mem_append,not_or] at h
      exact absurd (hf.2 h.1) (by simp)
     ·simp only;omega
    ·focus
      have szE5:=E5.size;have szE4:=E4.size;have szE3:=E3.size;have szE2:=E2.size;have szE1:=E1.size;refine Ke <| Ke <| Kc rfl <| Wo rfl (Ka (v:=.int _ _) rfl) ?_
      refine Wo rfl (Ka (v:=u) rfl) <| Wo rfl (Ko Tryz.underlying88 rfl (Owned.read hO3)) <| Wo rfl (Ks rfl rfl) <| Kd <| Kg rfl (fun h3=>?_) (fun h3=>?_);refine Kt ?_
      refine Ke <| Kr <| W_draw mixed (by kernel_rfl) rfl ?_;refine Jb rfl (fun _ _=>Ka (v:=.bool _) rfl) ?_;refine Jb rfl (fun _ _=>Ka (v:=.bool _) rfl) ?_
      refine Jb rfl (fun _ _=>Ka (v:=u2) rfl) ?_;refine Jb rfl (fun _ _=>Ka (v:=u) rfl) ?_;refine Jb rfl (fun _ _=>Ka (v:=.int _ _) rfl) ?_
      refine Wq_get Tryz.underlying88 Tryz.sizeOf3 Tryz.isAgg3 rfl (fun _=>rfl) rfl (Owned.read hO3) E5 rfl (by first | omega | (simp <;> omega)) ?_;rintro _ _ rfl
      refine Wq_get_z Tryz.underlying88 Tryz.sizeOf3 Tryz.isAgg3 rfl (fun _=>rfl) rfl r2 (E4.trans E5) rfl (by first | omega | (simp <;> omega)) ?_;rintro _ _ rfl;refine Jb rfl (fun _ _=>Ka (v:=u2) rfl) ?_
      refine Jb rfl (fun _ _=>Ka (v:=u1) rfl) ?_;refine Jb rfl (fun _ _=>Ka (v:=.int _ _) rfl) ?_
      refine Wq_get Tryz.underlying88 Tryz.sizeOf3 Tryz.isAgg3 rfl (fun _=>rfl) rfl r1 ((E2.trans E4).trans E5) rfl (by first | omega | (simp <;> omega)) ?_;rintro _ _ rfl
      refine Wq_get_z Tryz.underlying88 Tryz.sizeOf3 Tryz.isAgg3 rfl (fun _=>rfl) rfl r2 (E4.trans E5) rfl (by first | omega | (simp <;> omega)) ?_;rintro _ _ rfl;refine Jb rfl (fun _ _=>Gb rfl rfl) ?_
      refine Jb rfl (fun _ _=>Kz (v:=.bool _) rfl rfl) ?_;refine Jb rfl (fun _ _=>Kb (v:=.bool _) rfl) ?_;refine Wq_nil (fun w6 E6=>?_);have hs4:=E6.size;refine Kc rfl ?_
      refine Wo rfl (Ka (v:=.int _ _) rfl) <| Wo rfl (Kw rfl rfl (by omega)) ?_;refine Wo rfl (Kb (v:=.int _ _) rfl) <| Kd ?_;rotate_left;(exfalso;omega)
     refine ⟨((j+1,!decide ((ints (kndL p))[((ints L)[j]'(by omega)).toNat]'bj=(ints (kndL p))[((ints (rf p i))[k]'(by omega)).toNat]'bk))),by repeat (first | exact trivial | refine And.intro rfl ?_),by repeat (first | with_reducible exact Same.refl | refine Same.upd rfl ?_ | refine Same.upds rfl ?_ | refine Same.mix rfl ?_),?_,?_⟩
     ·refine ⟨by exact (E5.trans E6),by omega,?_⟩
      rw [hkj,hkk,hts,List.map_append,List.mem_append,not_or]
      have hf':=hf.1 rfl
      simp only [List.map_cons,List.map_nil,List.mem_singleton,Bool.not_eq_true',decide_eq_false_iff_not]
      constructor
      ·intro h;exact ⟨hf',fun e=>h (by rw [e])⟩
      ·intro h e;exact h.2 (by omega)
     ·simp only;omega
   ·obtain rfl:j=L.length:=by omega
    rw [List.take_length] at hf
    cases f
    ·focus
      have szE5:=E5.size;have szE4:=E4.size;have szE3:=E3.size;have szE2:=E2.size;have szE1:=E1.size;refine Ke <| Ke <| Kc rfl <| Wo rfl (Ka (v:=.int _ _) rfl) ?_
      refine Wo rfl (Ka (v:=u) rfl) <| Wo rfl (Ko Tryz.underlying88 rfl (Owned.read hO3)) <| Wo rfl (Ks rfl rfl) <| Kd <| Kg rfl (fun h3=>?_) (fun h3=>?_);(exfalso;omega)
      refine Jg ?_;refine exitX_same ?_;refine Ke <| Kc rfl <| Wo rfl (Ka (v:=.bool _) rfl) <| Kd <| Ky rfl ?_;refine Kt ?_;refine Kc rfl ?_
      refine Wo rfl (Ka (v:=.int _ _) rfl) <| Wo rfl (Kw rfl rfl (by omega)) ?_;refine Wo rfl (Kb (v:=.int _ _) rfl) <| Kd ?_
     refine ⟨((k+1,u,L)),by repeat (first | exact trivial | refine And.intro rfl ?_),by repeat (first | with_reducible exact Same.refl | refine Same.upd rfl ?_ | refine Same.upds rfl ?_ | refine Same.mix rfl ?_),?_,?_⟩
     ·refine ⟨by exact (E4.trans E5),by exact (Mono.mono E5 hO3),by omega,hF.skip hlt ?_⟩
      exact Classical.byContradiction fun h=>absurd (hf.2 h) (by simp)
     ·simp only;omega
    ·focus
      have szE5:=E5.size;have szE4:=E4.size;have szE3:=E3.size;have szE2:=E2.size;have szE1:=E1.size;refine Ke <| Ke <| Kc rfl <| Wo rfl (Ka (v:=.int _ _) rfl) ?_
      refine Wo rfl (Ka (v:=u) rfl) <| Wo rfl (Ko Tryz.underlying88 rfl (Owned.read hO3)) <| Wo rfl (Ks rfl rfl) <| Kd <| Kg rfl (fun h3=>?_) (fun h3=>?_);(exfalso;omega)
      refine Jg ?_;refine exitX_same ?_;refine Ke <| Kc rfl <| Wo rfl (Ka (v:=.bool _) rfl) <| Kd <| Ga rfl ?_;refine Kc rfl ?_
      refine Wo rfl (Ka (v:=u) rfl) <| Wo rfl (Ka (v:=u1) rfl) <| Wo rfl (Ka (v:=.int _ _) rfl) ?_
      refine Ji Tryz.underlying88 Tryz.sizeOf3 Tryz.isAgg3 rfl (fun _=>rfl) rfl r1 ((E2.trans E4).trans E5) rfl (by first | omega | (simp <;> omega)) ?_;rintro _ _ rfl
      refine Jo (ps:=[(0,.int _ _)]) (cs:=[_]) rfl Tryz.underlying88 Tryz.sizeOf3 Tryz.zeroValue3 rfl rfl rfl rfl ?_;rintro b2 w6 hb2 E6 hB1 hHb2;have hlb2:=hB1.lt;have hs4:=E6.size
      refine Jv rfl el88 rfl rfl hB1 (hO3.toB.ext (E5.trans E6)) Owned.int (Nat.le_refl _) (by first | omega | (simp <;> omega)) (by omega) (by omega) ((((E1.trans E2).trans E4).trans E5).trans E6) (by omega) ?_
      have hT1:=(hO3.toB.ext (E5.trans E6));rintro v1 w7 hO3 E7 M1;have E8:=M1.ext hT1 (((E2.trans E4).trans E5).trans E6) (by omega);have szE8:=E8.size;have E9:=M1.ext hT1 ((E4.trans E5).trans E6) (by omega)
      have szE9:=E9.size;have hB1:=hB1.moves M1 hT1 (by omega);have hs5:=E7.size;refine Wo rfl (Kb (v:=v1) rfl) <| Kd <| Kc rfl <| Wo rfl (Ka (v:=.int _ _) rfl) ?_
      refine Wo rfl (Kw rfl rfl (by omega)) ?_;refine Wo rfl (Kb (v:=.int _ _) rfl) <| Kd ?_
     refine ⟨((k+1,v1,L++[(rf p i)[k]])),by repeat (first | exact trivial | refine And.intro rfl ?_),by repeat (first | with_reducible exact Same.refl | refine Same.upd rfl ?_ | refine Same.upds rfl ?_ | refine Same.mix rfl ?_),?_,?_⟩
     ·refine ⟨by assumption,?_,by omega,hF.step hp.gr hi hlt (hf.1 rfl)⟩
      rw [ints_append,show ints [(rf p i)[k]]=[(ints (rf p i))[k]'(by omega)] by rw [hgk];rfl]
      assumption
     ·simp only;omega
  ·have hK:=hF.kds hp.gr hi (by omega)
   have hLt : ∀ x ∈ L,x < p.length:=fun x hx=>hF.lt hp.gr hi hx
   focus
    have szE4:=E4.size;have szE3:=E3.size;have szE2:=E2.size;have szE1:=E1.size;refine Ke <| Ke <| Kc rfl <| Wo rfl (Ka (v:=.int _ _) rfl) ?_
    refine Wo rfl (Ka (v:=u1) rfl) <| Wo rfl (Ko Tryz.underlying88 rfl r1) <| Wo rfl (Ks rfl rfl) <| Kd <| Kg rfl (fun h2=>?_) (fun h2=>?_);(exfalso;omega)
    refine Jg ?_;refine exitX_same ?_;refine Ke <| Kc rfl <| Wo rfl (Ka (v:=v) rfl) <| Wo rfl (Ka (v:=u2) rfl) <| Wo rfl (Ka (v:=u) rfl) ?_
    refine Kj rfl (opc3 (a:=v) (b:=u2) (c:=u) Tryz.call195 rfl rfl rfl) (k4 _ _ _ _ _ ((Mono.mono ((E1.trans E2).trans E4) h)) ((Mono.mono E4 r2)) ((Owned.read hO3)) (by assumption) (by assumption)) ?_;rintro u3 w5 ⟨E5,hO1⟩
    have hs4:=E5.size;refine Wo rfl (Kb (v:=u3) rfl) <| Kd <| Ja ?_;refine at_ret (v:=u3) rfl ?_
   refine ⟨_,by exact (((E1.trans E2).trans E4).trans E5),hO1.mono (by omega),fun _=>⟨_,hK,rfl⟩,fun h=>absurd hz h⟩
 ·have k1 : ∀ (w:World) (v:Value),ESl Ints w v p→Does Tryz.prog 161 [v,.int .i64 z] w (RetO w XI []):=fun w v h=>by
   have:=spec_ReachedFrom_ok w v p z h
   rw [show rfV p z=[] from if_neg hz] at this;exact this
  have k2 : ∀ (w:World) (v:Value),ESl Ints w v p→Does Tryz.prog 194 [v] w (RetO w XI (if Pic p then ints (kndL p) else [])):=fun w v h=>spec_KindsOf_ok w v p h
  have hnil:(([]:List Int).length:Int)=0:=rfl
  refine Jc Tryz.func165 rfl Tryz.results165 Tryz.ntmps165 rfl ?_
  focus
   refine Ke <| Kc rfl <| Wo rfl (Kb (v:=.slice _ _ _) rfl) <| Kd <| Ke <| Kc rfl <| Wo rfl (Ka (v:=v) rfl) ?_
   refine Wo rfl (Ka (v:=.int _ _) rfl) <| Kj rfl (Jn (a:=v) (b:=.int _ _) Tryz.call161 rfl rfl) (k1 _ _ (h)) ?_;rintro u1 w1 ⟨E1,hO1⟩;have hs1:=E1.size;refine Wo rfl (Kb (v:=u1) rfl) ?_
   refine Kd <| Ke <| Kc rfl <| Wo rfl (Ka (v:=v) rfl) <| Kj rfl (Jk (a:=v) Tryz.call194 rfl) (k2 _ _ ((Mono.mono E1 h))) ?_;rintro u2 w2 ⟨E2,hO2⟩;have hs2:=E2.size
   refine Wo rfl (Kb (v:=u2) rfl) <| Kd <| Ke <| Ke <| Kc rfl <| Wo rfl (Ka (v:=u1) rfl) <| Wo rfl (Ko Tryz.underlying88 rfl (Owned.read hO1)) ?_
   refine Wo rfl (Kx rfl rfl) <| Kd <| Kg rfl (fun h1=>?_) (fun h1=>?_);refine Ke <| Kc rfl <| Js (XSl 3 XInt) rfl el23 Tryz.sizeOf88 ?_;rintro b1 w3 hb1 b1lt E3 hO3
   have hs3:=E3.size;refine Wo rfl (Kb (v:=.slice _ _ _) rfl) <| Kd <| Ja ?_;refine at_ret (v:=.slice _ _ _) rfl ?_;rotate_left;contradiction
  exact ⟨_,by exact ((E1.trans E2).trans E3),hO3.mono (by omega),fun h=>absurd h hz,fun _=>rfl⟩
end Go.Proofs.YtbgpppaljpngmaaGreatDoor
set_option linter.unusedVariables false
set_option linter.unusedSimpArgs false
namespace Go.Hs
def oxt (x:Nat) (o:List Nat):List (List Nat):=((List.range x).filter fun y=>decide (1≤y) && !o.contains y).map fun y=>o++[y]
theorem ordS_succ (n k:Nat):ordS n (k+1)=(ordS n k).flatMap (oxt n):=rfl
theorem oxt_one (o:List Nat):oxt 1 o=[]:=rfl
theorem oxt_yes {x:Nat} {o:List Nat} (hx:1≤x) (h:o.contains x=false):oxt (x+1) o=oxt x o++[o++[x]]:=by
 unfold oxt
 rw [filter_range_succ,decide_eq_true hx,h]
 simp
theorem oxt_no {x:Nat} {o:List Nat} (h:o.contains x=true):oxt (x+1) o=oxt x o:=by
 unfold oxt
 rw [filter_range_succ,h]
 simp
theorem oxt_len (x:Nat) (o:List Nat):(oxt x o).length≤x:=by
 unfold oxt
 rw [List.length_map]
 exact Nat.le_trans (List.length_filter_le _ _) (by simp)
theorem flatMap_len {α β : Type} (f : α→List β) (m:Nat) : ∀ (l:List α),(∀ x ∈ l,(f x).length≤m)→(l.flatMap f).length≤l.length*m
 | [],_=>by simp
 | x :: l, h => by
   rw [List.flatMap_cons, List.length_append, List.length_cons]
   have := flatMap_len f m l fun y hy => h y (by simp [hy])
   have := h x (by simp)
   rw [Nat.succ_mul]; omega
theorem ordS_len (n:Nat) : ∀ k,(ordS n k).length≤n ^ k
 | 0=>by simp [ordS]
 | k + 1 => by
   rw [ordS_succ]
   have h1 := flatMap_len (oxt n) n (ordS n k) fun x _ => oxt_len n x
   have h2 := Nat.mul_le_mul_right n (ordS_len n k)
   rw [Nat.pow_succ]; omega
theorem ordS_len5 {n k:Nat} (hn:n≤5) (hk:k≤5):(ordS n k).length≤3125:=by
 have h1:=ordS_len n k
 have h2:n ^ k≤5 ^ k:=Nat.pow_le_pow_left hn k
 have h3:5 ^ k≤5 ^ 5:=Nat.pow_le_pow_right (by omega) hk
 have:(5:Nat) ^ 5=3125:=rfl
 omega
theorem iis_get {D:List (List Nat)} {i:Nat} (h:i < (D.map ints).length):(D.map ints)[i]=ints (D[i]'(by simpa using h)):=by simp
set_option linter.unusedVariables false
set_option linter.unusedSimpArgs false
section
variable {α : Type} {X:World→List Nat→Value→α→Prop} {w:World} {lo hi b:Nat} {e:TypeId} {r:Value} {x : α}
theorem Owned.single [Loc X] (hr:OwnedB lo hi X w r x) (hb:w.heap[b]? = some (.cells [r].toArray e (0,0))) (hl:lo≤b) (hh:hi≤b):Owned lo (XSl e X) w (.slice (some ⟨b,0,none⟩) 1 1) [x]:=by
 obtain ⟨f,h1,h2,h3⟩:=hr
 have hc:=Loc.cell h3
 refine ⟨b::f,List.nodup_cons.2 ⟨fun hm=>by have:=h2 b hm;omega,h1⟩,fun k hk=>?_,[r],[f],?_,by simp [Value.ownBlock],⟨h3,trivial⟩⟩
 ·rcases List.mem_cons.1 hk with rfl | hk
  ·exact hl
  ·exact (h2 k hk).1
 ·have:=ownsRow_block (e:=e) (cs:=[r]) hb (by unfold maxLen;simp)
  exact this
end
section
variable {P:Program} {n:Nat} {N:Env→World→Prop} {ρ : Env} {w:World} {all:Array Oper} {rest:List Oper} {d:Nat} {ty t el:TypeId} {pos:String} {after:Array Edge} {g:Option (Nat × Bool)} {x:Operand} {z v:Value}
theorem Jz (hw:wantedE all ⟨some d,.buildSlice t 1 #[(0,x)],ty,pos,after,g⟩ ρ = true) (ht:P.underlying t=some (.slice el)) (hs : ∀ w,(sizeOf el).run P w=.ok 1 w)
  (hz : ∀ w,(zeroValue el).run P w=.ok z w) (h1:isCell z=true) (hv:isCell v=true) (hx:evalE ρ x=v)
  (hk : ∀ b w1,w.heap.size≤b→Ext w w1→Blk w1 b [v]→w1.heap[b]? = some (.cells [v].toArray el (0,0))→Wops P n all rest N (upd ρ d (.slice (some ⟨b,0,none⟩) 1 1)) w1) :
  Wops P n all (⟨some d,.buildSlice t 1 #[(0,x)],ty,pos,after,g⟩::rest) N ρ w:=by
 refine Jo (ps:=[(0,v)]) (cs:=[v]) hw ht hs hz h1 rfl (by simp [hx]) ?_ hk
 simp [fillF,hv,show Nat.blt 0 1=true from rfl]
end
end Go.Hs
namespace Go.Proofs.YtbgpppaljpngmaaGreatDoor
open Go.Hs
set_option maxRecDepth 10000
set_option maxHeartbeats 4000000
set_option linter.unusedVariables false
set_option linter.unusedSimpArgs false
theorem l4Orders_ok (w:World) (n:Nat) (hn:1≤n∧n≤5):Does Tryz.prog 166 [.int .i64 (n:Int)] w (RetO w XR ((orders n).map ints)):=by
 refine Jc Tryz.func166 rfl Tryz.results166 Tryz.ntmps166 rfl ?_
 have keepR:True:=trivial
 focus
  refine Ke <| Kc rfl <| Wo rfl (Kb (v:=.slice _ _ _) rfl) <| Kd <| Ke <| Kc rfl ?_
  refine Jo (ps:=[(0,.int _ _)]) (cs:=[_]) rfl Tryz.underlying88 Tryz.sizeOf3 Tryz.zeroValue3 rfl rfl rfl rfl ?_;rintro b1 w1 hb1 E1 hB1 hHb1;have hlb1:=hB1.lt;have hs1:=E1.size
  refine Jo (ps:=[(0,.slice _ _ _)]) (cs:=[_]) rfl Tryz.underlying23 Tryz.sizeOf88 Tryz.zeroValue88 rfl rfl rfl rfl ?_;rintro b2 w2 hb2 E2 hB2 hHb2;have hlb2:=hB2.lt;have hs2:=E2.size
  refine Wo rfl (Kb (v:=.slice _ _ _) rfl) <| Kd <| Ke <| Ke <| Kc rfl <| Wo rfl (Kb (v:=.int _ _) rfl) <| Kd <| Kr ?_
 clear keepR
 have hOr:Owned w.heap.size XI w1 (.slice (some ⟨b1,0,none⟩) 1 1) [0]:=Owned.block hHb1 hb1 rfl (by decide) ⟨⟨rfl,rfl⟩,trivial⟩
 have hO0:Owned w.heap.size XR w2 (.slice (some ⟨b2,0,none⟩) 1 1) [[0]]:=Owned.single (hOr.toB.ext E2) hHb2 (by omega) (by omega)
 clear hOr hHb1 hHb2 hB1 hB2
 refine Jh [3,4,5,6,7,8,9,12,13,14,15,16,17,18,19,20,21,22,23,24,25,26,27,28,29,30,31,32,33,34,35,36,37,38,39,40,41,42,43,44,45,46,47,48,49,50,51,52,53,54,55,56,57,58,59,60,61,62,63,64] (fun ((k,u):Nat × Value)=>[(4,.int .i64 (k:Nat)),(3,u)]) (fun (k,u) w'=>Ext w w'∧1≤k∧k≤n∧Owned w.heap.size XR w' u ((ordS n (k - 1)).map ints)) (fun x=>n - x.1) (1,.slice (some ⟨b2,0,none⟩) 1 1) (by repeat (first | exact trivial | refine And.intro rfl ?_)) ?_ ?_
 ·exact ⟨by first | assumption | exact E1.trans E2,Nat.le_refl _,hn.1,hO0⟩
 clear hO0
 rintro ⟨k,u⟩ ρj w3 ⟨E3,hk1,hkn,hO1⟩
 by_cases hlt:k < n
 ·obtain ⟨D,hD⟩ : ∃ D,D=ordS n (k - 1):=⟨_,rfl⟩
  have hDl:D.length≤3125:=hD ▸ ordS_len5 hn.2 (by omega)
  have hDo : ∀ o ∈ D,o.length=k:=fun o ho=>by
   have:=((mem_ordS hn.1 (k - 1) o).1 (hD ▸ ho)).1
   omega
  rw [← hD] at hO1
  have hDm:(D.map ints).length=D.length:=by simp
  have hR:=hO1.read
  clear hO1
  focus
   have szE3:=E3.size;have szE2:=E2.size;have szE1:=E1.size;refine Ke <| Ke <| Kc rfl <| Wo rfl (Ka (v:=.int _ _) rfl) <| Wo rfl (Ka (v:=.int _ _) rfl) ?_
   refine Wo rfl (Ks rfl rfl) <| Kd <| Kg rfl (fun h1=>?_) (fun h1=>?_);refine Kt ?_;refine Ke <| Kr <| Ke <| Kc rfl ?_
   refine Js (XSl 3 XInt) rfl el23 Tryz.sizeOf88 ?_;rintro b3 w4 hb3 b3lt E4 hO1;have hs3:=E4.size;refine Wo rfl (Kb (v:=.slice _ _ _) rfl) <| Kd <| Ke <| Ke ?_
   refine Kc rfl <| Wo rfl (Kb (v:=.int _ _) rfl) <| Kd <| Kr ?_;rotate_left;(exfalso;omega)
  refine Jh [5,6,7,8,9,18,19,20,21,22,23,24,25,26,27,28,29,30,31,32,33,34,35,36,37,38,39,40,41,42,43,44,45,46,47,48,49,50,51,52,53,54,55,56,57,58,59,60,61,62,63] (fun ((i,nx):Nat × Value)=>[(6,.int .i64 (i:Nat)),(5,nx)]) (fun (i,nx) w'=>Ext w3 w'∧i≤D.length∧Owned w3.heap.size XR w' nx (((D.take i).flatMap (oxt n)).map ints)) (fun x=>D.length - x.1) (0,.slice (some ⟨b3,0,none⟩) 0 0) (by repeat (first | exact trivial | refine And.intro rfl ?_)) ?_ ?_
  ·exact ⟨by assumption,Nat.zero_le _,by simpa using hO1⟩
  clear hO1
  rintro ⟨i,nx⟩ ρk w5 ⟨E5,hi,hO1⟩
  by_cases hil:i < D.length
  ·have hgi:=iis_get (D:=D) (i:=i) (by omega)
   have hol:=hDo D[i] (List.getElem_mem hil)
   have hil2:=ints_len D[i]
   have hfl:((D.take i).flatMap (oxt n)).length≤15625:=by
    have:=flatMap_len (oxt n) n (D.take i) fun x _=>oxt_len n x
    have h2:(D.take i).length≤3125:=by simp;omega
    have h3:=Nat.mul_le_mul h2 hn.2
    omega
   focus
    have szE5:=E5.size;have szE4:=E4.size;have szE3:=E3.size;have szE2:=E2.size;have szE1:=E1.size;refine Ke <| Ke <| Kc rfl <| Wo rfl (Ka (v:=.int _ _) rfl) ?_
    refine Wo rfl (Ka (v:=u) rfl) <| Wo rfl (Ko Tryz.underlying23 rfl hR) <| Wo rfl (Ks rfl rfl) <| Kd <| Kg rfl (fun h2=>?_) (fun h2=>?_);refine Kt ?_
    refine Ke <| Kr <| Ke <| Kc rfl <| Wo rfl (Kb (v:=.int _ _) rfl) <| Kd <| Kr ?_;rotate_left;(exfalso;omega)
   refine Jh [5,7,8,9,24,25,26,27,28,29,30,31,32,33,34,35,36,37,38,39,40,41,42,43,44,45,46,47,48,49,50,51,52,53,54,55,56,57,58,59,60,61,62,63] (fun ((x,nx):Nat × Value)=>[(7,.int .i64 (x:Nat)),(5,nx)]) (fun (x,nx) w'=>Ext w3 w'∧1≤x∧x≤n∧Owned w3.heap.size XR w' nx (((D.take i).flatMap (oxt n)++oxt x D[i]).map ints)) (fun x=>n - x.1) (1,nx) (by repeat (first | exact trivial | refine And.intro rfl ?_)) ?_ ?_
   ·exact ⟨by assumption,Nat.le_refl _,hn.1,by rw [oxt_one];simpa using hO1⟩
   clear hO1
   rintro ⟨x,ny⟩ ρl w6 ⟨E6,hx1,hxn,hO1⟩
   have hml:(((D.take i).flatMap (oxt n)++oxt x D[i]).map ints).length≤15630:=by
    have:=oxt_len x D[i]
    simp only [List.length_map,List.length_append];omega
   by_cases hxl:x < n
   ·focus
     have szE6:=E6.size;have szE5:=E5.size;have szE4:=E4.size;have szE3:=E3.size;have szE2:=E2.size;have szE1:=E1.size;refine Ke <| Ke <| Kc rfl ?_
     refine Wo rfl (Ka (v:=.int _ _) rfl) <| Wo rfl (Ka (v:=.int _ _) rfl) <| Wo rfl (Ks rfl rfl) <| Kd <| Kg rfl (fun h3=>?_) (fun h3=>?_);refine Kt ?_
     refine Ke <| Kr <| Ke <| Kc rfl <| Wo rfl (Kb (v:=.bool _) rfl) <| Kd <| Ke <| Ke <| Kc rfl ?_
     refine Wo rfl (Kb (v:=.int _ _) rfl) <| Kd <| Kr ?_;rotate_left;(exfalso;omega)
    refine Jh [8,9,29,30,31,32,33,34,35,36,37,38,39,40,41,42,43,44,45,46,47,48,49] (fun ((j,f):Nat × Bool)=>[(9,.int .i64 (j:Nat)),(8,.bool f)]) (fun (j,f) w'=>Ext w6 w'∧j≤D[i].length∧f=(D[i].take j).contains x) (fun y=>D[i].length - y.1) (0,false) (by repeat (first | exact trivial | refine And.intro rfl ?_)) ?_ ?_
    ·exact ⟨Ext.refl _,Nat.zero_le _,by simp⟩
    rintro ⟨j,f⟩ ρm w7 ⟨E7,hj,hf⟩
    by_cases hjl:j < D[i].length
    ·have hgj:(ints D[i])[j]'(by omega)=(D[i][j]:Int):=ints_get hjl
     have hts:=take_snoc _ _ hjl
     have hgg:((D.map ints)[i]'(by omega))[j]'(by rw [hgi];omega)=(D[i][j]:Int):=by simp only [hgi];exact hgj
     have hrl:((D.map ints)[i]'(by omega)).length=D[i].length:=by rw [hgi];exact hil2
     have hct:(D[i].take (j+1)).contains x=((D[i].take j).contains x || decide (D[i][j]=x)):=by
      rw [hts,Bool.eq_iff_iff]
      simp only [List.contains_eq_mem,List.mem_append,List.mem_singleton,decide_eq_true_eq,Bool.or_eq_true]
      exact or_congr Iff.rfl ⟨fun h=>h.symm,fun h=>h.symm⟩
     cases f
     ·focus
       have szE7:=E7.size;have szE6:=E6.size;have szE5:=E5.size;have szE4:=E4.size;have szE3:=E3.size;have szE2:=E2.size;have szE1:=E1.size;refine Ke <| Ke <| Kc rfl ?_
       refine Wo rfl (Ka (v:=.int _ _) rfl) <| Wo rfl (Ka (v:=u) rfl) <| Wo rfl (Ka (v:=.int _ _) rfl) ?_
       refine Ji Tryz.underlying23 Tryz.sizeOf88 Tryz.isAgg88 rfl (fun _=>rfl) rfl hR (E6.trans E7) rfl (by first | omega | (simp <;> omega)) ?_;rintro _ u1 hu1;refine Wo rfl (Ko Tryz.underlying88 rfl hu1) ?_
       refine Wo rfl (Ks rfl rfl) <| Kd <| Kg rfl (fun h4=>?_) (fun h4=>?_);refine Kt ?_;refine Ke <| Kr <| Kc rfl <| Wo rfl (Ka (v:=.bool _) rfl) ?_
       refine Wo rfl (Ka (v:=.bool _) rfl) <| Wo rfl (Ka (v:=u) rfl) <| Wo rfl (Ka (v:=.int _ _) rfl) ?_
       refine Ji Tryz.underlying23 Tryz.sizeOf88 Tryz.isAgg88 rfl (fun _=>rfl) rfl hR (E6.trans E7) rfl (by first | omega | (simp <;> omega)) ?_;rintro _ u2 hu2;refine Wo rfl (Ka (v:=.int _ _) rfl) ?_
       refine Ji Tryz.underlying88 Tryz.sizeOf3 Tryz.isAgg3 rfl (fun _=>rfl) rfl hu2 (E6.trans E7) rfl (by first | omega | (simp <;> omega)) ?_;rintro _ _ rfl;refine Wo rfl (Ka (v:=.int _ _) rfl) ?_
       refine Wo rfl (Kx rfl rfl) <| Wo rfl (Kn (v:=.bool _) rfl rfl) <| Wo rfl (Kb (v:=.bool _) rfl) <| Kd <| Kc rfl <| Wo rfl (Ka (v:=.int _ _) rfl) ?_
       refine Wo rfl (Kw rfl rfl (by omega)) ?_;refine Wo rfl (Kb (v:=.int _ _) rfl) <| Kd ?_;rotate_left;(exfalso;omega)
      refine ⟨((j+1,decide (((D.map ints)[i]'(by omega))[j]'(by rw [hgi];omega)=(x:Int)))),by repeat (first | exact trivial | refine And.intro rfl ?_),by repeat (first | with_reducible exact Same.refl | refine Same.upd rfl ?_ | refine Same.upds rfl ?_ | refine Same.mix rfl ?_),?_,?_⟩
      ·refine ⟨by exact E7,by omega,?_⟩
       rw [hct,← hf,Bool.false_or,decide_eq_decide,hgg]
       omega
      ·simp only;omega
     ·focus
       have szE7:=E7.size;have szE6:=E6.size;have szE5:=E5.size;have szE4:=E4.size;have szE3:=E3.size;have szE2:=E2.size;have szE1:=E1.size;refine Ke <| Ke <| Kc rfl ?_
       refine Wo rfl (Ka (v:=.int _ _) rfl) <| Wo rfl (Ka (v:=u) rfl) <| Wo rfl (Ka (v:=.int _ _) rfl) ?_
       refine Ji Tryz.underlying23 Tryz.sizeOf88 Tryz.isAgg88 rfl (fun _=>rfl) rfl hR (E6.trans E7) rfl (by first | omega | (simp <;> omega)) ?_;rintro _ u1 hu1;refine Wo rfl (Ko Tryz.underlying88 rfl hu1) ?_
       refine Wo rfl (Ks rfl rfl) <| Kd <| Kg rfl (fun h4=>?_) (fun h4=>?_);refine Kt ?_;refine Ke <| Kr <| Kc rfl <| Wo rfl (Ka (v:=.bool _) rfl) ?_
       refine Wo rfl (Ka (v:=.bool _) rfl) <| Ki rfl <| Ki rfl <| Ki rfl <| Ki rfl <| Ki rfl <| Ki rfl <| Ki rfl <| Ki rfl ?_
       refine Ki rfl <| Wo rfl (Kz (v:=.bool _) rfl rfl) <| Wo rfl (Kb (v:=.bool _) rfl) <| Kd <| Kc rfl <| Wo rfl (Ka (v:=.int _ _) rfl) ?_
       refine Wo rfl (Kw rfl rfl (by omega)) ?_;refine Wo rfl (Kb (v:=.int _ _) rfl) <| Kd ?_;rotate_left;(exfalso;omega)
      refine ⟨((j+1,true)),by repeat (first | exact trivial | refine And.intro rfl ?_),by repeat (first | with_reducible exact Same.refl | refine Same.upd rfl ?_ | refine Same.upds rfl ?_ | refine Same.mix rfl ?_),?_,?_⟩
      ·refine ⟨by exact E7,by omega,?_⟩
       rw [hct,← hf];rfl
      ·simp only;omega
    ·obtain rfl:j=D[i].length:=by omega
     rw [List.take_length] at hf
     have hrl:((D.map ints)[i]'(by omega)).length=D[i].length:=by rw [hgi];exact hil2
     cases f
     ·focus
       have szE7:=E7.size;have szE6:=E6.size;have szE5:=E5.size;have szE4:=E4.size;have szE3:=E3.size;have szE2:=E2.size;have szE1:=E1.size;refine Ke <| Ke <| Kc rfl ?_
       refine Wo rfl (Ka (v:=.int _ _) rfl) <| Wo rfl (Ka (v:=u) rfl) <| Wo rfl (Ka (v:=.int _ _) rfl) ?_
       refine Ji Tryz.underlying23 Tryz.sizeOf88 Tryz.isAgg88 rfl (fun _=>rfl) rfl hR (E6.trans E7) rfl (by first | omega | (simp <;> omega)) ?_;rintro _ u1 hu1;refine Wo rfl (Ko Tryz.underlying88 rfl hu1) ?_
       refine Wo rfl (Ks rfl rfl) <| Kd <| Kg rfl (fun h4=>?_) (fun h4=>?_);(exfalso;omega);refine Jg ?_;refine exitX_same ?_;refine Ke <| Kc rfl ?_
       refine Wo rfl (Ka (v:=.bool _) rfl) <| Wo rfl (Jf rfl) <| Kd <| Jx rfl (fun h5=>?_) (fun h5=>?_);refine Kc rfl <| Wo rfl (Ka (v:=ny) rfl) ?_
       refine Js XInt rfl el88 Tryz.sizeOf3 ?_;rintro b4 w8 hb4 b4lt E8 hO2;have hs4:=E8.size;refine Wo rfl (Ka (v:=u) rfl) <| Wo rfl (Ka (v:=.int _ _) rfl) ?_
       refine Ji Tryz.underlying23 Tryz.sizeOf88 Tryz.isAgg88 rfl (fun _=>rfl) rfl hR ((E6.trans E7).trans E8) rfl (by first | omega | (simp <;> omega)) ?_;rintro _ u2 hu2
       refine Wo_appS rfl el88 rfl rfl (Mono.mono ((E6.trans E7).trans E8) hu2) hO2.toB (by first | omega | (simp <;> omega)) (by omega) (by omega) (((E3.trans E6).trans E7).trans E8) (by omega) ?_;have hT1:=hO2.toB
       rintro v1 w9 hO2 E9 M1;have E10:=M1.ext hT1 ((E6.trans E7).trans E8) (by omega);have szE10:=E10.size;have E11:=M1.ext hT1 (E7.trans E8) (by omega);have szE11:=E11.size;have E12:=M1.ext hT1 E8 (by omega)
       have szE12:=E12.size;have hO1:=(hO1.toB.ext (E7.trans E8)).moves M1 hT1 (by omega);have hs5:=E9.size;refine Wo rfl (Ka (v:=.int _ _) rfl) ?_
       refine Jo (ps:=[(0,.int _ _)]) (cs:=[_]) rfl Tryz.underlying88 Tryz.sizeOf3 Tryz.zeroValue3 rfl rfl rfl rfl ?_;rintro b5 w10 hb5 E13 hB1 hHb5;have hlb5:=hB1.lt;have hs6:=E13.size
       refine Jv rfl el88 rfl rfl hB1 (hO2.toB.ext E13) Owned.int (Nat.le_refl _) (by first | omega | (simp <;> omega)) (by omega) (by omega) (E9.trans E13) (by omega) ?_;have hT2:=(hO2.toB.ext E13);rintro v2 w11 hO2 E14 M2
       have E15:=M2.ext hT2 (E10.trans E13) (by omega);have szE15:=E15.size;have E16:=M2.ext hT2 (E11.trans E13) (by omega);have szE16:=E16.size;have E17:=M2.ext hT2 (E12.trans E13) (by omega);have szE17:=E17.size
       have hO1:=(hO1.ext E13).moves M2 hT2 (by omega);have hB1:=hB1.moves M2 hT2 (by omega);have hs7:=E14.size;refine Jz rfl Tryz.underlying23 Tryz.sizeOf88 Tryz.zeroValue88 rfl (OwnedB.isC hO2.toB) rfl ?_
       rintro b6 w12 hb6 E18 hB2 hHb6;have hlb6:=hB2.lt;have hs8:=E18.size
       refine Jv rfl el23 rfl rfl hB2 (hO1.ext E18) (hO2.toB.ext E18).o (by omega) (by first | omega | (simp <;> omega)) (by omega) (by omega) (E14.trans E18) (by omega) ?_;have hT3:=(hO1.ext E18);rintro v3 w13 hO1 E19 M3
       have E20:=M3.ext hT3 (E15.trans E18) (by omega);have szE20:=E20.size;have hO2:=(hO2.toB.ext E18).moves M3 hT3 (by omega);have hB1:=(hB1.ext E18).moves M3 hT3 (by omega);have hB2:=hB2.moves M3 hT3 (by omega)
       have hs9:=E19.size;refine Wo rfl (Kb (v:=v3) rfl) <| Kd <| Kc rfl <| Wo rfl (Ka (v:=.int _ _) rfl) <| Wo rfl (Kw rfl rfl (by omega)) ?_
       refine Wo rfl (Kb (v:=.int _ _) rfl) <| Kd ?_;rotate_left;contradiction
      refine ⟨((x+1,v3)),by repeat (first | exact trivial | refine And.intro rfl ?_),by repeat (first | with_reducible exact Same.refl | refine Same.upd rfl ?_ | refine Same.upds rfl ?_ | refine Same.mix rfl ?_),?_,?_⟩
      ·refine ⟨by exact E20,by omega,by omega,?_⟩
       rw [oxt_yes hx1 hf.symm,← List.append_assoc,List.map_append]
       have e:[ints (D[i]++[x])]=[[]++(D.map ints)[i]'(by omega)++[(x:Int)]]:=by rw [ints_append,hgi];rfl
       rw [List.map_cons,List.map_nil,e]
       assumption
      ·simp only;omega
     ·focus
       have szE7:=E7.size;have szE6:=E6.size;have szE5:=E5.size;have szE4:=E4.size;have szE3:=E3.size;have szE2:=E2.size;have szE1:=E1.size;refine Ke <| Ke <| Kc rfl ?_
       refine Wo rfl (Ka (v:=.int _ _) rfl) <| Wo rfl (Ka (v:=u) rfl) <| Wo rfl (Ka (v:=.int _ _) rfl) ?_
       refine Ji Tryz.underlying23 Tryz.sizeOf88 Tryz.isAgg88 rfl (fun _=>rfl) rfl hR (E6.trans E7) rfl (by first | omega | (simp <;> omega)) ?_;rintro _ u1 hu1;refine Wo rfl (Ko Tryz.underlying88 rfl hu1) ?_
       refine Wo rfl (Ks rfl rfl) <| Kd <| Kg rfl (fun h4=>?_) (fun h4=>?_);(exfalso;omega);refine Jg ?_;refine exitX_same ?_;refine Ke <| Kc rfl ?_
       refine Wo rfl (Ka (v:=.bool _) rfl) <| Wo rfl (Jf rfl) <| Kd <| Jx rfl (fun h5=>?_) (fun h5=>?_);contradiction;refine Kt ?_;refine Kc rfl ?_
       refine Wo rfl (Ka (v:=.int _ _) rfl) <| Wo rfl (Kw rfl rfl (by omega)) ?_;refine Wo rfl (Kb (v:=.int _ _) rfl) <| Kd ?_
      refine ⟨((x+1,ny)),by repeat (first | exact trivial | refine And.intro rfl ?_),by repeat (first | with_reducible exact Same.refl | refine Same.upd rfl ?_ | refine Same.upds rfl ?_ | refine Same.mix rfl ?_),?_,?_⟩
      ·refine ⟨by exact (E6.trans E7),by omega,by omega,?_⟩
       rw [oxt_no hf.symm]
       exact (Mono.mono E7 hO1)
      ·simp only;omega
   ·obtain rfl:x=n:=by omega
    focus
     have szE6:=E6.size;have szE5:=E5.size;have szE4:=E4.size;have szE3:=E3.size;have szE2:=E2.size;have szE1:=E1.size;refine Ke <| Ke <| Kc rfl ?_
     refine Wo rfl (Ka (v:=.int _ _) rfl) <| Wo rfl (Ka (v:=.int _ _) rfl) <| Wo rfl (Ks rfl rfl) <| Kd <| Kg rfl (fun h3=>?_) (fun h3=>?_);(exfalso;omega)
     refine Jg ?_;refine exitX_same ?_;refine Kc rfl <| Wo rfl (Ka (v:=.int _ _) rfl) <| Wo rfl (Kw rfl rfl (by omega)) ?_;refine Wo rfl (Kb (v:=.int _ _) rfl) <| Kd ?_
    refine ⟨((i+1,ny)),by repeat (first | exact trivial | refine And.intro rfl ?_),by repeat (first | with_reducible exact Same.refl | refine Same.upd rfl ?_ | refine Same.upds rfl ?_ | refine Same.mix rfl ?_),?_,?_⟩
    ·refine ⟨by exact E6,by omega,?_⟩
     rw [take_snoc _ _ hil,List.flatMap_append,List.flatMap_cons,List.flatMap_nil,List.append_nil]
     exact hO1
    ·simp only;omega
  ·obtain rfl:i=D.length:=by omega
   focus
    have szE5:=E5.size;have szE4:=E4.size;have szE3:=E3.size;have szE2:=E2.size;have szE1:=E1.size;refine Ke <| Ke <| Kc rfl <| Wo rfl (Ka (v:=.int _ _) rfl) ?_
    refine Wo rfl (Ka (v:=u) rfl) <| Wo rfl (Ko Tryz.underlying23 rfl hR) <| Wo rfl (Ks rfl rfl) <| Kd <| Kg rfl (fun h2=>?_) (fun h2=>?_);(exfalso;omega)
    refine Jg ?_;refine exitX_same ?_;refine Kc rfl <| Wo rfl (Ka (v:=nx) rfl) <| Wo rfl (Kb (v:=nx) rfl) <| Kd <| Kc rfl ?_
    refine Wo rfl (Ka (v:=.int _ _) rfl) <| Wo rfl (Kw rfl rfl (by omega)) ?_;refine Wo rfl (Kb (v:=.int _ _) rfl) <| Kd ?_
   refine ⟨((k+1,nx)),by repeat (first | exact trivial | refine And.intro rfl ?_),by repeat (first | with_reducible exact Same.refl | refine Same.upd rfl ?_ | refine Same.upds rfl ?_ | refine Same.mix rfl ?_),?_,?_⟩
   ·refine ⟨by exact (E3.trans E5),by omega,by omega,?_⟩
    rw [show k+1 - 1=(k - 1)+1 by omega,ordS_succ,← hD]
    rw [List.take_length] at hO1
    exact hO1.mono (by omega)
   ·simp only;omega
 ·obtain rfl:k=n:=by omega
  focus
   have szE3:=E3.size;have szE2:=E2.size;have szE1:=E1.size;refine Ke <| Ke <| Kc rfl <| Wo rfl (Ka (v:=.int _ _) rfl) <| Wo rfl (Ka (v:=.int _ _) rfl) ?_
   refine Wo rfl (Ks rfl rfl) <| Kd <| Kg rfl (fun h1=>?_) (fun h1=>?_);(exfalso;omega);refine Jg ?_;refine exitX_same ?_;refine Ke <| Kc rfl ?_
   refine Wo rfl (Ka (v:=u) rfl) <| Wo rfl (Kb (v:=u) rfl) <| Kd <| Ja ?_;exact ⟨E3,hO1.toB.o.mono (by omega)⟩
theorem Reordered_ok (w:World) (v u:Value) (c:List (List Int)) (o:List Nat) (h:ESl Ints w v c) (hu:Ints w u (ints o)) (hc:Pic c) (ho:Ord c.length o) :
  Does Tryz.prog 167 [v,u] w (RetO w XR (reo c o)):=by
 have hp5:=hc.2.1
 have hle:=h.le
 obtain ⟨hol,hnd,hhd,hlt⟩:=id ho
 have hil:=ints_len o
 have k1 : ∀ (w:World) (v:Value),ESl Ints w v c→Does Tryz.prog 115 [v] w (Ret w (.bool true)):=fun w v h=>by
  have:=PictureOk_ok w v c h
  rw [decide_eq_true hc] at this;exact this
 have h2:=pow_le5 (k:=c.length) (by omega)
 have h1p : ∀ j,j < c.length→1 <<< j < 2 ^ c.length:=fun j hj=>by rw [Nat.one_shiftLeft];exact Nat.pow_lt_pow_right (by omega) hj
 have h1b : ∀ j k,(1 <<< j).testBit k=decide (j=k):=fun j k=>by rw [Nat.one_shiftLeft,Nat.testBit_two_pow]
 have hsh:((1 <<< c.length:Nat):Int)=((2 ^ c.length:Nat):Int):=by rw [Nat.one_shiftLeft]
 have hgo : ∀ (k:Nat) (hk:k < o.length),(ints o)[k]'(by omega)=(o[k]:Int):=fun k hk=>ints_get hk
 refine Jc Tryz.func167 rfl Tryz.results167 Tryz.ntmps167 rfl ?_
 focus
  refine Ke <| Kc rfl <| Wo rfl (Kb (v:=.slice _ _ _) rfl) <| Kd <| Ke <| Kc rfl <| Js (XSl 3 XInt) rfl el23 Tryz.sizeOf88 ?_
  rintro b1 w1 hb1 b1lt E1 hO1;have hs1:=E1.size;refine Wo rfl (Kb (v:=.slice _ _ _) rfl) <| Kd <| Ke <| Ke <| Kc rfl <| Wo rfl (Ka (v:=v) rfl) ?_
  refine Kj rfl (Jk (a:=v) Tryz.call115 rfl) (k1 _ _ ((Mono.mono E1 h))) ?_;rintro _ w2 ⟨rfl,E2⟩;have hs2:=E2.size;refine Wo rfl (Jf rfl) ?_
  refine Jy rfl (Ka (v:=.bool _) rfl) (fun h1=>?_) (fun h1=>?_);contradiction;refine Wo rfl (Ka (v:=u) rfl) <| Wo rfl (Ko Tryz.underlying88 rfl hu) <| Wo rfl (Ka (v:=v) rfl) ?_
  refine Wo rfl (Ko Tryz.underlying23 rfl h) <| Wo rfl (Gb rfl rfl) <| Wo rfl (Kn (v:=.bool _) rfl rfl) <| Kd <| Jj rfl (fun h3=>?_) (fun h3=>?_);(exfalso;omega)
  refine Kt ?_;refine Ke <| Kc rfl <| Wo rfl (Kb (v:=.int _ _) rfl) <| Kd <| Ke <| Ke <| Kc rfl ?_
  refine Wo rfl (Kb (v:=.int _ _) rfl) <| Kd <| Kr ?_
 refine Jh [4,6,7,23,24,25,26,27,28,29,30,31,32,33,34,35,36,37,38,39,40,41,42,43,44,45] (fun ((k,M):Nat × Nat)=>[(7,.int .i64 (k:Nat)),(6,.int .i64 (M:Nat))]) (fun (k,M) w'=>Ext w2 w'∧k≤c.length∧M < 2 ^ c.length∧∀ j,M.testBit j=(o.take k).contains j) (fun x=>c.length - x.1) (0,0) (by repeat (first | exact trivial | refine And.intro rfl ?_)) ?_ ?_
 ·exact ⟨Ext.refl _,Nat.zero_le _,Nat.two_pow_pos _,fun j=>by simp⟩
 rintro ⟨k,M⟩ ρj w3 ⟨E3,hk,hM,hB⟩
 by_cases hkl:k < c.length
 ·have hok:=hlt o[k] (List.getElem_mem (by omega))
  have hgk:=hgo k (by omega)
  have hsl:=shl_le (g:=1) (k:=o[k]) (by omega) (by omega)
  have hts:=take_snoc o k (by omega)
  have hsl2:(1:Int).toNat <<< ((ints o)[k]'(by omega)).toNat≤4096:=by simp only [hgk,Int.toNat_natCast];exact Nat.le_trans hsl (by omega)
  focus
   have szE3:=E3.size;have szE2:=E2.size;have szE1:=E1.size;refine Ke <| Ke <| Kc rfl <| Wo rfl (Ka (v:=.int _ _) rfl) <| Wo rfl (Ka (v:=u) rfl) ?_
   refine Wo rfl (Ko Tryz.underlying88 rfl hu) <| Wo rfl (Ks rfl rfl) <| Kd <| Kg rfl (fun h4=>?_) (fun h4=>?_);refine Kt ?_;refine Ke <| Kr <| Ke ?_
   refine Ke <| Kc rfl <| Wo rfl (Ka (v:=u) rfl) <| Wo rfl (Ka (v:=.int _ _) rfl) ?_
   refine Ji Tryz.underlying88 Tryz.sizeOf3 Tryz.isAgg3 rfl (fun _=>rfl) rfl hu ((E1.trans E2).trans E3) rfl (by first | omega | (simp <;> omega)) ?_;rintro _ _ rfl;refine Wo rfl (Ka (v:=v) rfl) ?_
   refine Wo rfl (Ko Tryz.underlying23 rfl h) <| Wo rfl (opv_sub rfl rfl (by omega)) ?_;refine Kj rfl (opc3 (a:=.int _ _) (b:=.int _ _) (c:=.int _ _) Tryz.call116 rfl rfl rfl) (l1In_ok _ _ _ _) ?_
   rintro _ w4 ⟨rfl,E4⟩;have hs3:=E4.size;refine Wo rfl (Jf rfl) <| Kd <| Jj rfl (fun h5=>?_) (fun h5=>?_);(exfalso;omega);refine Kt ?_;refine Kc rfl ?_
   refine Wo rfl (Ka (v:=.int _ _) rfl) <| Wo rfl (Ka (v:=u) rfl) <| Wo rfl (Ka (v:=.int _ _) rfl) ?_
   refine Ji Tryz.underlying88 Tryz.sizeOf3 Tryz.isAgg3 rfl (fun _=>rfl) rfl hu (((E1.trans E2).trans E3).trans E4) rfl (by first | omega | (simp <;> omega)) ?_;rintro _ _ rfl;refine Wo rfl (opv_shl rfl rfl (by omega)) ?_
   refine Wo rfl (opv_or rfl rfl ⟨Int.natCast_nonneg _,by omega,Int.natCast_nonneg _,Int.le_trans (Int.ofNat_le.2 (show _≤4096 by assumption)) (by decide)⟩) ?_;refine Wo rfl (Kb (v:=.int _ _) rfl) <| Kd ?_
   refine Kc rfl <| Wo rfl (Ka (v:=.int _ _) rfl) <| Wo rfl (Kw rfl rfl (by omega)) ?_;refine Wo rfl (Kb (v:=.int _ _) rfl) <| Kd ?_;rotate_left;(exfalso;omega)
  refine ⟨((k+1,(M:Int).toNat ||| (((1:Int).toNat <<< ((ints o)[k]'(by omega)).toNat:Nat):Int).toNat)),by repeat (first | exact trivial | refine And.intro rfl ?_),by repeat (first | with_reducible exact Same.refl | refine Same.upd rfl ?_ | refine Same.upds rfl ?_ | refine Same.mix rfl ?_),?_,?_⟩
  ·have e:(M:Int).toNat ||| (((1:Int).toNat <<< ((ints o)[k]'(by omega)).toNat:Nat):Int).toNat=M ||| 1 <<< o[k]:=by simp only [hgk,Int.toNat_natCast];rfl
   rw [e]
   refine ⟨by exact (E3.trans E4),by omega,Nat.or_lt_two_pow hM (h1p _ hok),fun j=>?_⟩
   rw [Nat.testBit_or,hB,h1b,hts,Bool.eq_iff_iff]
   simp only [List.contains_eq_mem,List.mem_append,List.mem_singleton,decide_eq_true_eq,Bool.or_eq_true]
   exact or_congr Iff.rfl ⟨fun h=>h.symm,fun h=>h.symm⟩
  ·simp only;omega
 ·obtain rfl:k=c.length:=by omega
  have hMe:M=2 ^ c.length - 1:=by
   apply Nat.eq_of_testBit_eq
   intro j
   rw [hB,Nat.testBit_two_pow_sub_one,List.take_of_length_le (by omega),List.contains_eq_mem,decide_eq_decide,ho.perm.mem_iff,List.mem_range]
  have hs1:(((1:Int).toNat <<< ((c.length:Nat):Int).toNat:Nat):Int)=((2 ^ c.length:Nat):Int):=by rw [Int.toNat_natCast,show (1:Int).toNat=1 from rfl,Nat.one_shiftLeft]
  have hs2:=Nat.one_le_two_pow (n:=c.length)
  have hrl:=reo_len (c:=c) (o:=o)
  focus
   have szE3:=E3.size;have szE2:=E2.size;have szE1:=E1.size;refine Ke <| Ke <| Kc rfl <| Wo rfl (Ka (v:=.int _ _) rfl) <| Wo rfl (Ka (v:=u) rfl) ?_
   refine Wo rfl (Ko Tryz.underlying88 rfl hu) <| Wo rfl (Ks rfl rfl) <| Kd <| Kg rfl (fun h4=>?_) (fun h4=>?_);(exfalso;omega);refine Jg ?_;refine exitX_same ?_
   refine Ke <| Ke <| Kc rfl <| Wo rfl (Ka (v:=.int _ _) rfl) <| Wo rfl (Ka (v:=v) rfl) <| Wo rfl (Ko Tryz.underlying23 rfl h) ?_
   refine Wo rfl (opv_shl rfl rfl (by omega)) ?_;refine Wo rfl (opv_sub rfl rfl (by omega)) ?_;refine Wo rfl (Gb rfl rfl) <| Kd <| Jj rfl (fun h5=>?_) (fun h5=>?_);(exfalso;omega)
   refine Kt ?_;refine Ke <| Ke <| Kc rfl <| Wo rfl (Kb (v:=.int _ _) rfl) <| Kd <| Kr ?_
  refine Jh [5,8,9,10,53,54,55,56,57,58,59,60,61,62,63,64,65,66,67,68,69,70,71,72,73,74,75,76,77,78,79,80,81,82,83,84,85] (fun ((k,x):Nat × Value)=>[(8,.int .i64 (k:Nat)),(5,x)]) (fun (k,x) w'=>Ext w w'∧k≤c.length∧Owned w.heap.size XR w' x ((reo c o).take k)) (fun x=>c.length - x.1) (0,.slice (some ⟨b1,0,none⟩) 0 0) (by repeat (first | exact trivial | refine And.intro rfl ?_)) ?_ ?_
  ·exact ⟨by exact ((E1.trans E2).trans E3),Nat.zero_le _,by rw [List.take_zero];exact (Mono.mono (E2.trans E3) hO1)⟩
  clear hO1
  rintro ⟨k,x⟩ ρk w4 ⟨E4,hk,hO1⟩
  by_cases hkl:k < c.length
  ·have hok:=hlt o[k] (List.getElem_mem (by omega))
   have hgk:=hgo k (by omega)
   have hrow:=hc.row (i:=o[k]) (by omega)
   have hck:(c[((ints o)[k]'(by omega)).toNat]'(by simp only [hgk,Int.toNat_natCast];omega)).length=c.length:=by simp only [hgk,Int.toNat_natCast];exact hrow
   have htl:((reo c o).take k).length=k:=by simp;omega
   focus
    have szE4:=E4.size;have szE3:=E3.size;have szE2:=E2.size;have szE1:=E1.size;refine Ke <| Ke <| Kc rfl <| Wo rfl (Ka (v:=.int _ _) rfl) ?_
    refine Wo rfl (Ka (v:=u) rfl) <| Wo rfl (Ko Tryz.underlying88 rfl hu) <| Wo rfl (Ks rfl rfl) <| Kd <| Kg rfl (fun h6=>?_) (fun h6=>?_);refine Kt ?_
    refine Ke <| Kr <| Ke <| Kc rfl <| Js XInt rfl el88 Tryz.sizeOf3 ?_;rintro b2 w5 hb2 b2lt E5 hO2;have hs3:=E5.size;refine Wo rfl (Kb (v:=.slice _ _ _) rfl) ?_
    refine Kd <| Ke <| Ke <| Kc rfl <| Wo rfl (Kb (v:=.int _ _) rfl) <| Kd <| Kr ?_;rotate_left;(exfalso;omega)
   refine Jh [9,10,60,61,62,63,64,65,66,67,68,69,70,71,72,73,74,75,76,77,78,79,80,81] (fun ((j,r):Nat × Value)=>[(10,.int .i64 (j:Nat)),(9,r)]) (fun (j,r) w'=>Ext w w'∧w4.heap.size≤w'.heap.size∧j≤c.length∧OwnedB w.heap.size w4.heap.size XR w' x ((reo c o).take k)∧Owned w4.heap.size XI w' r ((o.map fun m=>bit c o[k] m).take j)) (fun x=>c.length - x.1) (0,.slice (some ⟨b2,0,none⟩) 0 0) (by repeat (first | exact trivial | refine And.intro rfl ?_)) ?_ ?_
   ·exact ⟨by exact (E4.trans E5),by omega,Nat.zero_le _,hO1.toB.ext (by exact E5),by simpa using hO2⟩
   clear hO1 hO2
   rintro ⟨j,r⟩ ρl w6 ⟨E6,hs6,hj,hO1,hO2⟩
   have hml:(o.map fun m=>bit c o[k] m).length=c.length:=by simp;omega
   have htl2:((o.map fun m=>bit c o[k] m).take j).length=j:=by simp;omega
   by_cases hjl:j < c.length
   ·have hoj:=hlt o[j] (List.getElem_mem (by omega))
    have hgj:=hgo j (by omega)
    have hel:(c[((ints o)[k]'(by omega)).toNat]'(by simp only [hgk,Int.toNat_natCast];omega))[((ints o)[j]'(by omega)).toNat]'(by rw [hck];simp only [hgj,Int.toNat_natCast];omega)=bit c o[k] o[j]:=by
     simp only [hgk,hgj,Int.toNat_natCast]
     unfold bit
     rw [getD_lt hok,getD_lt (show o[j] < c[o[k]].length by rw [hrow];exact hoj)]
    have heldS:w=w:=rfl
    focus
     have szE6:=E6.size;have szE5:=E5.size;have szE4:=E4.size;have szE3:=E3.size;have szE2:=E2.size;have szE1:=E1.size;refine Ke <| Ke <| Kc rfl ?_
     refine Wo rfl (Ka (v:=.int _ _) rfl) <| Wo rfl (Ka (v:=u) rfl) <| Wo rfl (Ko Tryz.underlying88 rfl hu) <| Wo rfl (Ks rfl rfl) <| Kd ?_
     refine Kg rfl (fun h7=>?_) (fun h7=>?_);refine Kt ?_;refine Ke <| Kr <| W_held (fun w'=>Ext w w') mixed rfl (by kernel_rfl) ?_;intro w7 E7 K1 hz1;have hs4:=E7.size
     refine Kp 0 rfl (by kernel_rfl) (by kernel_rfl) rfl (fun _ _=>Ka (v:=r) rfl) (E6.trans E7) ?_;refine Kp 1 rfl (by kernel_rfl) (by kernel_rfl) rfl (fun _ _=>Ka (v:=v) rfl) (E6.trans E7) ?_
     refine Kp 2 rfl (by kernel_rfl) (by kernel_rfl) rfl (fun _ _=>Ka (v:=u) rfl) (E6.trans E7) ?_;refine Kp 3 rfl (by kernel_rfl) (by kernel_rfl) rfl (fun _ _=>Ka (v:=.int _ _) rfl) (E6.trans E7) ?_
     refine Wh_get 4 5 rfl (by kernel_rfl) (by kernel_rfl) rfl rfl (by kernel_rfl) (by kernel_rfl) (fun _=>rfl) Tryz.underlying88 Tryz.sizeOf3 Tryz.isAgg3 rfl hu (fun w' hw'=>Ext.trans (Ext.refl _) hw') rfl (by first | omega | (simp <;> omega)) (E6.trans E7) ?_
     rintro _ _ rfl
     refine Wh_get_z 6 7 rfl (by kernel_rfl) (by kernel_rfl) rfl rfl (by kernel_rfl) (by kernel_rfl) (fun _=>rfl) Tryz.underlying23 Tryz.sizeOf88 Tryz.isAgg88 rfl h (fun w' hw'=>Ext.trans (Ext.refl _) hw') rfl (by first | omega | (simp <;> omega)) (E6.trans E7) ?_
     rintro _ u1 hu1;refine Kp 8 rfl (by kernel_rfl) (by kernel_rfl) rfl (fun _ _=>Ka (v:=u) rfl) (E6.trans E7) ?_
     refine Kp 9 rfl (by kernel_rfl) (by kernel_rfl) rfl (fun _ _=>Ka (v:=.int _ _) rfl) (E6.trans E7) ?_
     refine Wh_get 10 11 rfl (by kernel_rfl) (by kernel_rfl) rfl rfl (by kernel_rfl) (by kernel_rfl) (fun _=>rfl) Tryz.underlying88 Tryz.sizeOf3 Tryz.isAgg3 rfl hu (fun w' hw'=>Ext.trans (Ext.refl _) hw') rfl (by first | omega | (simp <;> omega)) (E6.trans E7) ?_
     rintro _ _ rfl
     refine Wh_get_z 12 13 rfl (by kernel_rfl) (by kernel_rfl) rfl rfl (by kernel_rfl) (by kernel_rfl) (fun _=>rfl) Tryz.underlying88 Tryz.sizeOf3 Tryz.isAgg3 rfl hu1 (fun w' hw'=>Ext.trans (Ext.refl _) hw') rfl (by first | omega | (simp <;> omega)) (E6.trans E7) ?_
     rintro _ _ rfl;refine Ku (rs:=[14]) (by kernel_rfl) rfl ?_;refine Kh rfl ?_ ?_;refine Jo (ps:=[(0,.int _ _)]) (cs:=[_]) rfl Tryz.underlying88 Tryz.sizeOf3 Tryz.zeroValue3 rfl rfl rfl rfl ?_
     rintro b3 w8 hb3 E8 hB1 hHb3;have hlb3:=hB1.lt;have hs5:=E8.size;refine Kd ?_;refine ⟨((E6.trans E7).trans E8),?_⟩;refine Ku (rs:=[15]) (by kernel_rfl) rfl ?_;refine Kh rfl ?_ ?_
     refine Jv rfl el88 rfl rfl hB1 (hO2.toB.ext (E7.trans E8)) Owned.int (Nat.le_refl _) (by first | omega | (simp <;> omega)) (by omega) (by omega) ((E6.trans E7).trans E8) (by omega) ?_;have hT1:=(hO2.toB.ext (E7.trans E8))
     rintro v1 w9 hO2 E9 M1;have hO1:=(hO1.ext (E7.trans E8)).moves M1 hT1 (by omega);have hB1:=hB1.moves M1 hT1 (by omega);have hs7:=E9.size;refine Kd ?_;refine ⟨E9,?_⟩
     refine Kp 16 rfl (by kernel_rfl) (by kernel_rfl) rfl (fun _ _=>Kb (v:=v1) rfl) E9 ?_;refine Jm (by kernel_rfl) ?_;refine Kc rfl <| Wo rfl (Ka (v:=.int _ _) rfl) ?_
     refine Wo rfl (Kw rfl rfl (by omega)) ?_;refine Wo rfl (Kb (v:=.int _ _) rfl) <| Kd ?_;rotate_left;exact Kl;exact Kl;(exfalso;omega)
    refine ⟨((j+1,v1)),by repeat (first | exact trivial | refine And.intro rfl ?_),by repeat (first | with_reducible exact Same.refl | refine Same.upd rfl ?_ | refine Same.upds rfl ?_ | refine Same.mix rfl ?_),?_,?_⟩
    ·refine ⟨by exact E9,by have:=M1.1.size;omega,by omega,by exact hO1,?_⟩
     rw [take_snoc _ _ (by omega)]
     have e:(o.map fun m=>bit c o[k] m)[j]'(by omega)=bit c o[k] o[j]:=by simp
     rw [e,← hel]
     assumption
    ·simp only;omega
   ·obtain rfl:j=c.length:=by omega
    obtain ⟨rb,rc,rfl,_⟩:=hO2.lit (by omega)
    have hrb:=hO2.lt_own (k:=rb) rfl
    focus
     have szE6:=E6.size;have szE5:=E5.size;have szE4:=E4.size;have szE3:=E3.size;have szE2:=E2.size;have szE1:=E1.size;refine Ke <| Ke <| Kc rfl ?_
     refine Wo rfl (Ka (v:=.int _ _) rfl) <| Wo rfl (Ka (v:=u) rfl) <| Wo rfl (Ko Tryz.underlying88 rfl hu) <| Wo rfl (Ks rfl rfl) <| Kd ?_
     refine Kg rfl (fun h7=>?_) (fun h7=>?_);contradiction;refine Jg ?_;refine exitX_same ?_;refine Kc rfl <| Wo rfl (Ka (v:=x) rfl) <| Wo rfl (Ka (v:=.slice _ _ _) rfl) ?_
     refine Ju (ps:=[(0,.slice _ _ _)]) (cs:=[_]) rfl Tryz.underlying23 Tryz.sizeOf88 Tryz.zeroValue88 rfl rfl rfl rfl ?_;rintro b3 w7 hb3 E7 hB1;have hlb3:=hB1.lt;have hs4:=E7.size
     refine Jv rfl el23 rfl rfl hB1 (hO1.ext E7) (hO2.toB.ext E7).o (by omega) (by first | omega | (simp <;> omega)) (by omega) (by omega) (E6.trans E7) (by omega) ?_;have hT1:=(hO1.ext E7);rintro v1 w8 hO1 E8 M1
     have hO2:=(hO2.toB.ext E7).moves M1 hT1 (by omega);have hB1:=hB1.moves M1 hT1 (by omega);have hs5:=E8.size;refine Wo rfl (Kb (v:=v1) rfl) <| Kd <| Kc rfl ?_
     refine Wo rfl (Ka (v:=.int _ _) rfl) <| Wo rfl (Kw rfl rfl (by omega)) ?_;refine Wo rfl (Kb (v:=.int _ _) rfl) <| Kd ?_
    refine ⟨((k+1,v1)),by repeat (first | exact trivial | refine And.intro rfl ?_),by repeat (first | with_reducible exact Same.refl | refine Same.upd rfl ?_ | refine Same.upds rfl ?_ | refine Same.mix rfl ?_),?_,?_⟩
    ·refine ⟨by exact E8,by omega,?_⟩
     rw [take_snoc _ _ (by omega)]
     have e:(reo c o)[k]'(by omega)=(o.map fun m=>bit c o[k] m).take c.length:=by rw [List.take_of_length_le (by omega)];simp [reo]
     rw [e]
     assumption
    ·simp only;omega
  ·obtain rfl:k=c.length:=by omega
   focus
    have szE4:=E4.size;have szE3:=E3.size;have szE2:=E2.size;have szE1:=E1.size;refine Ke <| Ke <| Kc rfl <| Wo rfl (Ka (v:=.int _ _) rfl) ?_
    refine Wo rfl (Ka (v:=u) rfl) <| Wo rfl (Ko Tryz.underlying88 rfl hu) <| Wo rfl (Ks rfl rfl) <| Kd <| Kg rfl (fun h6=>?_) (fun h6=>?_);contradiction
    refine Jg ?_;refine exitX_same ?_;refine Ke <| Kc rfl <| Wo rfl (Ka (v:=x) rfl) <| Wo rfl (Kb (v:=x) rfl) <| Kd <| Ja ?_
    refine ⟨E4,(congrArg (Owned _ _ _ _) ?_).mp (hO1.toB.o.mono (by omega))⟩
   rw [List.take_of_length_le (by omega)]
theorem LeastOf_ok (w:World) (v:Value) (p:List (List Int)) (h:ESl Ints w v p) (z:Int):Does Tryz.prog 126 [v,.int .i64 z] w (RetO w XR (if Nod p z then lst p z.toNat else [])):=by
 have hle:=h.le
 have k1 : ∀ (w:World) (v:Value),ESl Ints w v p→Does Tryz.prog 165 [v,.int .i64 z] w (RetDX w XR (fun c=>(Nod p z→Cand p z.toNat c)∧(¬Nod p z→c=[]))):=fun w v h=>JoinedOf_ok w v p h z
 refine Jc Tryz.func126 rfl Tryz.results126 Tryz.ntmps126 rfl ?_
 have stop2:True:=trivial
 focus
  refine Ke <| Kc rfl <| Wo rfl (Kb (v:=.slice _ _ _) rfl) <| Kd <| Ke <| Kc rfl <| Wo rfl (Ka (v:=v) rfl) ?_
  refine Wo rfl (Ka (v:=.int _ _) rfl) <| Kj rfl (Jn (a:=v) (b:=.int _ _) Tryz.call165 rfl rfl) (k1 _ _ (h)) ?_;rintro u1 w1 ⟨x1,E1,hO1,hy1⟩;have hs1:=E1.size
  refine Wo rfl (Kb (v:=u1) rfl) <| Kd <| Ke <| Ke ?_
 clear stop2
 by_cases hz:Nod p z
 ·rw [if_pos hz]
  have hC:=hy1.1 hz
  obtain ⟨hp,hz0,hz1⟩:=id hz
  have hi:z.toNat < p.length:=by omega
  have hcg:=hC.gr hp.gr hi
  have hcl:x1.length≤p.length:=by
   obtain ⟨L,hL,rfl⟩:=hC
   rw [qp_len];exact (hL.len hp.gr hi).2
  have hp5:=hp.2.1
  have hcp:=hC.pic hp.gr hi (by omega)
  have hc1:=hcp.1
  have k2 : ∀ (w:World),Does Tryz.prog 166 [.int .i64 (x1.length:Int)] w (RetO w XR ((orders x1.length).map ints)):=fun w=>l4Orders_ok w _ ⟨by omega,by omega⟩
  focus
   have szE1:=E1.size;refine Kc rfl <| Wo rfl (Ka (v:=u1) rfl) <| Wo rfl (Ko Tryz.underlying23 rfl (Owned.read hO1)) <| Wo rfl (Kx rfl rfl) <| Kd ?_
   refine Kg rfl (fun h1=>?_) (fun h1=>?_);(exfalso;omega);refine Kt ?_;refine Ke <| Kc rfl <| Wo rfl (Ka (v:=u1) rfl) <| Wo rfl (Kb (v:=u1) rfl) ?_
   refine Kd <| Ke <| Kc rfl <| Wo rfl (Ka (v:=u1) rfl) <| Wo rfl (Ko Tryz.underlying23 rfl (Owned.read hO1)) ?_
   refine Kj rfl (Jk (a:=.int _ _) Tryz.call166 rfl) (k2 _) ?_;rintro u2 w2 ⟨E2,hO2⟩;have hs2:=E2.size;refine Wo rfl (Kb (v:=u2) rfl) <| Kd <| Ke <| Ke ?_
   refine Kc rfl <| Wo rfl (Kb (v:=.int _ _) rfl) <| Kd <| Kr ?_
  have hlo:(orders x1.length).length≤3125:=ordS_len5 (by omega) (by omega)
  have hlm:((orders x1.length).map ints).length=(orders x1.length).length:=by simp
  have r2:=hO2.read
  have hO1':=hO1.ext (by assumption:Ext w1 w2)
  refine Jh [6,8,9,21,22,23,24,25,26,27,28,29,30,31,32,33,34,35,36,37,38] (fun ((k,u,bs):Nat × Value × List (List Int))=>[(8,.int .i64 (k:Nat)),(6,u)]) (fun (k,u,bs) w'=>Ext w2 w'∧k≤(orders x1.length).length∧Owned w.heap.size XR w' u bs∧Cand p z.toNat bs∧bs=((orders x1.length).take k).foldl (fun best o=>lstep x1 best (reo x1 o)) x1) (fun x=>(orders x1.length).length - x.1) (0,u1,x1) (by repeat (first | exact trivial | refine And.intro rfl ?_)) ?_ ?_
  ·exact ⟨Ext.refl _,Nat.zero_le _,hO1',hC,rfl⟩
  rintro ⟨k,u,bs⟩ ρj w3 ⟨E3,hk,hOb,hCb,hbs⟩
  by_cases hlt:k < (orders x1.length).length
  ·have hgo:=iis_get (D:=orders x1.length) (i:=k) (by omega)
   have hOrd:=(mem_orders (by omega)).1 (List.getElem_mem hlt)
   have hcb:=hCb.pic hp.gr hi (by have:=hCb.len hC;omega)
   have hcr:=reo_cand hC hOrd
   have hcrp:=hcr.pic hp.gr hi (by have:=hcr.len hC;omega)
   have k3 : ∀ (w:World) (v u:Value),ESl Ints w v x1→Ints w u ((orders x1.length).map ints)[k]→Does Tryz.prog 167 [v,u] w (RetO w XR (reo x1 (orders x1.length)[k])):=fun w v u h h'=>Reordered_ok w v u x1 _ h (hgo ▸ h') hcp hOrd
   have k4 : ∀ (w:World) (v:Value),ESl Ints w v bs→Does Tryz.prog 62 [v] w (Ret w (str (txt bs))):=fun w v h=>by
    have:=PictureText_ok w v bs h
    rw [if_pos hcb] at this;exact this
   have k5 : ∀ (w:World) (v:Value),ESl Ints w v (reo x1 (orders x1.length)[k])→Does Tryz.prog 62 [v] w (Ret w (str (txt (reo x1 (orders x1.length)[k])))):=fun w v h=>by
    have:=PictureText_ok w v _ h
    rw [if_pos hcrp] at this;exact this
   have hstep:((orders x1.length).take (k+1)).foldl (fun best o=>lstep x1 best (reo x1 o)) x1=lstep x1 bs (reo x1 (orders x1.length)[k]):=by rw [take_snoc _ _ hlt,List.foldl_append,← hbs];rfl
   focus
    have szE3:=E3.size;have szE2:=E2.size;have szE1:=E1.size;refine Ke <| Ke <| Kc rfl <| Wo rfl (Ka (v:=.int _ _) rfl) <| Wo rfl (Ka (v:=u2) rfl) ?_
    refine Wo rfl (Ko Tryz.underlying23 rfl r2) <| Wo rfl (Ks rfl rfl) <| Kd <| Kg rfl (fun h2=>?_) (fun h2=>?_);refine Kt ?_;refine Ke <| Kr <| Ke ?_
    refine Kc rfl <| Wo rfl (Ka (v:=u1) rfl) <| Wo rfl (Ka (v:=u2) rfl) <| Wo rfl (Ka (v:=.int _ _) rfl) ?_
    refine Ji Tryz.underlying23 Tryz.sizeOf88 Tryz.isAgg88 rfl (fun _=>rfl) rfl r2 E3 rfl (by first | omega | (simp <;> omega)) ?_;rintro _ u3 hu1
    refine Kj rfl (Jn (a:=u1) (b:=u3) Tryz.call167 rfl rfl) (k3 _ _ _ ((Mono.mono E3 (Owned.read hO1'))) ((Mono.mono E3 hu1))) ?_;rintro u4 w4 ⟨E4,hO3⟩;have hs3:=E4.size;refine Wo rfl (Kb (v:=u4) rfl) ?_
    refine Kd <| Ke <| Kc rfl <| Wo rfl (Ka (v:=u4) rfl) <| Kj rfl (Jk (a:=u4) Tryz.call62 rfl) (k5 _ _ ((Owned.read hO3))) ?_;rintro _ w5 ⟨rfl,E5⟩;have hs4:=E5.size
    refine Wo rfl (Ka (v:=u) rfl) <| Kj rfl (Jk (a:=u) Tryz.call62 rfl) (k4 _ _ ((Mono.mono (E4.trans E5) (Owned.read hOb)))) ?_;rintro _ w6 ⟨rfl,E6⟩;have hs5:=E6.size
    refine Wo rfl (opv_lss_str rfl rfl) <| Kd <| Jx rfl (fun h3=>?_) (fun h3=>?_);refine Kc rfl <| Wo rfl (Ka (v:=u4) rfl) <| Wo rfl (Kb (v:=u4) rfl) ?_
    refine Kd <| Kc rfl <| Wo rfl (Ka (v:=.int _ _) rfl) <| Wo rfl (Kw rfl rfl (by omega)) ?_;refine Wo rfl (Kb (v:=.int _ _) rfl) <| Kd ?_;rotate_left
    refine Kt ?_;refine Kc rfl <| Wo rfl (Ka (v:=.int _ _) rfl) <| Wo rfl (Kw rfl rfl (by omega)) ?_;refine Wo rfl (Kb (v:=.int _ _) rfl) <| Kd ?_;rotate_left
    (exfalso;omega)
   ·refine ⟨((k+1,u4,reo x1 (orders x1.length)[k])),by repeat (first | exact trivial | refine And.intro rfl ?_),by repeat (first | with_reducible exact Same.refl | refine Same.upd rfl ?_ | refine Same.upds rfl ?_ | refine Same.mix rfl ?_),?_,?_⟩
    ·refine ⟨by exact (((E3.trans E4).trans E5).trans E6),by omega,(hO3.ext (by exact (E5.trans E6):Ext w4 w6)).mono (by omega),hcr,?_⟩
     rw [hstep]
     exact (if_pos (by assumption)).symm
    ·simp only;omega
   ·refine ⟨((k+1,u,bs)),by repeat (first | exact trivial | refine And.intro rfl ?_),by repeat (first | with_reducible exact Same.refl | refine Same.upd rfl ?_ | refine Same.upds rfl ?_ | refine Same.mix rfl ?_),?_,?_⟩
    ·refine ⟨by exact (((E3.trans E4).trans E5).trans E6),by omega,by exact (Mono.mono ((E4.trans E5).trans E6) hOb),hCb,?_⟩
     rw [hstep]
     exact (if_neg (by simp only [Bool.not_eq_true];assumption)).symm
    ·simp only;omega
  ·obtain rfl:k=(orders x1.length).length:=by omega
   focus
    have szE3:=E3.size;have szE2:=E2.size;have szE1:=E1.size;refine Ke <| Ke <| Kc rfl <| Wo rfl (Ka (v:=.int _ _) rfl) <| Wo rfl (Ka (v:=u2) rfl) ?_
    refine Wo rfl (Ko Tryz.underlying23 rfl r2) <| Wo rfl (Ks rfl rfl) <| Kd <| Kg rfl (fun h2=>?_) (fun h2=>?_);(exfalso;omega);refine Jg ?_;refine exitX_same ?_
    refine Ke <| Kc rfl <| Wo rfl (Ka (v:=u) rfl) <| Wo rfl (Kb (v:=u) rfl) <| Kd <| Ja ?_
    refine ⟨((E1.trans E2).trans E3),(congrArg (Owned _ _ _ _) ?_).mp (hOb.toB.o.mono (by omega))⟩
   rw [hbs,List.take_length]
   exact lst_fold_eq hp.gr hi hC
 ·rw [if_neg hz]
  obtain rfl:=hy1.2 hz
  have hnil:(([]:List (List Int)).length:Int)=0:=rfl
  focus
   have szE1:=E1.size;refine Kc rfl <| Wo rfl (Ka (v:=u1) rfl) <| Wo rfl (Ko Tryz.underlying23 rfl (Owned.read hO1)) <| Wo rfl (Kx rfl rfl) <| Kd ?_
   refine Kg rfl (fun h1=>?_) (fun h1=>?_);refine Ke <| Kc rfl <| Wo rfl (Ka (v:=u1) rfl) <| Wo rfl (Kb (v:=u1) rfl) <| Kd <| Ja ?_
   exact ⟨E1,hO1.toB.o.mono (by omega)⟩;contradiction
theorem flat26:Flat Tryz.prog 26 [.slice none 0 0,.slice none 0 0]:=⟨_,Tryz.underlying26,fun _=>by kernel_rfl,fun _=>by kernel_rfl⟩
theorem copyRowsI_ok (w:World) (v:Value) (p:List (List Int)) (h:ESl Ints w v p) (hp:p.length≤100) (hr : ∀ r ∈ p,r.length≤100):Does Tryz.prog 128 [v] w (RetO w XR p):=by
 have hle:=h.le
 refine Jc Tryz.func128 rfl Tryz.results128 Tryz.ntmps128 rfl ?_
 focus
  refine Ke <| Kc rfl <| Wo rfl (Kb (v:=.slice _ _ _) rfl) <| Kd <| Ke <| Kc rfl <| Js (XSl 3 XInt) rfl el23 Tryz.sizeOf88 ?_
  rintro b1 w1 hb1 b1lt E1 hO1;have hs1:=E1.size;refine Wo rfl (Kb (v:=.slice _ _ _) rfl) <| Kd <| Ke <| Ke <| Kc rfl <| Wo rfl (Ka (v:=v) rfl) ?_
  refine Wo rfl (Ko Tryz.underlying23 rfl h) <| Wo rfl (Ka (v:=.int _ _) rfl) <| Kd <| Kr ?_
 refine Jh [3,5,9,10,11,12,13,14,15,16,17,18,19] (fun ((k,u):Nat × Value)=>[(9,.int .i64 (k:Nat)),(3,u)]) (fun (k,u) w'=>Ext w w'∧k≤p.length∧Owned w.heap.size XR w' u (p.take k)) (fun x=>p.length - x.1) (0,.slice (some ⟨b1,0,none⟩) 0 0) (by repeat (first | exact trivial | refine And.intro rfl ?_)) ?_ ?_
 ·exact ⟨by exact E1,Nat.zero_le _,by simpa using hO1⟩
 clear hO1
 rintro ⟨k,u⟩ ρj w2 ⟨E2,hk,hO1⟩
 have hlt':(p.take k).length=k:=by simp;omega
 by_cases hlt:k < p.length
 ·have hrl:=hr _ (List.getElem_mem hlt)
  have litown:True:=trivial
  focus
   have szE2:=E2.size;have szE1:=E1.size;refine Ke <| Kc rfl <| Wo rfl (Ks rfl rfl) <| Kd <| Ke <| Kg rfl (fun h1=>?_) (fun h1=>?_);refine Kt ?_
   refine Ke <| Kr <| Ke <| Kc rfl <| Ji Tryz.underlying23 Tryz.sizeOf88 Tryz.isAgg88 rfl (fun _=>rfl) rfl h E2 rfl (by first | omega | (simp <;> omega)) ?_;rintro _ u1 hu1
   refine Wo rfl (Kb (v:=u1) rfl) <| Kd <| Kc rfl <| Wo rfl (Ka (v:=u) rfl) <| Js XInt rfl el88 Tryz.sizeOf3 ?_;rintro b2 w3 hb2 b2lt E3 hO2;have hs2:=E3.size
   refine Wo rfl (Ka (v:=u1) rfl) <| Wo_appS rfl el88 rfl rfl (Mono.mono (E2.trans E3) hu1) hO2.toB (by first | omega | (simp <;> omega)) (by omega) (by omega) (E2.trans E3) (by omega) ?_;have hT1:=hO2.toB
   rintro v1 w4 hO2 E4 M1;have E5:=M1.ext hT1 E3 (by omega);have szE5:=E5.size;have hO1:=(hO1.toB.ext E3).moves M1 hT1 (by omega);have hs3:=E4.size;have szM1:=M1.1.size;have icv1:=OwnedB.isC (Owned.toB hO2)
   refine Jz rfl Tryz.underlying23 Tryz.sizeOf88 Tryz.zeroValue88 rfl (OwnedB.isC hO2.toB) rfl ?_;rintro b3 w5 hb3 E6 hB1 hHb3;have hlb3:=hB1.lt;have hs4:=E6.size
   refine Jv rfl el23 rfl rfl hB1 (hO1.ext E6) (hO2.toB.ext E6).o (by omega) (by first | omega | (simp <;> omega)) (by omega) (by omega) (E4.trans E6) (by omega) ?_;have hT2:=(hO1.ext E6);rintro v2 w6 hO1 E7 M2
   have hO2:=(hO2.toB.ext E6).moves M2 hT2 (by omega);have hB1:=hB1.moves M2 hT2 (by omega);have hs5:=E7.size;have szM2:=M2.1.size;have icv2:=OwnedB.isC (Owned.toB hO1);refine Wo rfl (Kb (v:=v2) rfl) ?_
   refine Kd <| Kc rfl <| Wo rfl (Kw rfl rfl (by omega)) ?_;refine Wo rfl (Ka (v:=.int _ _) rfl) <| Kd ?_;rotate_left;(exfalso;omega)
  refine ⟨((k+1,v2)),by repeat (first | exact trivial | refine And.intro rfl ?_),by repeat (first | with_reducible exact Same.refl | refine Same.upd rfl ?_ | refine Same.upds rfl ?_ | refine Same.mix rfl ?_),?_,?_⟩
  ·refine ⟨by exact E7,by omega,?_⟩
   rw [take_snoc _ _ hlt]
   exact hO1
  ·simp only;omega
 ·obtain rfl:k=p.length:=by omega
  rw [List.take_length] at hO1
  focus
   have szE2:=E2.size;have szE1:=E1.size;refine Ke <| Kc rfl <| Wo rfl (Ks rfl rfl) <| Kd <| Ke <| Kg rfl (fun h1=>?_) (fun h1=>?_);(exfalso;omega)
   refine Jg ?_;refine exitX_same ?_;refine Ke <| Kc rfl <| Wo rfl (Ka (v:=u) rfl) <| Wo rfl (Kb (v:=u) rfl) <| Kd <| Ja ?_
   exact ⟨E2,hO1.toB.o.mono (by omega)⟩
theorem copyDesk_ok (w:World) (u1 u2:Value) (now:List (List Int)) (past:List (List (List Int))) (h1:ESl Ints w u1 now) (h2:ESl (ESl Ints) w u2 past) (hn:now.length≤100∧∀ r ∈ now,r.length≤100) (hpl:past.length≤100) (hp : ∀ p ∈ past,p.length≤100∧∀ r ∈ p,r.length≤100) :
  Does Tryz.prog 77 [.agg #[u1,u2]] w (RetDk w 23 88 3 now past):=by
 have icu1:isCell u1=true:=ESl_isC h1
 have icu2:isCell u2=true:=ESl_isC h2
 have hle:=h2.le
 have k1 : ∀ (w:World) (v:Value),ESl Ints w v now→Does Tryz.prog 128 [v] w (RetO w XR now):=fun w v h=>copyRowsI_ok w v now h hn.1 hn.2
 have k2 : ∀ (k:Nat) (hk:k < past.length) (w:World) (v:Value),ESl Ints w v past[k]→Does Tryz.prog 128 [v] w (RetO w XR past[k]):=fun k hk w v h=>copyRowsI_ok w v _ h (hp _ (List.getElem_mem hk)).1 (hp _ (List.getElem_mem hk)).2
 refine fn_of_Wc Tryz.func77 rfl Tryz.results77 Tryz.ntmps77 rfl Tryz.isAgg26 Tryz.sizeOf26 ?_
 have litown:True:=trivial
 focus
  refine Ke <| Kc rfl <| Jp rfl rfl rfl ?_;rintro b1 w1 hb1 E1 hB1;have hlb1:=hB1.lt;have hs1:=E1.size;refine Je rfl flat26 ?_;rintro b2 w2 hb2 E2 hB2;have hlb2:=hB2.lt
  have hs2:=E2.size;refine Kd <| Ke <| Kc rfl <| Wo rfl (Kf Tryz.underlying26 rfl rfl Tryz.sizeOf23 rfl) ?_
  refine Wo (v:=u1) rfl (Km Tryz.isAgg23 rfl ((hB1.ext E2).cell rfl)) <| Kj rfl (Jk (a:=u1) Tryz.call128 rfl) (k1 _ _ ((Mono.mono (E1.trans E2) h1))) ?_;rintro u3 w3 ⟨E3,hO1⟩
  have ichO1:=OwnedB.isC (Owned.toB hO1);have hs3:=E3.size;refine Wo rfl (opv_buildF0 flat26 rfl (OwnedB.isC hO1.toB)) <| Je rfl flat26 ?_;rintro b3 w4 hb3 E4 hB3;have hlb3:=hB3.lt;have hs4:=E4.size
  refine Jl rfl Tryz.sizeOf26 rfl rfl (by first | rfl | assumption) (by first | rfl | assumption) hB3 (by omega) (((E1.trans E2).trans E3).trans E4) ?_;rintro w5 E5 hB3 K1 hz1
  have E6:=((E2.trans E3).trans E4).wroteAt (((E1.trans E2).trans E3).trans E4) E5 K1 hz1 (by omega);have szE6:=E6.size;have E7:=(E3.trans E4).wroteAt (((E1.trans E2).trans E3).trans E4) E5 K1 hz1 (by omega)
  have szE7:=E7.size;have E8:=E4.wroteAt (((E1.trans E2).trans E3).trans E4) E5 K1 hz1 (by omega);have szE8:=E8.size;simp only [List.set] at hB3;have hB1:=(hB1.ext ((E2.trans E3).trans E4)).of_heap (K1 _ (by omega))
  have hB2:=(hB2.ext (E3.trans E4)).of_heap (K1 _ (by omega));have hO1:=(hO1.toB.ext E4).wrote K1 (by omega);refine Kd <| Ke <| Ke <| Kc rfl ?_
  refine Wo rfl (Kf Tryz.underlying26 rfl rfl Tryz.sizeOf24 rfl) <| Wo (v:=u2) rfl (Km Tryz.isAgg24 rfl (hB1.cell rfl)) <| Wo rfl (Ko Tryz.underlying24 rfl h2) ?_
  refine Wo rfl (Ka (v:=.int _ _) rfl) <| Kd <| Kr ?_
 have hO0:Owned w4.heap.size (XSl 23 XR) w5 (.slice none 0 0) ([]:List (List (List Int))):=Owned.nil
 have hN:=hO1
 clear hO1 hB1 hB2 k1
 refine Jh [5,13,14,15,16,17,18,19,20,21,22,23,24] (fun ((k,u):Nat × Value)=>[(13,.int .i64 (k:Nat))]) (fun (k,u) w'=>Ext w3 w'∧k≤past.length∧w4.heap.size≤w'.heap.size∧Blk w' b3 [u3,u]∧Owned w4.heap.size (XSl 23 XR) w' u (past.take k)∧OwnedB w2.heap.size w3.heap.size XR w' u3 now) (fun x=>past.length - x.1) (0,.slice none 0 0) (by repeat (first | exact trivial | refine And.intro rfl ?_)) ?_ ?_
 ·exact ⟨by exact E8,Nat.zero_le _,by omega,hB3,by simpa using hO0,hN⟩
 clear hO0 hB3 hN
 rintro ⟨k,u⟩ ρj w6 ⟨E6,hk,hsz,hB4,hO1,hN⟩
 have icu:isCell u=true:=OwnedB.isC hO1.toB
 have hlt':(past.take k).length=k:=by simp;omega
 by_cases hlt:k < past.length
 ·have k2k:=k2 k hlt
  have ht:=take_snoc _ _ hlt
  have heldS:w=w:=rfl
  focus
   have szE6:=E6.size;have szE8:=E8.size;have szE7:=E7.size;have szE6:=E6.size;have szE5:=E5.size;have szE4:=E4.size;have szE3:=E3.size;have szE2:=E2.size;have szE1:=E1.size;refine Ke ?_
   refine Kc rfl <| Wo rfl (Ks rfl rfl) <| Kd <| Ke <| Kg rfl (fun h3=>?_) (fun h3=>?_);refine Kt ?_;refine Ke <| Kr <| Ke ?_
   refine Kc rfl <| Ji Tryz.underlying24 Tryz.sizeOf23 Tryz.isAgg23 rfl (fun _=>rfl) rfl h2 (((E1.trans E2).trans E3).trans E6) rfl (by first | omega | (simp <;> omega)) ?_;rintro _ u4 hu1
   refine Wo rfl (Kb (v:=u4) rfl) <| Kd <| W_held (fun w'=>Ext w w') mixed rfl (by kernel_rfl) ?_;intro w7 E9 K2 hz2;have hs5:=E9.size
   refine Kp 0 rfl (by kernel_rfl) (by kernel_rfl) rfl (fun _ _=>Kf Tryz.underlying26 rfl rfl Tryz.sizeOf24 rfl) ((((E1.trans E2).trans E3).trans E6).trans E9) ?_
   refine Kp 2 rfl (by kernel_rfl) (by kernel_rfl) rfl (fun _ _=>Ka (v:=u4) rfl) ((((E1.trans E2).trans E3).trans E6).trans E9) ?_;refine Ku (rs:=[1,3]) (by kernel_rfl) rfl ?_;refine Kh rfl ?_ ?_
   refine Wo (v:=u) rfl (Km Tryz.isAgg24 rfl ((hB4.ext E9).cell rfl)) <| Kd ?_;refine ⟨((((E1.trans E2).trans E3).trans E6).trans E9),?_⟩;refine Ku (rs:=[3]) (by kernel_rfl) rfl ?_
   refine Kh rfl ?_ ?_;refine Kj rfl (Jk (a:=u4) Tryz.call128 rfl) (k2k _ _ ((Mono.mono ((((E1.trans E2).trans E3).trans E6).trans E9) hu1))) ?_;rintro u5 w8 ⟨E10,hO2⟩;have ichO2:=OwnedB.isC (Owned.toB hO2)
   have hs6:=E10.size;refine Kd ?_;refine ⟨(((((E1.trans E2).trans E3).trans E6).trans E9).trans E10),?_⟩;refine Ku (rs:=[4]) (by kernel_rfl) rfl ?_;refine Kh rfl ?_ ?_
   refine Jz rfl Tryz.underlying24 Tryz.sizeOf23 Tryz.zeroValue23 rfl (OwnedB.isC hO2.toB) rfl ?_;rintro b4 w9 hb4 E11 hB5 hHb4;have hlb4:=hB5.lt;have hs7:=E11.size;refine Kd ?_
   refine ⟨((((((E1.trans E2).trans E3).trans E6).trans E9).trans E10).trans E11),?_⟩;refine Ku (rs:=[5]) (by kernel_rfl) rfl ?_;refine Kh rfl ?_ ?_
   refine Jv rfl el24 rfl rfl hB5 (hO1.toB.ext ((E9.trans E10).trans E11)) (hO2.toB.ext E11).o (by omega) (by first | omega | (simp <;> omega)) (by omega) (by omega) ((((((E1.trans E2).trans E3).trans E6).trans E9).trans E10).trans E11) (by omega) ?_
   have hT1:=(hO1.toB.ext ((E9.trans E10).trans E11));rintro v1 w10 hO1 E12 M1;have E13:=M1.ext hT1 (((((E2.trans E3).trans E6).trans E9).trans E10).trans E11) (by omega);have szE13:=E13.size
   have E14:=M1.ext hT1 ((((E3.trans E6).trans E9).trans E10).trans E11) (by omega);have szE14:=E14.size;have E15:=M1.ext hT1 (((E6.trans E9).trans E10).trans E11) (by omega);have szE15:=E15.size
   have hB1:=(hB1.ext (((((E2.trans E3).trans E6).trans E9).trans E10).trans E11)).moves M1 hT1 (by omega);have hB2:=(hB2.ext ((((E3.trans E6).trans E9).trans E10).trans E11)).moves M1 hT1 (by omega)
   have hB4:=(hB4.ext ((E9.trans E10).trans E11)).moves M1 hT1 (by omega);have hN:=(hN.ext ((E9.trans E10).trans E11)).moves M1 hT1 (by omega);have hO2:=(hO2.toB.ext E11).moves M1 hT1 (by omega)
   have hB5:=hB5.moves M1 hT1 (by omega);have hs8:=E12.size;have szM1:=M1.1.size;have icv1:=OwnedB.isC (Owned.toB hO1);refine Kd ?_;refine ⟨E12,?_⟩
   refine Kp 6 rfl (by kernel_rfl) (by kernel_rfl) rfl (fun _ _=>Kf Tryz.underlying26 rfl rfl Tryz.sizeOf24 rfl) E12 ?_;refine Ku (rs:=[7]) (by kernel_rfl) rfl ?_;refine Kh rfl ?_ ?_
   refine Wo_st (v:=v1) rfl Tryz.sizeOf24 rfl rfl (OwnedB.isC hO1.toB) hB4 (by simp) (by omega) E12 ?_;rintro w11 E16 hB4 K3 hz3;have E17:=E13.wroteAt E12 E16 K3 hz3 (by omega);have szE17:=E17.size
   have E18:=E14.wroteAt E12 E16 K3 hz3 (by omega);have szE18:=E18.size;have E19:=E15.wroteAt E12 E16 K3 hz3 (by omega);have szE19:=E19.size;simp only [List.set] at hB4;have hO1:=hO1.toB.wrote K3 (by omega)
   have hB1:=hB1.of_heap (K3 _ (by omega));have hB2:=hB2.of_heap (K3 _ (by omega));have hN:=hN.wrote K3 (by omega);have hO2:=hO2.wrote K3 (by omega);have hB5:=hB5.of_heap (K3 _ (by omega));refine Kd ?_
   refine ⟨E16,?_⟩;refine Jm (by kernel_rfl) ?_;refine Kc rfl <| Wo rfl (Kw rfl rfl (by omega)) ?_;refine Wo rfl (Ka (v:=.int _ _) rfl) <| Kd ?_;rotate_left;exact Kl
   exact Kl;exact Kl;exact Kl;refine Kh rfl ?_ ?_;refine Kj rfl (Jk (a:=u4) Tryz.call128 rfl) (k2k _ _ ((Mono.mono ((((E1.trans E2).trans E3).trans E6).trans E9) hu1))) ?_
   rintro u5 w8 ⟨E10,hO2⟩;have ichO2:=OwnedB.isC (Owned.toB hO2);have hs6:=E10.size;refine Kd ?_;refine ⟨(((((E1.trans E2).trans E3).trans E6).trans E9).trans E10),?_⟩;refine Ku (rs:=[1,4]) (by kernel_rfl) rfl ?_
   refine Kh rfl ?_ ?_;refine Wo (v:=u) rfl (Km Tryz.isAgg24 rfl ((hB4.ext (E9.trans E10)).cell rfl)) <| Kd ?_;refine ⟨(((((E1.trans E2).trans E3).trans E6).trans E9).trans E10),?_⟩
   refine Ku (rs:=[4]) (by kernel_rfl) rfl ?_;refine Kh rfl ?_ ?_;refine Jz rfl Tryz.underlying24 Tryz.sizeOf23 Tryz.zeroValue23 rfl (OwnedB.isC hO2.toB) rfl ?_;rintro b4 w9 hb4 E11 hB5 hHb4
   have hlb4:=hB5.lt;have hs7:=E11.size;refine Kd ?_;refine ⟨((((((E1.trans E2).trans E3).trans E6).trans E9).trans E10).trans E11),?_⟩;refine Ku (rs:=[5]) (by kernel_rfl) rfl ?_;refine Kh rfl ?_ ?_
   refine Jv rfl el24 rfl rfl hB5 (hO1.toB.ext ((E9.trans E10).trans E11)) (hO2.toB.ext E11).o (by omega) (by first | omega | (simp <;> omega)) (by omega) (by omega) ((((((E1.trans E2).trans E3).trans E6).trans E9).trans E10).trans E11) (by omega) ?_
   have hT1:=(hO1.toB.ext ((E9.trans E10).trans E11));rintro v1 w10 hO1 E12 M1;have E13:=M1.ext hT1 (((((E2.trans E3).trans E6).trans E9).trans E10).trans E11) (by omega);have szE13:=E13.size
   have E14:=M1.ext hT1 ((((E3.trans E6).trans E9).trans E10).trans E11) (by omega);have szE14:=E14.size;have E15:=M1.ext hT1 (((E6.trans E9).trans E10).trans E11) (by omega);have szE15:=E15.size
   have hB1:=(hB1.ext (((((E2.trans E3).trans E6).trans E9).trans E10).trans E11)).moves M1 hT1 (by omega);have hB2:=(hB2.ext ((((E3.trans E6).trans E9).trans E10).trans E11)).moves M1 hT1 (by omega)
   have hB4:=(hB4.ext ((E9.trans E10).trans E11)).moves M1 hT1 (by omega);have hN:=(hN.ext ((E9.trans E10).trans E11)).moves M1 hT1 (by omega);have hO2:=(hO2.toB.ext E11).moves M1 hT1 (by omega)
   have hB5:=hB5.moves M1 hT1 (by omega);have hs8:=E12.size;have szM1:=M1.1.size;have icv1:=OwnedB.isC (Owned.toB hO1);refine Kd ?_;refine ⟨E12,?_⟩
   refine Kp 6 rfl (by kernel_rfl) (by kernel_rfl) rfl (fun _ _=>Kf Tryz.underlying26 rfl rfl Tryz.sizeOf24 rfl) E12 ?_;refine Ku (rs:=[7]) (by kernel_rfl) rfl ?_;refine Kh rfl ?_ ?_
   refine Wo_st (v:=v1) rfl Tryz.sizeOf24 rfl rfl (OwnedB.isC hO1.toB) hB4 (by simp) (by omega) E12 ?_;rintro w11 E16 hB4 K3 hz3;have E17:=E13.wroteAt E12 E16 K3 hz3 (by omega);have szE17:=E17.size
   have E18:=E14.wroteAt E12 E16 K3 hz3 (by omega);have szE18:=E18.size;have E19:=E15.wroteAt E12 E16 K3 hz3 (by omega);have szE19:=E19.size;simp only [List.set] at hB4;have hO1:=hO1.toB.wrote K3 (by omega)
   have hB1:=hB1.of_heap (K3 _ (by omega));have hB2:=hB2.of_heap (K3 _ (by omega));have hN:=hN.wrote K3 (by omega);have hO2:=hO2.wrote K3 (by omega);have hB5:=hB5.of_heap (K3 _ (by omega));refine Kd ?_
   refine ⟨E16,?_⟩;refine Jm (by kernel_rfl) ?_;refine Kc rfl <| Wo rfl (Kw rfl rfl (by omega)) ?_;refine Wo rfl (Ka (v:=.int _ _) rfl) <| Kd ?_;rotate_left;exact Kl
   exact Kl;exact Kl;refine Kh rfl ?_ ?_;refine Jz rfl Tryz.underlying24 Tryz.sizeOf23 Tryz.zeroValue23 rfl (OwnedB.isC hO2.toB) rfl ?_;rintro b4 w9 hb4 E11 hB5 hHb4;have hlb4:=hB5.lt
   have hs7:=E11.size;refine Kd ?_;refine ⟨((((((E1.trans E2).trans E3).trans E6).trans E9).trans E10).trans E11),?_⟩;refine Ku (rs:=[1]) (by kernel_rfl) rfl ?_;refine Kh rfl ?_ ?_
   refine Wo (v:=u) rfl (Km Tryz.isAgg24 rfl ((hB4.ext ((E9.trans E10).trans E11)).cell rfl)) <| Kd ?_;refine ⟨((((((E1.trans E2).trans E3).trans E6).trans E9).trans E10).trans E11),?_⟩
   refine Ku (rs:=[5]) (by kernel_rfl) rfl ?_;refine Kh rfl ?_ ?_
   refine Jv rfl el24 rfl rfl hB5 (hO1.toB.ext ((E9.trans E10).trans E11)) (hO2.toB.ext E11).o (by omega) (by first | omega | (simp <;> omega)) (by omega) (by omega) ((((((E1.trans E2).trans E3).trans E6).trans E9).trans E10).trans E11) (by omega) ?_
   have hT1:=(hO1.toB.ext ((E9.trans E10).trans E11));rintro v1 w10 hO1 E12 M1;have E13:=M1.ext hT1 (((((E2.trans E3).trans E6).trans E9).trans E10).trans E11) (by omega);have szE13:=E13.size
   have E14:=M1.ext hT1 ((((E3.trans E6).trans E9).trans E10).trans E11) (by omega);have szE14:=E14.size;have E15:=M1.ext hT1 (((E6.trans E9).trans E10).trans E11) (by omega);have szE15:=E15.size
   have hB1:=(hB1.ext (((((E2.trans E3).trans E6).trans E9).trans E10).trans E11)).moves M1 hT1 (by omega);have hB2:=(hB2.ext ((((E3.trans E6).trans E9).trans E10).trans E11)).moves M1 hT1 (by omega)
   have hB4:=(hB4.ext ((E9.trans E10).trans E11)).moves M1 hT1 (by omega);have hN:=(hN.ext ((E9.trans E10).trans E11)).moves M1 hT1 (by omega);have hO2:=(hO2.toB.ext E11).moves M1 hT1 (by omega)
   have hB5:=hB5.moves M1 hT1 (by omega);have hs8:=E12.size;have szM1:=M1.1.size;have icv1:=OwnedB.isC (Owned.toB hO1);refine Kd ?_;refine ⟨E12,?_⟩
   refine Kp 6 rfl (by kernel_rfl) (by kernel_rfl) rfl (fun _ _=>Kf Tryz.underlying26 rfl rfl Tryz.sizeOf24 rfl) E12 ?_;refine Ku (rs:=[7]) (by kernel_rfl) rfl ?_;refine Kh rfl ?_ ?_
   refine Wo_st (v:=v1) rfl Tryz.sizeOf24 rfl rfl (OwnedB.isC hO1.toB) hB4 (by simp) (by omega) E12 ?_;rintro w11 E16 hB4 K3 hz3;have E17:=E13.wroteAt E12 E16 K3 hz3 (by omega);have szE17:=E17.size
   have E18:=E14.wroteAt E12 E16 K3 hz3 (by omega);have szE18:=E18.size;have E19:=E15.wroteAt E12 E16 K3 hz3 (by omega);have szE19:=E19.size;simp only [List.set] at hB4;have hO1:=hO1.toB.wrote K3 (by omega)
   have hB1:=hB1.of_heap (K3 _ (by omega));have hB2:=hB2.of_heap (K3 _ (by omega));have hN:=hN.wrote K3 (by omega);have hO2:=hO2.wrote K3 (by omega);have hB5:=hB5.of_heap (K3 _ (by omega));refine Kd ?_
   refine ⟨E16,?_⟩;refine Jm (by kernel_rfl) ?_;refine Kc rfl <| Wo rfl (Kw rfl rfl (by omega)) ?_;refine Wo rfl (Ka (v:=.int _ _) rfl) <| Kd ?_;rotate_left;exact Kl
   exact Kl;exact Kl;exact Kl;exact Kl;(exfalso;omega)
  all_goals first
   | (refine ⟨(k + 1, v1), by repeat (first | exact trivial | refine And.intro rfl ?_), by repeat (first | with_reducible exact Same.refl | refine Same.upd rfl ?_ | refine Same.upds rfl ?_ | refine Same.mix rfl ?_), ?_, by simp only; omega⟩
      refine ⟨by assumption, by omega, by omega, hB4, ?_, hN⟩
      rw [ht]; exact hO1.o)
 ·obtain rfl:k=past.length:=by omega
  rw [List.take_length] at hO1
  focus
   have szE6:=E6.size;have szE8:=E8.size;have szE7:=E7.size;have szE6:=E6.size;have szE5:=E5.size;have szE4:=E4.size;have szE3:=E3.size;have szE2:=E2.size;have szE1:=E1.size;refine Ke ?_
   refine Kc rfl <| Wo rfl (Ks rfl rfl) <| Kd <| Ke <| Kg rfl (fun h3=>?_) (fun h3=>?_);(exfalso;omega);refine Jg ?_;refine exitX_same ?_;refine Ke ?_
   refine Kc rfl <| Wo (v:=.agg _) rfl (Jd Tryz.isAgg26 Tryz.sizeOf26 rfl hB4) ?_
   refine Jl rfl Tryz.sizeOf26 rfl rfl (by first | rfl | assumption) (by first | rfl | assumption) (hB2.ext (E3.trans E6)) (by omega) (((E1.trans E2).trans E3).trans E6) ?_;rintro w7 E9 hB2 K2 hz2
   have E10:=((E2.trans E3).trans E6).wroteAt (((E1.trans E2).trans E3).trans E6) E9 K2 hz2 (by omega);have szE10:=E10.size;have hB1:=(hB1.ext ((E2.trans E3).trans E6)).of_heap (K2 _ (by omega))
   have hB4:=hB4.of_heap (K2 _ (by omega));have hN:=hN.wrote K2 (by omega);have hO1:=hO1.toB.wrote K2 (by omega);refine Kd <| Ja ?_
  refine ⟨b2,u3,u,rfl,by assumption,u3,u,w3.heap.size,rfl,by exact E9,?_,hO1.o.mono (by omega),by omega,by omega⟩
  exact hN.wide (by omega) (Nat.le_refl _)
end Go.Proofs.YtbgpppaljpngmaaGreatDoor
