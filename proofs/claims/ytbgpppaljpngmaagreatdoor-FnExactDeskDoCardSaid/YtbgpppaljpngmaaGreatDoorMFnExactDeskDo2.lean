/- Lemmas for FnExactDeskDo. -/
import Derived.Test.YtbgpppaljpngmaaGreatDoorMFnExactDeskDo1
import Derived.Shelf.Lay
import Derived.Ground.NamesProg
import Derived.Shelf.Sort.Plain
import Derived.Shelf.Slices.In.SortNone
import Derived.Sort.OwnSortedInts
import Derived.Laws.Shifts
namespace Go.Proofs.YtbgpppaljpngmaaGreatDoor
open Go.Hs
set_option maxRecDepth 10000
set_option maxHeartbeats 4000000
set_option linter.unusedVariables false
set_option linter.unusedSimpArgs false
theorem take_eq_snoc {α : Type} {xs ys:List α} {k:Nat} (h1:k < xs.length) (h2:k < ys.length):(xs.take (k+1)=ys.take (k+1))↔(xs.take k=ys.take k∧xs[k]=ys[k]):=by
 rw [take_snoc _ _ h1,take_snoc _ _ h2]
 constructor
 ·intro h
  have:=List.append_inj' h rfl
  exact ⟨this.1,by simpa using this.2⟩
 ·rintro ⟨h,h'⟩;rw [h,h']
theorem ne_at {α : Type} {xs ys:List α} {k:Nat} (h1:k < xs.length) (h2:k < ys.length) (h:xs[k]≠ys[k]):xs≠ys:=by
 rintro rfl;exact h rfl
theorem eqIntS_ok (w:World) (v u:Value) (xs ys:List Int) (h:Ints w v xs) (h':Ints w u ys):Does Tryz.prog 135 [v,u] w (Ret w (.bool (decide (xs=ys)))):=by
 have hle:=h.le
 have hle':=h'.le
 refine Jc Tryz.func135 rfl Tryz.results135 Tryz.ntmps135 rfl ?_
 focus
  refine Ke <| Kc rfl <| Wo rfl (Kb (v:=.bool _) rfl) <| Kd <| Ke <| Ke <| Kc rfl <| Wo rfl (Ka (v:=v) rfl) ?_
  refine Wo rfl (Ko Tryz.underlying88 rfl h) <| Wo rfl (Ka (v:=u) rfl) <| Wo rfl (Ko Tryz.underlying88 rfl h') <| Wo rfl (Gb rfl rfl) <| Kd ?_
  refine Jj rfl (fun h1=>?_) (fun h1=>?_);refine Ke <| Kc rfl <| Wo rfl (Kb (v:=.bool _) rfl) <| Kd <| Ja ?_;refine at_ret (v:=.bool _) rfl ?_
  refine ⟨congrArg Value.bool ?_,(Ext.refl _)⟩;rotate_left;refine Kt ?_;refine Ke <| Ke <| Kc rfl <| Wo rfl (Kb (v:=.int _ _) rfl) <| Kd <| Kr ?_
  rotate_left
 ·exact (decide_eq_false (fun e=>by subst e;omega)).symm
 refine Jh [4,5,11,12,13,14,15,16,17,18,19,20,21,22,23,24,25] (fun (k:Nat)=>[(5,.int .i64 (k:Nat))]) (fun k w'=>Ext w w'∧k≤xs.length∧xs.take k=ys.take k) (fun x=>xs.length - x) 0 (by repeat (first | exact trivial | refine And.intro rfl ?_)) ?_ ?_
 ·exact ⟨Ext.refl _,Nat.zero_le _,by simp⟩
 rintro k ρj w1 ⟨E1,hk,he⟩
 focus
  have szE1:=E1.size;refine Ke <| Ke <| Kc rfl <| Wo rfl (Ka (v:=.int _ _) rfl) <| Wo rfl (Ka (v:=v) rfl) <| Wo rfl (Ko Tryz.underlying88 rfl h) ?_
  refine Wo rfl (Ks rfl rfl) <| Kd <| Kg rfl (fun h2=>?_) (fun h2=>?_);refine Kt ?_;refine Ke <| Kr <| Ke <| W_draw mixed (by kernel_rfl) rfl ?_
  refine Jb rfl (fun _ _=>Ka (v:=v) rfl) ?_;refine Jb rfl (fun _ _=>Ka (v:=.int _ _) rfl) ?_
  refine Wq_get Tryz.underlying88 Tryz.sizeOf3 Tryz.isAgg3 rfl (fun _=>rfl) rfl h E1 rfl (by first | omega | (simp <;> omega)) ?_;rintro _ _ rfl;refine Jb rfl (fun _ _=>Ka (v:=u) rfl) ?_
  refine Jb rfl (fun _ _=>Ka (v:=.int _ _) rfl) ?_;refine Wq_get Tryz.underlying88 Tryz.sizeOf3 Tryz.isAgg3 rfl (fun _=>rfl) rfl h' E1 rfl (by first | omega | (simp <;> omega)) ?_;rintro _ _ rfl
  refine Jb rfl (fun _ _=>Gb rfl rfl) ?_;refine Wq_nil (fun w2 E2=>?_);have hs1:=E2.size;refine Jj rfl (fun h3=>?_) (fun h3=>?_);refine Ke <| Kc rfl ?_
  refine Wo rfl (Kb (v:=.bool _) rfl) <| Kd <| Ja ?_;refine at_ret (v:=.bool _) rfl ?_;refine ⟨congrArg Value.bool ?_,(E1.trans E2)⟩;rotate_left;refine Kt ?_;refine Kc rfl ?_
  refine Wo rfl (Ka (v:=.int _ _) rfl) <| Wo rfl (Kw rfl rfl (by omega)) ?_;refine Wo rfl (Kb (v:=.int _ _) rfl) <| Kd ?_;rotate_left;refine Jg ?_;refine exitX_same ?_
  refine Ke <| Kc rfl <| Wo rfl (Kb (v:=.bool _) rfl) <| Kd <| Ja ?_;refine at_ret (v:=.bool _) rfl ?_;refine ⟨congrArg Value.bool ?_,E1⟩;rotate_left
 ·exact (decide_eq_false (ne_at (k:=k) (by omega) (by omega) (by assumption))).symm
 ·refine ⟨(k+1),by repeat (first | exact trivial | refine And.intro rfl ?_),by repeat (first | with_reducible exact Same.refl | refine Same.upd rfl ?_ | refine Same.upds rfl ?_ | refine Same.mix rfl ?_),?_,?_⟩
  ·exact ⟨E1.trans E2,by omega,(take_eq_snoc (by omega) (by omega)).2 ⟨he,by assumption⟩⟩
  ·omega
 ·obtain rfl:k=xs.length:=by omega
  exact (decide_eq_true (ext_take (by omega) he)).symm
theorem eqIntSS_ok (w:World) (v u:Value) (xs ys:List (List Int)) (h:ESl Ints w v xs) (h':ESl Ints w u ys):Does Tryz.prog 84 [v,u] w (Ret w (.bool (decide (xs=ys)))):=by
 have hle:=h.le
 have hle':=h'.le
 refine Jc Tryz.func84 rfl Tryz.results84 Tryz.ntmps84 rfl ?_
 focus
  refine Ke <| Kc rfl <| Wo rfl (Kb (v:=.bool _) rfl) <| Kd <| Ke <| Ke <| Kc rfl <| Wo rfl (Ka (v:=v) rfl) ?_
  refine Wo rfl (Ko Tryz.underlying23 rfl h) <| Wo rfl (Ka (v:=u) rfl) <| Wo rfl (Ko Tryz.underlying23 rfl h') <| Wo rfl (Gb rfl rfl) <| Kd ?_
  refine Jj rfl (fun h1=>?_) (fun h1=>?_);refine Ke <| Kc rfl <| Wo rfl (Kb (v:=.bool _) rfl) <| Kd <| Ja ?_;refine at_ret (v:=.bool _) rfl ?_
  refine ⟨congrArg Value.bool ?_,(Ext.refl _)⟩;rotate_left;refine Kt ?_;refine Ke <| Ke <| Kc rfl <| Wo rfl (Kb (v:=.int _ _) rfl) <| Kd <| Kr ?_
  rotate_left
 ·exact (decide_eq_false (fun e=>by subst e;omega)).symm
 refine Jh [4,5,11,12,13,14,15,16,17,18,19,20,21,22,23,24,25,26] (fun (k:Nat)=>[(5,.int .i64 (k:Nat))]) (fun k w'=>Ext w w'∧k≤xs.length∧xs.take k=ys.take k) (fun x=>xs.length - x) 0 (by repeat (first | exact trivial | refine And.intro rfl ?_)) ?_ ?_
 ·exact ⟨Ext.refl _,Nat.zero_le _,by simp⟩
 rintro k ρj w1 ⟨E1,hk,he⟩
 focus
  have szE1:=E1.size;refine Ke <| Ke <| Kc rfl <| Wo rfl (Ka (v:=.int _ _) rfl) <| Wo rfl (Ka (v:=v) rfl) <| Wo rfl (Ko Tryz.underlying23 rfl h) ?_
  refine Wo rfl (Ks rfl rfl) <| Kd <| Kg rfl (fun h2=>?_) (fun h2=>?_);refine Kt ?_;refine Ke <| Kr <| Ke <| W_draw mixed (by kernel_rfl) rfl ?_
  refine Jb rfl (fun _ _=>Ka (v:=v) rfl) ?_;refine Jb rfl (fun _ _=>Ka (v:=.int _ _) rfl) ?_
  refine Wq_get Tryz.underlying23 Tryz.sizeOf88 Tryz.isAgg88 rfl (fun _=>rfl) rfl h E1 rfl (by first | omega | (simp <;> omega)) ?_;rintro _ u1 hu1;refine Jb rfl (fun _ _=>Ka (v:=u) rfl) ?_
  refine Jb rfl (fun _ _=>Ka (v:=.int _ _) rfl) ?_;refine Wq_get Tryz.underlying23 Tryz.sizeOf88 Tryz.isAgg88 rfl (fun _=>rfl) rfl h' E1 rfl (by first | omega | (simp <;> omega)) ?_;rintro _ u2 hu2
  refine Wq_call rfl (fun _ _=>Jn (a:=u1) (b:=u2) Tryz.call135 rfl rfl) (fun w' hw'=>(eqIntS_ok _ _ _ _ _ ((Mono.mono (E1.trans hw') hu1)) ((Mono.mono (E1.trans hw') hu2)))) ?_;refine Jb rfl (fun _ _=>Jf rfl) ?_
  refine Wq_nil (fun w2 E2=>?_);have hs1:=E2.size;refine Jj rfl (fun h3=>?_) (fun h3=>?_);refine Ke <| Kc rfl <| Wo rfl (Kb (v:=.bool _) rfl) <| Kd <| Ja ?_
  refine at_ret (v:=.bool _) rfl ?_;refine ⟨congrArg Value.bool ?_,(E1.trans E2)⟩;rotate_left;refine Kt ?_;refine Kc rfl <| Wo rfl (Ka (v:=.int _ _) rfl) ?_
  refine Wo rfl (Kw rfl rfl (by omega)) ?_;refine Wo rfl (Kb (v:=.int _ _) rfl) <| Kd ?_;rotate_left;refine Jg ?_;refine exitX_same ?_;refine Ke <| Kc rfl ?_
  refine Wo rfl (Kb (v:=.bool _) rfl) <| Kd <| Ja ?_;refine at_ret (v:=.bool _) rfl ?_;refine ⟨congrArg Value.bool ?_,E1⟩;rotate_left
 ·exact (decide_eq_false (ne_at (k:=k) (by omega) (by omega) (by assumption))).symm
 ·refine ⟨(k+1),by repeat (first | exact trivial | refine And.intro rfl ?_),by repeat (first | with_reducible exact Same.refl | refine Same.upd rfl ?_ | refine Same.upds rfl ?_ | refine Same.mix rfl ?_),?_,?_⟩
  ·exact ⟨E1.trans E2,by omega,(take_eq_snoc (by omega) (by omega)).2 ⟨he,by assumption⟩⟩
  ·omega
 ·obtain rfl:k=xs.length:=by omega
  exact (decide_eq_true (ext_take (by omega) he)).symm
theorem heldIntS_ok (w:World) (v:Value) (n:Nat) (k0:Int) (h:Ints w v (marks k0 n)) (hk0:0≤k0∧k0≤1099511627776) (hn:n≤1099511627776):Does Tryz.prog 137 [v,.int .i64 k0] w (Ret w (.int .i64 (k0+n))):=by
 have hml:=marks_len k0 n
 refine Jc Tryz.func137 rfl Tryz.results137 Tryz.ntmps137 rfl ?_
 focus
  refine Ke <| Kc rfl <| Wo rfl (Kb (v:=.int _ _) rfl) <| Kd <| Ke <| Ke <| Kc rfl <| Wo rfl (Kb (v:=.int _ _) rfl) ?_
  refine Kd <| Kr ?_
 refine Jh [1,4,5,6,7,8,9,10,11,12,13,14,15,16,17,18,19] (fun (k,m)=>[(5,.int .i64 (k:Nat)),(1,.int .i64 (m:Int))]) (fun (k,m) w'=>Ext w w'∧k≤n∧m=k0+(k:Nat)) (fun x=>n - x.1) (0,k0) (by repeat (first | exact trivial | refine And.intro rfl ?_)) ?_ ?_
 ·exact ⟨Ext.refl _,Nat.zero_le _,by simp⟩
 rintro ⟨k,m⟩ ρj w1 ⟨E1,hk,hm0⟩
 by_cases hlt:k < n
 ·have hm:=marks_at (k:=k0) hlt
  focus
   have szE1:=E1.size;refine Ke <| Ke <| Kc rfl <| Wo rfl (Ka (v:=.int _ _) rfl) <| Wo rfl (Ka (v:=v) rfl) <| Wo rfl (Ko Tryz.underlying88 rfl h) ?_
   refine Wo rfl (Ks rfl rfl) <| Kd <| Kg rfl (fun h1=>?_) (fun h1=>?_);refine Kt ?_;refine Ke <| Kr <| Ke <| Ke <| Kc rfl ?_
   refine Wo rfl (Ka (v:=v) rfl) <| Wo rfl (Ka (v:=.int _ _) rfl) <| Ji Tryz.underlying88 Tryz.sizeOf3 Tryz.isAgg3 rfl (fun _=>rfl) rfl h E1 rfl (by first | omega | (simp <;> omega)) ?_
   rintro _ _ rfl;refine Wo rfl (Ka (v:=.int _ _) rfl) <| Wo rfl (Gb rfl rfl) <| Kd <| Jj rfl (fun h2=>?_) (fun h2=>?_);(exfalso;omega);refine Kt ?_;refine Kc rfl ?_
   refine Wo rfl (Ka (v:=.int _ _) rfl) <| Wo rfl (Kw rfl rfl (by omega)) ?_;refine Wo rfl (Kb (v:=.int _ _) rfl) <| Kd <| Kc rfl ?_
   refine Wo rfl (Ka (v:=.int _ _) rfl) <| Wo rfl (Kw rfl rfl (by omega)) ?_;refine Wo rfl (Kb (v:=.int _ _) rfl) <| Kd ?_;rotate_left;(exfalso;omega)
  refine ⟨((k+1,m+1)),by repeat (first | exact trivial | refine And.intro rfl ?_),by repeat (first | with_reducible exact Same.refl | refine Same.upd rfl ?_ | refine Same.upds rfl ?_ | refine Same.mix rfl ?_),?_,?_⟩
  ·exact ⟨E1,by omega,by omega⟩
  ·simp only;omega
 ·obtain rfl:k=n:=by omega
  focus
   have szE1:=E1.size;refine Ke <| Ke <| Kc rfl <| Wo rfl (Ka (v:=.int _ _) rfl) <| Wo rfl (Ka (v:=v) rfl) <| Wo rfl (Ko Tryz.underlying88 rfl h) ?_
   refine Wo rfl (Ks rfl rfl) <| Kd <| Kg rfl (fun h1=>?_) (fun h1=>?_);(exfalso;omega);refine Jg ?_;refine exitX_same ?_;refine Ke <| Kc rfl ?_
   refine Wo rfl (Ka (v:=.int _ _) rfl) <| Wo rfl (Kb (v:=.int _ _) rfl) <| Kd <| Ja ?_;refine at_ret (v:=.int _ _) rfl ?_;refine ⟨congrArg (Value.int .i64) ?_,E1⟩
  omega
theorem l1In_ok (n a b:Int) (w:World):Does Tryz.prog 116 [.int .i64 n,.int .i64 a,.int .i64 b] w (Ret w (.bool (decide (a≤n∧n≤b)))):=by
 refine Jc Tryz.func116 rfl Tryz.results116 Tryz.ntmps116 rfl ?_
 focus
  refine Ke <| Kc rfl <| Wo rfl (Kb (v:=.bool _) rfl) <| Kd <| Ke <| Kc rfl <| Wo rfl (Ka (v:=.int _ _) rfl) ?_
  refine Wo rfl (Ka (v:=.int _ _) rfl) <| Wo rfl (opv_geq rfl rfl) <| Kv rfl (Ka (v:=.bool _) rfl) (fun h1=>?_) (fun h1=>?_);refine Wo rfl (Ka (v:=.int _ _) rfl) ?_
  refine Wo rfl (Ka (v:=.int _ _) rfl) <| Wo rfl (opv_leq rfl rfl) <| Wo rfl (Kz (v:=.bool _) rfl rfl) <| Wo rfl (Kb (v:=.bool _) rfl) <| Kd <| Ja ?_
  refine at_ret (v:=.bool _) rfl ?_;refine ⟨congrArg Value.bool ?_,(Ext.refl _)⟩;rotate_left;refine Ki rfl <| Ki rfl <| Ki rfl <| Wo rfl (Kn (v:=.bool _) rfl rfl) ?_
  refine Wo rfl (Kb (v:=.bool _) rfl) <| Kd <| Ja ?_;refine at_ret (v:=.bool _) rfl ?_;refine ⟨congrArg Value.bool ?_,(Ext.refl _)⟩;rotate_left
 ·exact decide_eq_decide.2 (by omega)
 ·exact (decide_eq_false (by omega)).symm
def Bits (r:List Int):Prop:=∀ x ∈ r,x=0∨x=1
instance (r:List Int):Decidable (Bits r):=by unfold Bits;infer_instance
theorem areBits_ok (w:World) (v:Value) (r:List Int) (h:Ints w v r) (n:Int):Does Tryz.prog 129 [v,.int .i64 n] w (Ret w (.bool (decide (Bits r∧(r.length:Int)=n)))):=by
 have hle:=h.le
 refine Jc Tryz.func129 rfl Tryz.results129 Tryz.ntmps129 rfl ?_
 focus
  refine Ke <| Kc rfl <| Wo rfl (Kb (v:=.bool _) rfl) <| Kd <| Ke <| Ke <| Kc rfl <| Wo rfl (Ka (v:=v) rfl) ?_
  refine Wo rfl (Ko Tryz.underlying88 rfl h) <| Wo rfl (Ka (v:=.int _ _) rfl) <| Kd <| Kr ?_
 refine Jh [4,6,9,10,11,12,13,14,15,16,17,18,19] (fun (k:Nat)=>[(9,.int .i64 (k:Nat))]) (fun k w'=>Ext w w'∧k≤r.length∧Bits (r.take k)) (fun x=>r.length - x) 0 (by repeat (first | exact trivial | refine And.intro rfl ?_)) ?_ ?_
 ·exact ⟨Ext.refl _,Nat.zero_le _,by simp [Bits]⟩
 rintro k ρj w1 ⟨E1,hk,hb⟩
 focus
  have szE1:=E1.size;refine Ke <| Kc rfl <| Wo rfl (Ks rfl rfl) <| Kd <| Ke <| Kg rfl (fun h1=>?_) (fun h1=>?_);refine Kt ?_;refine Ke ?_
  refine Kr <| Ke <| Kc rfl <| Ji Tryz.underlying88 Tryz.sizeOf3 Tryz.isAgg3 rfl (fun _=>rfl) rfl h E1 rfl (by first | omega | (simp <;> omega)) ?_;rintro _ _ rfl
  refine Wo rfl (Kb (v:=.int _ _) rfl) <| Kd <| Ke <| Kc rfl <| Wo rfl (Ka (v:=.int _ _) rfl) <| Wo rfl (Gb rfl rfl) ?_
  refine Jw rfl (Ka (v:=.bool _) rfl) (fun h2=>?_) (fun h2=>?_);refine Wo rfl (Ka (v:=.int _ _) rfl) <| Wo rfl (Gb rfl rfl) <| Wo rfl (Kz (v:=.bool _) rfl rfl) ?_
  refine Kd <| Jj rfl (fun h3=>?_) (fun h3=>?_);refine Ke <| Kc rfl <| Wo rfl (Kb (v:=.bool _) rfl) <| Kd <| Ja ?_
  refine at_ret (v:=.bool _) rfl ?_;refine ⟨congrArg Value.bool ?_,E1⟩;rotate_left;refine Kt ?_;refine Kc rfl <| Wo rfl (Kw rfl rfl (by omega)) ?_;refine Wo rfl (Ka (v:=.int _ _) rfl) ?_
  refine Kd ?_;rotate_left;refine Ki rfl <| Ki rfl <| Wo rfl (Kn (v:=.bool _) rfl rfl) <| Kd <| Ky rfl ?_;refine Kt ?_;refine Kc rfl ?_
  refine Wo rfl (Kw rfl rfl (by omega)) ?_;refine Wo rfl (Ka (v:=.int _ _) rfl) <| Kd ?_;rotate_left;refine Jg ?_;refine exitX_same ?_;refine Ke <| Kc rfl ?_
  refine Wo rfl (Ka (v:=v) rfl) <| Wo rfl (Ko Tryz.underlying88 rfl h) <| Wo rfl (Ka (v:=.int _ _) rfl) <| Wo rfl (Kx rfl rfl) <| Wo rfl (Kb (v:=.bool _) rfl) ?_
  refine Kd <| Ja ?_;refine at_ret (v:=.bool _) rfl ?_;refine ⟨congrArg Value.bool ?_,E1⟩;rotate_left
 ·refine (decide_eq_false ?_).symm
  rintro ⟨h9,_⟩
  have:=h9 _ (List.getElem_mem (show k < r.length by omega))
  omega
 ·refine ⟨(k+1),by repeat (first | exact trivial | refine And.intro rfl ?_),by repeat (first | with_reducible exact Same.refl | refine Same.upd rfl ?_ | refine Same.upds rfl ?_ | refine Same.mix rfl ?_),?_,?_⟩
  ·refine ⟨E1,by omega,?_⟩
   rw [take_snoc _ _ (by omega)]
   intro x hx
   rcases List.mem_append.1 hx with hx | hx
   ·exact hb x hx
   ·rw [List.mem_singleton.1 hx];omega
  ·omega
 ·refine ⟨(k+1),by repeat (first | exact trivial | refine And.intro rfl ?_),by repeat (first | with_reducible exact Same.refl | refine Same.upd rfl ?_ | refine Same.upds rfl ?_ | refine Same.mix rfl ?_),?_,?_⟩
  ·refine ⟨E1,by omega,?_⟩
   rw [take_snoc _ _ (by omega)]
   intro x hx
   rcases List.mem_append.1 hx with hx | hx
   ·exact hb x hx
   ·rw [List.mem_singleton.1 hx];omega
  ·omega
 ·obtain rfl:k=r.length:=by omega
  have hb':Bits r:=by simpa using hb
  exact decide_eq_decide.2 ⟨fun h=>⟨hb',h⟩,fun h=>h.2⟩
theorem isPicture_ok (w:World) (v:Value) (p:List (List Int)) (h:ESl Ints w v p):Does Tryz.prog 78 [v] w (Ret w (.bool (decide (Pic p)))):=by
 have hle:=h.le
 refine Jc Tryz.func78 rfl Tryz.results78 Tryz.ntmps78 rfl ?_
 focus
  refine Ke <| Kc rfl <| Wo rfl (Kb (v:=.bool _) rfl) <| Kd <| Ke <| Ke <| Kc rfl <| Wo rfl (Ka (v:=v) rfl) ?_
  refine Wo rfl (Ko Tryz.underlying23 rfl h) <| Wo rfl (Ks rfl rfl) <| Kv rfl (Ka (v:=.bool _) rfl) (fun h1=>?_) (fun h1=>?_);refine Ki rfl <| Ki rfl ?_
  refine Ki rfl <| Wo rfl (Kz (v:=.bool _) rfl rfl) <| Kd <| Ga rfl ?_;refine Ke <| Kc rfl <| Wo rfl (Kb (v:=.bool _) rfl) <| Kd ?_
  refine Ja ?_;refine at_ret (v:=.bool _) rfl ?_;refine ⟨congrArg Value.bool ?_,(Ext.refl _)⟩;rotate_left;refine Wo rfl (Ka (v:=v) rfl) <| Wo rfl (Ko Tryz.underlying23 rfl h) ?_
  refine Wo rfl (opv_gtr rfl rfl) <| Wo rfl (Kn (v:=.bool _) rfl rfl) <| Kd <| Kg rfl (fun h2=>?_) (fun h2=>?_);refine Ke <| Kc rfl ?_
  refine Wo rfl (Kb (v:=.bool _) rfl) <| Kd <| Ja ?_;refine at_ret (v:=.bool _) rfl ?_;refine ⟨congrArg Value.bool ?_,(Ext.refl _)⟩;rotate_left;refine Kt ?_;refine Ke <| Ke ?_
  refine Kc rfl <| Wo rfl (Ka (v:=v) rfl) <| Wo rfl (Ko Tryz.underlying23 rfl h) <| Wo rfl (Ka (v:=.int _ _) rfl) <| Kd <| Kr ?_;rotate_left
 ·exact (decide_eq_false (fun ⟨_,h3,_⟩=>by omega)).symm
 ·exact (decide_eq_false (fun ⟨h3,_⟩=>by omega)).symm
 ·refine Jh [2,4,15,16,17,18,19,20,21,22,23,24] (fun (k:Nat)=>[(15,.int .i64 (k:Nat))]) (fun k w'=>Ext w w'∧k≤p.length∧∀ r ∈ p.take k,r.length=p.length∧Bits r) (fun x=>p.length - x) 0 (by repeat (first | exact trivial | refine And.intro rfl ?_)) ?_ ?_
  ·exact ⟨Ext.refl _,Nat.zero_le _,by simp⟩
  rintro k ρj w1 ⟨E1,hk,hb⟩
  focus
   have szE1:=E1.size;refine Ke <| Kc rfl <| Wo rfl (Ks rfl rfl) <| Kd <| Ke <| Kg rfl (fun h3=>?_) (fun h3=>?_);refine Kt ?_;refine Ke ?_
   refine Kr <| Ke <| Kc rfl <| Ji Tryz.underlying23 Tryz.sizeOf88 Tryz.isAgg88 rfl (fun _=>rfl) rfl h E1 rfl (by first | omega | (simp <;> omega)) ?_;rintro _ u1 hu1
   refine Wo rfl (Kb (v:=u1) rfl) <| Kd <| Ke <| Kc rfl <| Wo rfl (Ka (v:=u1) rfl) <| Wo rfl (Ka (v:=v) rfl) ?_
   refine Wo rfl (Ko Tryz.underlying23 rfl h) <| Kj rfl (Jn (a:=u1) (b:=.int _ _) Tryz.call129 rfl rfl) (areBits_ok _ _ _ ((Mono.mono E1 hu1)) _) ?_;rintro _ w2 ⟨rfl,E2⟩;have hs1:=E2.size
   refine Wo rfl (Jf rfl) <| Kd <| Jj rfl (fun h4=>?_) (fun h4=>?_);refine Ke <| Kc rfl <| Wo rfl (Kb (v:=.bool _) rfl) <| Kd <| Ja ?_
   refine at_ret (v:=.bool _) rfl ?_;refine ⟨congrArg Value.bool ?_,(E1.trans E2)⟩;rotate_left;refine Kt ?_;refine Kc rfl <| Wo rfl (Kw rfl rfl (by omega)) ?_
   refine Wo rfl (Ka (v:=.int _ _) rfl) <| Kd ?_;rotate_left;refine Jg ?_;refine exitX_same ?_;refine Ke <| Kc rfl <| Wo rfl (Kb (v:=.bool _) rfl) <| Kd ?_
   refine Ja ?_;refine at_ret (v:=.bool _) rfl ?_;refine ⟨congrArg Value.bool ?_,E1⟩;rotate_left
  ·refine (decide_eq_false ?_).symm
   rintro ⟨_,_,h9⟩
   have:=h9 _ (List.getElem_mem (show k < p.length by omega))
   have hx : ¬(Bits p[k]∧(p[k].length:Int)=(p.length:Int)):=by assumption
   exact hx ⟨this.2,by omega⟩
  ·refine ⟨(k+1),by repeat (first | exact trivial | refine And.intro rfl ?_),by repeat (first | with_reducible exact Same.refl | refine Same.upd rfl ?_ | refine Same.upds rfl ?_ | refine Same.mix rfl ?_),?_,?_⟩
   ·refine ⟨E1.trans E2,by omega,?_⟩
    rw [take_snoc _ _ (by omega)]
    intro r hr
    rcases List.mem_append.1 hr with hr | hr
    ·exact hb r hr
    ·rw [List.mem_singleton.1 hr]
     have hx:Bits p[k]∧(p[k].length:Int)=(p.length:Int):=by assumption
     exact ⟨by omega,hx.1⟩
   ·omega
  ·obtain rfl:k=p.length:=by omega
   exact (decide_eq_true ⟨by omega,by omega,by simpa [Bits] using hb⟩).symm
theorem hasNode_ok (w:World) (v:Value) (p:List (List Int)) (h:ESl Ints w v p) (z:Int):Does Tryz.prog 94 [v,.int .i64 z] w (Ret w (.bool (decide (Nod p z)))):=by
 have hle:=h.le
 refine Jc Tryz.func94 rfl Tryz.results94 Tryz.ntmps94 rfl ?_
 focus
  refine Ke <| Kc rfl <| Wo rfl (Kb (v:=.bool _) rfl) <| Kd <| Ke <| Kc rfl <| Wo rfl (Ka (v:=v) rfl) ?_
  refine Kj rfl (Jk (a:=v) Tryz.call78 rfl) (isPicture_ok _ _ _ (h)) ?_;rintro _ w1 ⟨rfl,E1⟩;have hs1:=E1.size;refine Kv rfl (Ka (v:=.bool _) rfl) (fun h1=>?_) (fun h1=>?_)
  refine Wo rfl (Ka (v:=.int _ _) rfl) <| Wo rfl (opv_geq rfl rfl) <| Wo rfl (Kz (v:=.bool _) rfl rfl) <| Kv rfl (Ka (v:=.bool _) rfl) (fun h2=>?_) (fun h2=>?_)
  refine Wo rfl (Ka (v:=.int _ _) rfl) <| Wo rfl (Ka (v:=v) rfl) <| Wo rfl (Ko Tryz.underlying23 rfl h) <| Wo rfl (Ks rfl rfl) <| Wo rfl (Kz (v:=.bool _) rfl rfl) ?_
  refine Wo rfl (Kb (v:=.bool _) rfl) <| Kd <| Ja ?_;refine at_ret (v:=.bool _) rfl ?_;refine ⟨congrArg Value.bool ?_,E1⟩;rotate_left;refine Ki rfl <| Ki rfl ?_
  refine Ki rfl <| Ki rfl <| Wo rfl (Kn (v:=.bool _) rfl rfl) <| Wo rfl (Kb (v:=.bool _) rfl) <| Kd <| Ja ?_;refine at_ret (v:=.bool _) rfl ?_
  refine ⟨congrArg Value.bool ?_,E1⟩;rotate_left;refine Ki rfl <| Ki rfl <| Wo rfl (Kn (v:=.bool _) rfl rfl) <| Wo rfl (Ka (v:=.bool _) rfl) <| Ki rfl ?_
  refine Ki rfl <| Ki rfl <| Ki rfl <| Wo rfl (Kn (v:=.bool _) rfl rfl) <| Wo rfl (Kb (v:=.bool _) rfl) <| Kd <| Ja ?_
  refine at_ret (v:=.bool _) rfl ?_;refine ⟨congrArg Value.bool ?_,E1⟩;rotate_left
 ·exact decide_eq_decide.2 ⟨fun h=>⟨by assumption,by assumption,h⟩,fun h=>h.2.2⟩
 ·exact (decide_eq_false (fun ⟨_,h,_⟩=>by omega)).symm
 ·exact (decide_eq_false (fun ⟨h,_⟩=>by contradiction)).symm
theorem PictureOk_ok (w:World) (v:Value) (p:List (List Int)) (h:ESl Ints w v p):Does Tryz.prog 115 [v] w (Ret w (.bool (decide (Pic p)))):=by
 have hle:=h.le
 refine Jc Tryz.func115 rfl Tryz.results115 Tryz.ntmps115 rfl ?_
 focus
  refine Ke <| Kc rfl <| Wo rfl (Kb (v:=.bool _) rfl) <| Kd <| Ke <| Ke <| Kc rfl <| Wo rfl (Kb (v:=.int _ _) rfl) ?_
  refine Kd <| Kr ?_
 refine Jh [2,3,4,5,6,7,8,9,10,11,12,13,14,15,16,17,18,19,20,21,22,23,24,25,26,27,28,29,30,31,32,33] (fun (k:Nat)=>[(3,.int .i64 (k:Nat))]) (fun k w'=>Ext w w'∧k≤p.length∧∀ r ∈ p.take k,r.length=p.length∧Bits r) (fun x=>p.length - x) 0 (by repeat (first | exact trivial | refine And.intro rfl ?_)) ?_ ?_
 ·exact ⟨Ext.refl _,Nat.zero_le _,by simp⟩
 rintro k ρj w1 ⟨E1,hk,hb⟩
 by_cases hlt:k < p.length
 ·focus
   have szE1:=E1.size;refine Ke <| Ke <| Kc rfl <| Wo rfl (Ka (v:=.int _ _) rfl) <| Wo rfl (Ka (v:=v) rfl) <| Wo rfl (Ko Tryz.underlying23 rfl h) ?_
   refine Wo rfl (Ks rfl rfl) <| Kd <| Kg rfl (fun h1=>?_) (fun h1=>?_);refine Kt ?_;refine Ke <| Kr <| Ke <| Ke <| Kc rfl ?_
   refine Wo rfl (Ka (v:=v) rfl) <| Wo rfl (Ka (v:=.int _ _) rfl) <| Ji Tryz.underlying23 Tryz.sizeOf88 Tryz.isAgg88 rfl (fun _=>rfl) rfl h E1 rfl (by first | omega | (simp <;> omega)) ?_
   rintro _ u1 hu1;refine Wo rfl (Ko Tryz.underlying88 rfl hu1) <| Wo rfl (Ka (v:=v) rfl) <| Wo rfl (Ko Tryz.underlying23 rfl h) <| Wo rfl (Gb rfl rfl) <| Kd ?_
   refine Jj rfl (fun h2=>?_) (fun h2=>?_);refine Ke <| Kc rfl <| Wo rfl (Kb (v:=.bool _) rfl) <| Kd <| Ja ?_;refine at_ret (v:=.bool _) rfl ?_
   refine ⟨congrArg Value.bool ?_,E1⟩;rotate_left;refine Kt ?_;refine Ke <| Kc rfl <| Wo rfl (Kb (v:=.int _ _) rfl) <| Kd <| Kr ?_;rotate_left;(exfalso;omega)
  ·refine (decide_eq_false ?_).symm
   rintro ⟨_,_,h9⟩
   have:=(h9 _ (List.getElem_mem hlt)).1
   omega
  refine Jh [2,4,19,20,21,22,23,24,25,26,27,28,29,30,31,32,33] (fun (j:Nat)=>[(4,.int .i64 (j:Nat))]) (fun j w'=>Ext w w'∧j≤p.length∧Bits (p[k].take j)) (fun x=>p.length - x) 0 (by repeat (first | exact trivial | refine And.intro rfl ?_)) ?_ ?_
  ·exact ⟨E1,Nat.zero_le _,by simp [Bits]⟩
  rintro j ρi w2 ⟨E2,hj,hbj⟩
  focus
   have szE2:=E2.size;have szE1:=E1.size;refine Ke <| Ke <| Kc rfl <| Wo rfl (Ka (v:=.int _ _) rfl) <| Wo rfl (Ka (v:=v) rfl) ?_
   refine Wo rfl (Ko Tryz.underlying23 rfl h) <| Wo rfl (Ks rfl rfl) <| Kd <| Kg rfl (fun h3=>?_) (fun h3=>?_);refine Kt ?_;refine Ke <| Kr <| Ke ?_
   refine Kc rfl <| Wo rfl (Ka (v:=v) rfl) <| Wo rfl (Ka (v:=.int _ _) rfl) ?_
   refine Ji Tryz.underlying23 Tryz.sizeOf88 Tryz.isAgg88 rfl (fun _=>rfl) rfl h E2 rfl (by first | omega | (simp <;> omega)) ?_;rintro _ u2 hu2;refine Wo rfl (Ka (v:=.int _ _) rfl) ?_
   refine Ji Tryz.underlying88 Tryz.sizeOf3 Tryz.isAgg3 rfl (fun _=>rfl) rfl hu2 E2 rfl (by first | omega | (simp <;> omega)) ?_;rintro _ _ rfl
   refine Kj rfl (opc3 (a:=.int _ _) (b:=.int _ _) (c:=.int _ _) Tryz.call116 rfl rfl rfl) (l1In_ok _ _ _ _) ?_;rintro _ w3 ⟨rfl,E3⟩;have hs1:=E3.size;refine Wo rfl (Jf rfl) <| Kd ?_
   refine Jj rfl (fun h4=>?_) (fun h4=>?_);refine Ke <| Kc rfl <| Wo rfl (Kb (v:=.bool _) rfl) <| Kd <| Ja ?_;refine at_ret (v:=.bool _) rfl ?_
   refine ⟨congrArg Value.bool ?_,(E2.trans E3)⟩;rotate_left;refine Kt ?_;refine Kc rfl <| Wo rfl (Ka (v:=.int _ _) rfl) <| Wo rfl (Kw rfl rfl (by omega)) ?_
   refine Wo rfl (Kb (v:=.int _ _) rfl) <| Kd ?_;rotate_left;refine Jg ?_;refine exitX_same ?_;refine Kc rfl <| Wo rfl (Ka (v:=.int _ _) rfl) ?_
   refine Wo rfl (Kw rfl rfl (by omega)) ?_;refine Wo rfl (Kb (v:=.int _ _) rfl) <| Kd ?_;rotate_left
  ·refine (decide_eq_false ?_).symm
   rintro ⟨_,_,h9⟩
   have:=(h9 _ (List.getElem_mem hlt)).2 _ (List.getElem_mem (show j < p[k].length by omega))
   omega
  ·refine ⟨(j+1),by repeat (first | exact trivial | refine And.intro rfl ?_),by repeat (first | with_reducible exact Same.refl | refine Same.upd rfl ?_ | refine Same.upds rfl ?_ | refine Same.mix rfl ?_),?_,?_⟩
   ·refine ⟨E2.trans E3,by omega,?_⟩
    rw [take_snoc _ _ (by omega)]
    intro x hx
    rcases List.mem_append.1 hx with hx | hx
    ·exact hbj x hx
    ·rw [List.mem_singleton.1 hx];omega
   ·omega
  ·refine ⟨(k+1),by repeat (first | exact trivial | refine And.intro rfl ?_),by repeat (first | with_reducible exact Same.refl | refine Same.upd rfl ?_ | refine Same.upds rfl ?_ | refine Same.mix rfl ?_),?_,?_⟩
   ·refine ⟨E2,by omega,?_⟩
    rw [take_snoc _ _ (by omega)]
    intro r hr
    rcases List.mem_append.1 hr with hr | hr
    ·exact hb r hr
    ·rw [List.mem_singleton.1 hr]
     obtain rfl:j=p.length:=by omega
     refine ⟨by omega,?_⟩
     have e:p[k].take p.length=p[k]:=List.take_of_length_le (by omega)
     rw [e] at hbj
     exact hbj
   ·omega
 ·obtain rfl:k=p.length:=by omega
  focus
   have szE1:=E1.size;refine Ke <| Ke <| Kc rfl <| Wo rfl (Ka (v:=.int _ _) rfl) <| Wo rfl (Ka (v:=v) rfl) <| Wo rfl (Ko Tryz.underlying23 rfl h) ?_
   refine Wo rfl (Ks rfl rfl) <| Kd <| Kg rfl (fun h1=>?_) (fun h1=>?_);(exfalso;omega);refine Jg ?_;refine exitX_same ?_;refine Ke <| Kc rfl ?_
   refine Wo rfl (Ka (v:=v) rfl) <| Wo rfl (Ko Tryz.underlying23 rfl h) <| Kj rfl (opc3 (a:=.int _ _) (b:=.int _ _) (c:=.int _ _) Tryz.call116 rfl rfl rfl) (l1In_ok _ _ _ _) ?_
   rintro _ w2 ⟨rfl,E2⟩;have hs1:=E2.size;refine Wo rfl (Kb (v:=.bool _) rfl) <| Kd <| Ja ?_;refine at_ret (v:=.bool _) rfl ?_;refine ⟨congrArg Value.bool ?_,(E1.trans E2)⟩
  have hb' : ∀ r ∈ p,r.length=p.length∧Bits r:=by simpa using hb
  exact decide_eq_decide.2 ⟨fun h=>⟨by omega,by omega,hb'⟩,fun ⟨h3,h4,_⟩=>by omega⟩
theorem NodeOk_ok (w:World) (v:Value) (p:List (List Int)) (h:ESl Ints w v p) (z:Int):Does Tryz.prog 118 [v,.int .i64 z] w (Ret w (.bool (decide (Nod p z)))):=by
 have hle:=h.le
 refine Jc Tryz.func118 rfl Tryz.results118 Tryz.ntmps118 rfl ?_
 focus
  refine Ke <| Kc rfl <| Wo rfl (Kb (v:=.bool _) rfl) <| Kd <| Ke <| Kc rfl <| Wo rfl (Ka (v:=v) rfl) ?_
  refine Kj rfl (Jk (a:=v) Tryz.call115 rfl) (PictureOk_ok _ _ _ (h)) ?_;rintro _ w1 ⟨rfl,E1⟩;have hs1:=E1.size;refine Kv rfl (Ka (v:=.bool _) rfl) (fun h1=>?_) (fun h1=>?_)
  refine Wo rfl (Ka (v:=.int _ _) rfl) <| Wo rfl (Ka (v:=v) rfl) <| Wo rfl (Ko Tryz.underlying23 rfl h) <| Wo rfl (opv_sub rfl rfl (by omega)) ?_
  refine Kj rfl (opc3 (a:=.int _ _) (b:=.int _ _) (c:=.int _ _) Tryz.call116 rfl rfl rfl) (l1In_ok _ _ _ _) ?_;rintro _ w2 ⟨rfl,E2⟩;have hs2:=E2.size;refine Wo rfl (Kz (v:=.bool _) rfl rfl) ?_
  refine Wo rfl (Kb (v:=.bool _) rfl) <| Kd <| Ja ?_;refine at_ret (v:=.bool _) rfl ?_;refine ⟨congrArg Value.bool ?_,(E1.trans E2)⟩;rotate_left;refine Ki rfl <| Ki rfl ?_
  refine Ki rfl <| Ki rfl <| Ki rfl <| Wo rfl (Kn (v:=.bool _) rfl rfl) <| Wo rfl (Kb (v:=.bool _) rfl) <| Kd <| Ja ?_
  refine at_ret (v:=.bool _) rfl ?_;refine ⟨congrArg Value.bool ?_,E1⟩;rotate_left
 ·exact decide_eq_decide.2 ⟨fun h=>⟨by assumption,by omega,by omega⟩,fun h=>⟨h.2.1,by have:=h.2.2;omega⟩⟩
 ·exact (decide_eq_false (fun ⟨h,_⟩=>by contradiction)).symm
theorem arrowsOf_ok (w:World) (v:Value) (p:List (List Int)) (h:ESl Ints w v p) (z:Int) (hz:0≤z∧z < p.length) (hn:(p.getD z.toNat []).length≤1099511627776) :
  Does Tryz.prog 130 [v,.int .i64 z] w (RetO w XI (ints (arr p z.toNat))):=by
 have hle:=h.le
 have hzl:z.toNat < p.length:=by omega
 unfold arr
 rw [getD_lt hzl] at hn ⊢
 refine Jc Tryz.func130 rfl Tryz.results130 Tryz.ntmps130 rfl ?_
 focus
  refine Ke <| Kc rfl <| Wo rfl (Kb (v:=.slice _ _ _) rfl) <| Kd <| Ke <| Kc rfl <| Js XInt rfl el88 Tryz.sizeOf3 ?_;rintro b1 w1 hb1 b1lt E1 hO1
  have hs1:=E1.size;refine Wo rfl (Kb (v:=.slice _ _ _) rfl) <| Kd <| Ke <| Ke <| Kc rfl <| Wo rfl (Ka (v:=v) rfl) ?_
  refine Wo rfl (Ka (v:=.int _ _) rfl) <| Wo_get_z Tryz.underlying23 Tryz.sizeOf88 Tryz.isAgg88 rfl (fun _=>rfl) rfl h E1 rfl (by first | omega | (simp <;> omega)) ?_;rintro _ u1 hu1
  refine Wo rfl (Ko Tryz.underlying88 rfl hu1) <| Wo rfl (Ka (v:=.int _ _) rfl) <| Kd <| Kr ?_
 refine Jh [5,6,7,14,15,16,17,18,19,20,21,22,23,24,25] (fun (k,u)=>[(14,.int .i64 (k:Nat)),(5,u)]) (fun (k,u) w'=>Ext w w'∧k≤p[z.toNat].length∧Owned w.heap.size XI w' u (ints ((List.range k).filter fun j=>decide (p[z.toNat].getD j 0=1)))) (fun x=>p[z.toNat].length - x.1) (0,.slice (some ⟨b1,0,none⟩) 0 0) (by repeat (first | exact trivial | refine And.intro rfl ?_)) ?_ ?_
 ·exact ⟨by assumption,Nat.zero_le _,by simpa [ints] using hO1⟩
 rintro ⟨k,u⟩ ρj w2 ⟨E2,hk,hO2⟩
 have hll:(ints ((List.range k).filter fun j=>decide (p[z.toNat].getD j 0=1))).length≤k:=by
  simp only [ints,List.length_map];exact Nat.le_trans (List.length_filter_le _ _) (by simp)
 have hfs:=filter_range_succ (fun j=>decide (p[z.toNat].getD j 0=1)) k
 focus
  have szE2:=E2.size;have szE1:=E1.size;refine Ke <| Kc rfl <| Wo rfl (Ks rfl rfl) <| Kd <| Ke <| Kg rfl (fun h1=>?_) (fun h1=>?_);refine Kt ?_
  refine Ke <| Kr <| Ke <| Kc rfl <| Wo rfl (Ka (v:=.int _ _) rfl) ?_
  refine Ji Tryz.underlying88 Tryz.sizeOf3 Tryz.isAgg3 rfl (fun _=>rfl) rfl hu1 E2 rfl (by first | omega | (simp <;> omega)) ?_;rintro _ _ rfl;refine Wo rfl (Kb (v:=.int _ _) rfl) ?_
  refine Wo rfl (Kb (v:=.int _ _) rfl) <| Kd <| Ke <| Kc rfl <| Wo rfl (Ka (v:=.int _ _) rfl) <| Wo rfl (Kx rfl rfl) <| Kd ?_
  refine Kg rfl (fun h2=>?_) (fun h2=>?_);refine Kc rfl <| Wo rfl (Ka (v:=u) rfl) <| Wo rfl (Ka (v:=.int _ _) rfl) ?_
  refine Ju (ps:=[(0,.int _ _)]) (cs:=[_]) rfl Tryz.underlying88 Tryz.sizeOf3 Tryz.zeroValue3 rfl rfl rfl rfl ?_;rintro b2 w3 hb2 E3 hB1;have hlb2:=hB1.lt;have hs2:=E3.size
  refine Jv rfl el88 rfl rfl hB1 (hO2.toB.ext E3) Owned.int (Nat.le_refl _) (by first | omega | (simp <;> omega)) (by omega) (by omega) (E2.trans E3) (by omega) ?_;have hT1:=(hO2.toB.ext E3);rintro v1 w4 hO2 E4 M1
  have hB1:=hB1.moves M1 hT1 (by omega);have hs3:=E4.size;refine Wo rfl (Kb (v:=v1) rfl) <| Kd <| Kc rfl <| Wo rfl (Kw rfl rfl (by omega)) ?_
  refine Wo rfl (Ka (v:=.int _ _) rfl) <| Kd ?_;rotate_left;refine Kt ?_;refine Kc rfl <| Wo rfl (Kw rfl rfl (by omega)) ?_;refine Wo rfl (Ka (v:=.int _ _) rfl) ?_
  refine Kd ?_;rotate_left;refine Jg ?_;refine exitX_same ?_;refine Ke <| Kc rfl <| Wo rfl (Ka (v:=u) rfl) <| Wo rfl (Kb (v:=u) rfl) <| Kd <| Ja ?_
  refine ⟨E2,(congrArg (Owned _ _ _ _) ?_).mp (hO2.toB.o.mono (by omega))⟩;rotate_left
 ·refine ⟨((k+1,v1)),by repeat (first | exact trivial | refine And.intro rfl ?_),by repeat (first | with_reducible exact Same.refl | refine Same.upd rfl ?_ | refine Same.upds rfl ?_ | refine Same.mix rfl ?_),?_,?_⟩
  ·refine ⟨by assumption,by omega,?_⟩
   rw [hfs,getD_lt (by omega),if_pos (by simpa using by assumption)]
   simpa [ints] using hO2
  ·simp only;omega
 ·refine ⟨((k+1,u)),by repeat (first | exact trivial | refine And.intro rfl ?_),by repeat (first | with_reducible exact Same.refl | refine Same.upd rfl ?_ | refine Same.upds rfl ?_ | refine Same.mix rfl ?_),?_,?_⟩
  ·refine ⟨E2,by omega,?_⟩
   rw [hfs,getD_lt (by omega),if_neg (by simpa using by assumption)]
   simpa [ints] using hO2
  ·simp only;omega
 ·obtain rfl:k=p[z.toNat].length:=by omega
  rfl
end Go.Proofs.YtbgpppaljpngmaaGreatDoor
namespace Go.Hs
end Go.Hs
namespace Go.Proofs.YtbgpppaljpngmaaGreatDoor
open Go.Hs
set_option maxRecDepth 10000
set_option maxHeartbeats 4000000
set_option linter.unusedVariables false
set_option linter.unusedSimpArgs false
theorem l3Matched_ok (w:World) (v v':Value) (p:List (List Int)) (h:ESl Ints w v p) (hp:Gr p) (S:Nat→Nat→Bool) (h':ESl Ints w v' (matV p S)) (a b:Nat) (ha:a < p.length) (hb:b < p.length) :
  Does Tryz.prog 220 [v,v',.int .i64 (a:Int),.int .i64 (b:Int)] w (Ret w (.bool (mch p S a b))):=by
 have hp5:=hp.2.1
 have hra:=hp.row ha
 have hrb:=hp.row hb
 have hml:=matV_len (p:=p) S
 have hall:mch p S a b=(List.range p.length).all fun j=>!decide (p[a].getD j 0=1) || (arr p b).any fun j'=>S j j':=arr_all hp ha _
 refine Jc Tryz.func220 rfl Tryz.results220 Tryz.ntmps220 rfl ?_
 focus
  refine Ke <| Kc rfl <| Wo rfl (Kb (v:=.bool _) rfl) <| Kd <| Ke <| Ke <| Kc rfl <| Wo rfl (Kb (v:=.int _ _) rfl) ?_
  refine Kd <| Kr ?_
 refine Jh [8,9,10,11,12,13,14,15,16,17,18,19,20,21,22,23,24,25,26,27,28,29,30,31,32,33,34,35,36,37,38,39,40,41,42,43,44,45,46,47,48,49,50,51,52,53,54] (fun (k:Nat)=>[(9,.int .i64 (k:Nat))]) (fun k w'=>Ext w w'∧k≤p.length∧((List.range k).all fun j=>!decide (p[a].getD j 0=1) || (arr p b).any fun j'=>S j j')=true) (fun x=>p.length - x) 0 (by repeat (first | exact trivial | refine And.intro rfl ?_)) ?_ ?_
 ·exact ⟨Ext.refl _,Nat.zero_le _,by simp⟩
 rintro k ρj w1 ⟨E1,hk,hg⟩
 by_cases hkl:k < p.length
 ·have hga:=getD_lt (l:=p[a]) (i:=k) (d:=0) (by omega)
  have h01:=hp.el01 ha (j:=k) (by omega)
  have hsu:=all_range_succ (fun j=>!decide (p[a].getD j 0=1) || (arr p b).any fun j'=>S j j') k
  have hany:((arr p b).any fun j'=>S k j')=(List.range p.length).any fun j=>decide (p[b].getD j 0=1) && S k j:=arr_any' hp hb _
  have hmr:=matV_rlen (p:=p) (S:=S) hkl
  rw [hg,Bool.true_and,hga] at hsu
  focus
   have szE1:=E1.size;refine Ke <| Ke <| Kc rfl <| Wo rfl (Ka (v:=.int _ _) rfl) <| Wo rfl (Ka (v:=v) rfl) <| Wo rfl (Ko Tryz.underlying23 rfl h) ?_
   refine Wo rfl (Ks rfl rfl) <| Kd <| Kg rfl (fun h1=>?_) (fun h1=>?_);refine Kt ?_;refine Ke <| Kr <| Ke <| Ke <| Kc rfl ?_
   refine Wo rfl (Ka (v:=v) rfl) <| Wo rfl (Ka (v:=.int _ _) rfl) <| Ji Tryz.underlying23 Tryz.sizeOf88 Tryz.isAgg88 rfl (fun _=>rfl) rfl h E1 rfl (by first | omega | (simp <;> omega)) ?_
   rintro _ u1 hu1;refine Wo rfl (Ka (v:=.int _ _) rfl) <| Ji Tryz.underlying88 Tryz.sizeOf3 Tryz.isAgg3 rfl (fun _=>rfl) rfl hu1 E1 rfl (by first | omega | (simp <;> omega)) ?_;rintro _ _ rfl
   refine Wo rfl (Kx rfl rfl) <| Kd <| Kg rfl (fun h2=>?_) (fun h2=>?_);refine Jg ?_;refine exitX_same ?_;refine Kc rfl <| Wo rfl (Ka (v:=.int _ _) rfl) ?_
   refine Wo rfl (Kw rfl rfl (by omega)) ?_;refine Wo rfl (Kb (v:=.int _ _) rfl) <| Kd ?_;rotate_left;refine Kt ?_;refine Ke <| Kc rfl ?_
   refine Wo rfl (Kb (v:=.bool _) rfl) <| Kd <| Ke <| Ke <| Kc rfl <| Wo rfl (Kb (v:=.int _ _) rfl) <| Kd <| Kr ?_;rotate_left
   (exfalso;omega)
  ·refine ⟨(k+1),by repeat (first | exact trivial | refine And.intro rfl ?_),by repeat (first | with_reducible exact Same.refl | refine Same.upd rfl ?_ | refine Same.upds rfl ?_ | refine Same.mix rfl ?_),?_,?_⟩
   ·refine ⟨E1,by omega,?_⟩
    rw [hsu,decide_eq_false (by omega)];rfl
   ·omega
  ·have h1:p[a][k]=1:=by omega
   rw [decide_eq_true h1,Bool.not_true,Bool.false_or,hany] at hsu
   refine Jh [10,11,26,27,28,29,30,31,32,33,34,35,36,37,38,39,40,41,42,43,44,45,46,47,48,49,50,51,52] (fun (j,f)=>[(10,.bool f),(11,.int .i64 (j:Nat))]) (fun (j,f) w'=>Ext w1 w'∧j≤p.length∧f=(List.range j).any fun j=>decide (p[b].getD j 0=1) && S k j) (fun x=>p.length - x.1) (0,false) (by repeat (first | exact trivial | refine And.intro rfl ?_)) ?_ ?_
   ·exact ⟨Ext.refl _,Nat.zero_le _,by simp⟩
   rintro ⟨j,f⟩ ρk w2 ⟨E2,hj,hf⟩
   by_cases hjl:j < p.length
   ·have hgb:=getD_lt (l:=p[b]) (i:=j) (d:=0) (by omega)
    have hsj:=any_range_succ' (fun j=>decide (p[b].getD j 0=1) && S k j) j
    rw [← hf,hgb] at hsj
    have hme:=matV_at (p:=p) (S:=S) hkl hjl
    cases f with
    | true =>
      focus
        have szE2 := E2.size; have szE1 := E1.size; refine Ke <| Ke <| Kc rfl <| Wo rfl (Ka (v := .int _ _) rfl) <| Wo rfl (Ka (v := v) rfl) ?_
        refine Wo rfl (Ko Tryz.underlying23 rfl h) <| Wo rfl (Ks rfl rfl) <| Kd <| Kg rfl (fun h3 => ?_) (fun h3 => ?_); refine Kt ?_; refine Ke <| Kr ?_
        refine Kc rfl <| Wo rfl (Ka (v := .bool _) rfl) <| Wo rfl (Ka (v := .bool _) rfl) <| Ki rfl <| Ki rfl <| Ki rfl <| Ki rfl ?_
        refine Ki rfl <| Ki rfl <| Ki rfl <| Ki rfl <| Ki rfl <| Ki rfl <| Ki rfl <| Ki rfl <| Ki rfl <| Ki rfl ?_
        refine Ki rfl <| Ki rfl <| Ki rfl <| Ki rfl <| Wo rfl (Kz (v := .bool _) rfl rfl) <| Wo rfl (Kb (v := .bool _) rfl) <| Kd ?_
        refine Kc rfl <| Wo rfl (Ka (v := .int _ _) rfl) <| Wo rfl (Kw rfl rfl (by omega)) ?_; refine Wo rfl (Kb (v := .int _ _) rfl) <| Kd ?_; rotate_left; (exfalso; omega)
      refine ⟨((j + 1, true)), by repeat (first | exact trivial | refine And.intro rfl ?_), by repeat (first | with_reducible exact Same.refl | refine Same.upd rfl ?_ | refine Same.upds rfl ?_ | refine Same.mix rfl ?_), ?_, ?_⟩
      · exact ⟨E2, by omega, by rw [hsj]; rfl⟩
      · simp only; omega
    | false =>
      focus
        have szE2 := E2.size; have szE1 := E1.size; refine Ke <| Ke <| Kc rfl <| Wo rfl (Ka (v := .int _ _) rfl) <| Wo rfl (Ka (v := v) rfl) ?_
        refine Wo rfl (Ko Tryz.underlying23 rfl h) <| Wo rfl (Ks rfl rfl) <| Kd <| Kg rfl (fun h3 => ?_) (fun h3 => ?_); refine Kt ?_; refine Ke <| Kr ?_
        refine Kc rfl <| Wo rfl (Ka (v := .bool _) rfl) <| Wo rfl (Ka (v := .bool _) rfl) <| Wo rfl (Ka (v := v) rfl) <| Wo rfl (Ka (v := .int _ _) rfl) ?_
        refine Ji Tryz.underlying23 Tryz.sizeOf88 Tryz.isAgg88 rfl (fun _ => rfl) rfl h (E1.trans E2) rfl (by first | omega | (simp <;> omega)) ?_; rintro _ u2 hu2; refine Wo rfl (Ka (v := .int _ _) rfl) ?_
        refine Ji Tryz.underlying88 Tryz.sizeOf3 Tryz.isAgg3 rfl (fun _ => rfl) rfl hu2 (E1.trans E2) rfl (by first | omega | (simp <;> omega)) ?_; rintro _ _ rfl; refine Wo rfl (Kx rfl rfl) ?_
        refine Kv rfl (Ka (v := .bool _) rfl) (fun h4 => ?_) (fun h4 => ?_); refine Wo rfl (Ka (v := v') rfl) <| Wo rfl (Ka (v := .int _ _) rfl) ?_
        refine Ji Tryz.underlying23 Tryz.sizeOf88 Tryz.isAgg88 rfl (fun _ => rfl) rfl h' (E1.trans E2) rfl (by first | omega | (simp <;> omega)) ?_; rintro _ u3 hu3; refine Wo rfl (Ka (v := .int _ _) rfl) ?_
        refine Ji Tryz.underlying88 Tryz.sizeOf3 Tryz.isAgg3 rfl (fun _ => rfl) rfl hu3 (E1.trans E2) rfl (by first | omega | (simp <;> omega)) ?_; rintro _ _ rfl; refine Wo rfl (Kx rfl rfl) ?_
        refine Wo rfl (Kz (v := .bool _) rfl rfl) <| Wo rfl (Kn (v := .bool _) rfl rfl) <| Wo rfl (Kb (v := .bool _) rfl) <| Kd <| Kc rfl ?_
        refine Wo rfl (Ka (v := .int _ _) rfl) <| Wo rfl (Kw rfl rfl (by omega)) ?_; refine Wo rfl (Kb (v := .int _ _) rfl) <| Kd ?_; rotate_left; refine Ki rfl <| Ki rfl ?_
        refine Ki rfl <| Ki rfl <| Ki rfl <| Ki rfl <| Ki rfl <| Ki rfl <| Wo rfl (Kn (v := .bool _) rfl rfl) ?_
        refine Wo rfl (Kn (v := .bool _) rfl rfl) <| Wo rfl (Kb (v := .bool _) rfl) <| Kd <| Kc rfl <| Wo rfl (Ka (v := .int _ _) rfl) ?_
        refine Wo rfl (Kw rfl rfl (by omega)) ?_; refine Wo rfl (Kb (v := .int _ _) rfl) <| Kd ?_; rotate_left; (exfalso; omega)
      · refine ⟨((j + 1, decide (((matV p S)[k]'(by omega))[j]'(by omega) = 1))), by repeat (first | exact trivial | refine And.intro rfl ?_), by repeat (first | with_reducible exact Same.refl | refine Same.upd rfl ?_ | refine Same.upds rfl ?_ | refine Same.mix rfl ?_), ?_, ?_⟩
        · refine ⟨E2, by omega, ?_⟩
          rw [hsj, show decide (p[b][j] = 1) = true from decide_eq_true (by assumption), hme]
          cases S k j <;> rfl
        · simp only; omega
      · refine ⟨((j + 1, false)), by repeat (first | exact trivial | refine And.intro rfl ?_), by repeat (first | with_reducible exact Same.refl | refine Same.upd rfl ?_ | refine Same.upds rfl ?_ | refine Same.mix rfl ?_), ?_, ?_⟩
        · refine ⟨E2, by omega, ?_⟩
          rw [hsj, decide_eq_false (by assumption)]; rfl
        · simp only; omega
   ·obtain rfl:j=p.length:=by omega
    rw [← hf] at hsu
    focus
     have szE2:=E2.size;have szE1:=E1.size;refine Ke <| Ke <| Kc rfl <| Wo rfl (Ka (v:=.int _ _) rfl) <| Wo rfl (Ka (v:=v) rfl) ?_
     refine Wo rfl (Ko Tryz.underlying23 rfl h) <| Wo rfl (Ks rfl rfl) <| Kd <| Kg rfl (fun h3=>?_) (fun h3=>?_);(exfalso;omega);refine Jg ?_;refine exitX_same ?_;refine Ke ?_
     refine Kc rfl <| Wo rfl (Ka (v:=.bool _) rfl) <| Wo rfl (Jf rfl) <| Kd <| Jx rfl (fun h4=>?_) (fun h4=>?_);refine Ke <| Kc rfl ?_
     refine Wo rfl (Kb (v:=.bool _) rfl) <| Kd <| Ja ?_;refine at_ret (v:=.bool _) rfl ?_;refine ⟨congrArg Value.bool ?_,(E1.trans E2)⟩;rotate_left;refine Kt ?_;refine Kc rfl ?_
     refine Wo rfl (Ka (v:=.int _ _) rfl) <| Wo rfl (Kw rfl rfl (by omega)) ?_;refine Wo rfl (Kb (v:=.int _ _) rfl) <| Kd ?_;rotate_left
    ·have hf0:f=false:=by cases f with
      | false=>rfl
      | true=>exact absurd (show (!true)=true by assumption) (by decide)
     rw [hall,all_false (show k+1≤p.length by omega) (hsu.trans hf0)]
    ·have hf1:f=true:=by cases f with
      | true=>rfl
      | false=>exact absurd (show (!false)=false by assumption) (by decide)
     refine ⟨(k+1),by repeat (first | exact trivial | refine And.intro rfl ?_),by repeat (first | with_reducible exact Same.refl | refine Same.upd rfl ?_ | refine Same.upds rfl ?_ | refine Same.mix rfl ?_),?_,?_⟩
     ·exact ⟨E1.trans E2,by omega,by rw [hsu,hf1]⟩
     ·omega
 ·obtain rfl:k=p.length:=by omega
  focus
   have szE1:=E1.size;refine Ke <| Ke <| Kc rfl <| Wo rfl (Ka (v:=.int _ _) rfl) <| Wo rfl (Ka (v:=v) rfl) <| Wo rfl (Ko Tryz.underlying23 rfl h) ?_
   refine Wo rfl (Ks rfl rfl) <| Kd <| Kg rfl (fun h1=>?_) (fun h1=>?_);(exfalso;omega);refine Jg ?_;refine exitX_same ?_;refine Ke <| Kc rfl ?_
   refine Wo rfl (Kb (v:=.bool _) rfl) <| Kd <| Ja ?_;refine at_ret (v:=.bool _) rfl ?_;refine ⟨congrArg Value.bool ?_,E1⟩
  rw [hall,hg]
theorem l3Start_ok (w:World) (n:Nat) (hn:n≤11):Does Tryz.prog 202 [.int .i64 (n:Int)] w (RetO w XR (List.replicate n (List.replicate n 1))):=by
 refine Jc Tryz.func202 rfl Tryz.results202 Tryz.ntmps202 rfl ?_
 focus
  refine Ke <| Kc rfl <| Wo rfl (Kb (v:=.slice _ _ _) rfl) <| Kd <| Ke <| Kc rfl <| Js (XSl 3 XInt) rfl el23 Tryz.sizeOf88 ?_
  rintro b1 w1 hb1 b1lt E1 hO1;have hs1:=E1.size;refine Wo rfl (Kb (v:=.slice _ _ _) rfl) <| Kd <| Ke <| Ke <| Kc rfl <| Wo rfl (Kb (v:=.int _ _) rfl) ?_
  refine Kd <| Kr ?_
 refine Jh [3,4,5,6,8,9,10,11,12,13,14,15,16,17,18,19,20,21,22,23,24,25] (fun (k,u)=>[(4,.int .i64 (k:Nat)),(3,u)]) (fun (k,u) w'=>Ext w w'∧k≤n∧Owned w.heap.size XR w' u (List.replicate k (List.replicate n 1))) (fun x=>n - x.1) (0,.slice (some ⟨b1,0,none⟩) 0 0) (by repeat (first | exact trivial | refine And.intro rfl ?_)) ?_ ?_
 ·exact ⟨by assumption,Nat.zero_le _,by simpa using hO1⟩
 rintro ⟨k,u⟩ ρj w2 ⟨E2,hk,hO2⟩
 by_cases hkl:k < n
 ·focus
   have szE2:=E2.size;have szE1:=E1.size;refine Ke <| Ke <| Kc rfl <| Wo rfl (Ka (v:=.int _ _) rfl) <| Wo rfl (Ka (v:=.int _ _) rfl) ?_
   refine Wo rfl (Ks rfl rfl) <| Kd <| Kg rfl (fun h1=>?_) (fun h1=>?_);refine Kt ?_;refine Ke <| Kr <| Ke <| Kc rfl ?_
   refine Js XInt rfl el88 Tryz.sizeOf3 ?_;rintro b2 w3 hb2 b2lt E3 hO3;have hs2:=E3.size;refine Wo rfl (Kb (v:=.slice _ _ _) rfl) <| Kd <| Ke <| Ke <| Kc rfl ?_
   refine Wo rfl (Kb (v:=.int _ _) rfl) <| Kd <| Kr ?_;rotate_left;(exfalso;omega)
  refine Jh [5,6,14,15,16,17,18,19,20,21] (fun (j,r)=>[(6,.int .i64 (j:Nat)),(5,r)]) (fun (j,r) w'=>Ext w w'∧w2.heap.size≤w'.heap.size∧j≤n∧OwnedB w.heap.size w2.heap.size XR w' u (List.replicate k (List.replicate n 1))∧Owned w2.heap.size XI w' r (List.replicate j 1)) (fun x=>n - x.1) (0,.slice (some ⟨b2,0,none⟩) 0 0) (by repeat (first | exact trivial | refine And.intro rfl ?_)) ?_ ?_
  ·exact ⟨E2.trans E3,E3.size,Nat.zero_le _,hO2.toB.ext E3,by simpa using hO3⟩
  rintro ⟨j,r⟩ ρk w4 ⟨E4,hsz4,hj,hB4,hO4⟩
  have hrl:(List.replicate j (1:Int)).length=j:=by simp
  have hrl2:(List.replicate k (List.replicate n (1:Int))).length=k:=by simp
  by_cases hjl:j < n
  ·focus
    have szE4:=E4.size;have szE3:=E3.size;have szE2:=E2.size;have szE1:=E1.size;refine Ke <| Ke <| Kc rfl <| Wo rfl (Ka (v:=.int _ _) rfl) ?_
    refine Wo rfl (Ka (v:=.int _ _) rfl) <| Wo rfl (Ks rfl rfl) <| Kd <| Kg rfl (fun h2=>?_) (fun h2=>?_);refine Kt ?_;refine Ke <| Kr <| Kc rfl ?_
    refine Wo rfl (Ka (v:=r) rfl) <| Ju (ps:=[(0,.int _ _)]) (cs:=[_]) rfl Tryz.underlying88 Tryz.sizeOf3 Tryz.zeroValue3 rfl rfl rfl rfl ?_;rintro b3 w5 hb3 E5 hB1;have hlb3:=hB1.lt
    have hs3:=E5.size;refine Jv rfl el88 rfl rfl hB1 (hO4.toB.ext E5) Owned.int (Nat.le_refl _) (by first | omega | (simp <;> omega)) (by omega) (by omega) (E4.trans E5) (by omega) ?_;have hT1:=(hO4.toB.ext E5)
    rintro v1 w6 hO4 E6 M1;have hB4:=(hB4.ext E5).moves M1 hT1 (by omega);have hB1:=hB1.moves M1 hT1 (by omega);have hs4:=E6.size;refine Wo rfl (Kb (v:=v1) rfl) <| Kd <| Kc rfl ?_
    refine Wo rfl (Ka (v:=.int _ _) rfl) <| Wo rfl (Kw rfl rfl (by omega)) ?_;refine Wo rfl (Kb (v:=.int _ _) rfl) <| Kd ?_;rotate_left;(exfalso;omega)
   refine ⟨((j+1,v1)),by repeat (first | exact trivial | refine And.intro rfl ?_),by repeat (first | with_reducible exact Same.refl | refine Same.upd rfl ?_ | refine Same.upds rfl ?_ | refine Same.mix rfl ?_),?_,?_⟩
   ·refine ⟨by assumption,by have:=M1.1.size;omega,by omega,by assumption,?_⟩
    rw [List.replicate_succ'];assumption
   ·simp only;omega
  ·obtain rfl:j=n:=by omega
   obtain ⟨rb,rc,rfl,_⟩:=hO4.lit (by simp;omega)
   have hrb:=hO4.lt_own (k:=rb) rfl
   focus
    have szE4:=E4.size;have szE3:=E3.size;have szE2:=E2.size;have szE1:=E1.size;refine Ke <| Ke <| Kc rfl <| Wo rfl (Ka (v:=.int _ _) rfl) ?_
    refine Wo rfl (Ka (v:=.int _ _) rfl) <| Wo rfl (Ks rfl rfl) <| Kd <| Kg rfl (fun h2=>?_) (fun h2=>?_);(exfalso;omega);refine Jg ?_;refine exitX_same ?_
    refine Kc rfl <| Wo rfl (Ka (v:=u) rfl) <| Wo rfl (Ka (v:=.slice _ _ _) rfl) ?_
    refine Ju (ps:=[(0,.slice _ _ _)]) (cs:=[_]) rfl Tryz.underlying23 Tryz.sizeOf88 Tryz.zeroValue88 rfl rfl rfl rfl ?_;rintro b3 w5 hb3 E5 hB1;have hlb3:=hB1.lt;have hs3:=E5.size
    refine Jv rfl el23 rfl rfl hB1 (hB4.ext E5) (hO4.toB.ext E5).o (by omega) (by first | omega | (simp <;> omega)) (by omega) (by omega) (E4.trans E5) (by omega) ?_;have hT1:=(hB4.ext E5);rintro v1 w6 hB4 E6 M1
    have hO4:=(hO4.toB.ext E5).moves M1 hT1 (by omega);have hB1:=hB1.moves M1 hT1 (by omega);have hs4:=E6.size;refine Wo rfl (Kb (v:=v1) rfl) <| Kd <| Kc rfl ?_
    refine Wo rfl (Ka (v:=.int _ _) rfl) <| Wo rfl (Kw rfl rfl (by omega)) ?_;refine Wo rfl (Kb (v:=.int _ _) rfl) <| Kd ?_
   refine ⟨((k+1,v1)),by repeat (first | exact trivial | refine And.intro rfl ?_),by repeat (first | with_reducible exact Same.refl | refine Same.upd rfl ?_ | refine Same.upds rfl ?_ | refine Same.mix rfl ?_),?_,?_⟩
   ·refine ⟨by assumption,by omega,?_⟩
    rw [List.replicate_succ'];assumption
   ·simp only;omega
 ·obtain rfl:k=n:=by omega
  focus
   have szE2:=E2.size;have szE1:=E1.size;refine Ke <| Ke <| Kc rfl <| Wo rfl (Ka (v:=.int _ _) rfl) <| Wo rfl (Ka (v:=.int _ _) rfl) ?_
   refine Wo rfl (Ks rfl rfl) <| Kd <| Kg rfl (fun h1=>?_) (fun h1=>?_);(exfalso;omega);refine Jg ?_;refine exitX_same ?_;refine Ke <| Kc rfl ?_
   refine Wo rfl (Ka (v:=u) rfl) <| Wo rfl (Kb (v:=u) rfl) <| Kd <| Ja ?_;exact ⟨E2,hO2.toB.o.mono (by omega)⟩
def rnd (p:List (List Int)) (S:Nat→Nat→Bool) (a b:Nat):Bool:=S a b && (mch p S a b && mch p S b a)
def bits01 (R:Nat→Nat→Bool) (a n:Nat):List Int:=(List.range n).map fun b=>b01 (R a b)
theorem bits01_succ (R:Nat→Nat→Bool) (a n:Nat):bits01 R a (n+1)=bits01 R a n++[b01 (R a n)]:=by simp [bits01,List.range_succ]
theorem bits01_len (R:Nat→Nat→Bool) (a n:Nat):(bits01 R a n).length=n:=by simp [bits01]
def mat01 (R:Nat→Nat→Bool) (k n:Nat):List (List Int):=(List.range k).map fun a=>bits01 R a n
theorem mat01_succ (R:Nat→Nat→Bool) (k n:Nat):mat01 R (k+1) n=mat01 R k n++[bits01 R k n]:=by simp [mat01,List.range_succ]
theorem mat01_len (R:Nat→Nat→Bool) (k n:Nat):(mat01 R k n).length=k:=by simp [mat01]
theorem l3Round_ok (w:World) (v v':Value) (p:List (List Int)) (h:ESl Ints w v p) (hp:Gr p) (S:Nat→Nat→Bool) (h':ESl Ints w v' (matV p S)) :
  Does Tryz.prog 203 [v,v'] w (RetO w XR (matV p (rnd p S))):=by
 have hp5:=hp.2.1
 have hle:=h.le
 have hml:=matV_len (p:=p) S
 refine Jc Tryz.func203 rfl Tryz.results203 Tryz.ntmps203 rfl ?_
 focus
  refine Ke <| Kc rfl <| Wo rfl (Kb (v:=.slice _ _ _) rfl) <| Kd <| Ke <| Kc rfl <| Js (XSl 3 XInt) rfl el23 Tryz.sizeOf88 ?_
  rintro b1 w1 hb1 b1lt E1 hO1;have hs1:=E1.size;refine Wo rfl (Kb (v:=.slice _ _ _) rfl) <| Kd <| Ke <| Ke <| Kc rfl <| Wo rfl (Kb (v:=.int _ _) rfl) ?_
  refine Kd <| Kr ?_
 refine Jh [5,6,7,8,9,11,12,13,14,15,16,17,18,19,20,21,22,23,24,25,26,27,28,29,30,31,32,33,34,35,36,37,38,39,40,41,42,43,44,45,46,47,48,49,50,51,52,53] (fun (k,u)=>[(6,.int .i64 (k:Nat)),(5,u)]) (fun (k,u) w'=>Ext w w'∧k≤p.length∧Owned w.heap.size XR w' u (mat01 (rnd p S) k p.length)) (fun x=>p.length - x.1) (0,.slice (some ⟨b1,0,none⟩) 0 0) (by repeat (first | exact trivial | refine And.intro rfl ?_)) ?_ ?_
 ·exact ⟨by assumption,Nat.zero_le _,by simpa [mat01] using hO1⟩
 rintro ⟨k,u⟩ ρj w2 ⟨E2,hk,hO2⟩
 by_cases hkl:k < p.length
 ·focus
   have szE2:=E2.size;have szE1:=E1.size;refine Ke <| Ke <| Kc rfl <| Wo rfl (Ka (v:=.int _ _) rfl) <| Wo rfl (Ka (v:=v) rfl) ?_
   refine Wo rfl (Ko Tryz.underlying23 rfl h) <| Wo rfl (Ks rfl rfl) <| Kd <| Kg rfl (fun h1=>?_) (fun h1=>?_);refine Kt ?_;refine Ke <| Kr <| Ke ?_
   refine Kc rfl <| Js XInt rfl el88 Tryz.sizeOf3 ?_;rintro b2 w3 hb2 b2lt E3 hO3;have hs2:=E3.size;refine Wo rfl (Kb (v:=.slice _ _ _) rfl) <| Kd <| Ke <| Ke ?_
   refine Kc rfl <| Wo rfl (Kb (v:=.int _ _) rfl) <| Kd <| Kr ?_;rotate_left;(exfalso;omega)
  refine Jh [7,8,9,18,19,20,21,22,23,24,25,26,27,28,29,30,31,32,33,34,35,36,37,38,39,40,41,42,43,44,45,46,47,48,49] (fun (j,r)=>[(8,.int .i64 (j:Nat)),(7,r)]) (fun (j,r) w'=>Ext w w'∧w2.heap.size≤w'.heap.size∧j≤p.length∧OwnedB w.heap.size w2.heap.size XR w' u (mat01 (rnd p S) k p.length)∧Owned w2.heap.size XI w' r (bits01 (rnd p S) k j)) (fun x=>p.length - x.1) (0,.slice (some ⟨b2,0,none⟩) 0 0) (by repeat (first | exact trivial | refine And.intro rfl ?_)) ?_ ?_
  ·exact ⟨E2.trans E3,E3.size,Nat.zero_le _,hO2.toB.ext E3,by simpa [bits01] using hO3⟩
  rintro ⟨j,r⟩ ρk w4 ⟨E4,hsz4,hj,hB4,hO4⟩
  have hrl:=bits01_len (rnd p S) k j
  have hrl2:=mat01_len (rnd p S) k p.length
  by_cases hjl:j < p.length
  ·have hmr:=matV_rlen (p:=p) (S:=S) hkl
   have hme:=matV_at (p:=p) (S:=S) hkl hjl
   have hsu:=bits01_succ (rnd p S) k j
   have m1 : ∀ (w:World) (v v':Value),ESl Ints w v p→ESl Ints w v' (matV p S)→Does Tryz.prog 220 [v,v',.int .i64 (k:Int),.int .i64 (j:Int)] w (Ret w (.bool (mch p S k j))):=fun w v v' h1 h2=>l3Matched_ok w v v' p h1 hp S h2 k j hkl hjl
   have m2 : ∀ (w:World) (v v':Value),ESl Ints w v p→ESl Ints w v' (matV p S)→Does Tryz.prog 220 [v,v',.int .i64 (j:Int),.int .i64 (k:Int)] w (Ret w (.bool (mch p S j k))):=fun w v v' h1 h2=>l3Matched_ok w v v' p h1 hp S h2 j k hjl hkl
   have fin : ∀ x:Int,x=b01 (rnd p S k j)→bits01 (rnd p S) k (j+1)=bits01 (rnd p S) k j++[x]:=fun x hx=>by rw [hx];exact hsu
   focus
    have szE4:=E4.size;have szE3:=E3.size;have szE2:=E2.size;have szE1:=E1.size;refine Ke <| Ke <| Kc rfl <| Wo rfl (Ka (v:=.int _ _) rfl) ?_
    refine Wo rfl (Ka (v:=v) rfl) <| Wo rfl (Ko Tryz.underlying23 rfl h) <| Wo rfl (Ks rfl rfl) <| Kd <| Kg rfl (fun h2=>?_) (fun h2=>?_);refine Kt ?_
    refine Ke <| Kr <| Ke <| Kc rfl <| Wo rfl (Kb (v:=.int _ _) rfl) <| Kd <| Ke <| Ke <| Kc rfl ?_
    refine Wo rfl (Ka (v:=v') rfl) <| Wo rfl (Ka (v:=.int _ _) rfl) <| Ji Tryz.underlying23 Tryz.sizeOf88 Tryz.isAgg88 rfl (fun _=>rfl) rfl h' E4 rfl (by first | omega | (simp <;> omega)) ?_
    rintro _ u1 hu1;refine Wo rfl (Ka (v:=.int _ _) rfl) <| Ji Tryz.underlying88 Tryz.sizeOf3 Tryz.isAgg3 rfl (fun _=>rfl) rfl hu1 E4 rfl (by first | omega | (simp <;> omega)) ?_;rintro _ _ rfl
    refine Wo rfl (Kx rfl rfl) <| Kv rfl (Ka (v:=.bool _) rfl) (fun h3=>?_) (fun h3=>?_);refine Wo rfl (Ka (v:=v) rfl) <| Wo rfl (Ka (v:=v') rfl) ?_
    refine Wo rfl (Ka (v:=.int _ _) rfl) <| Wo rfl (Ka (v:=.int _ _) rfl) ?_
    refine Kj rfl (opc4 (a:=v) (b:=v') (c:=.int _ _) (d:=.int _ _) Tryz.call220 rfl rfl rfl rfl) (m1 _ _ _ ((Mono.mono E4 h)) ((Mono.mono E4 h'))) ?_;rintro _ w5 ⟨rfl,E5⟩;have hs3:=E5.size
    refine Wo rfl (Kz (v:=.bool _) rfl rfl) <| Jy rfl (Ka (v:=.bool _) rfl) (fun h4=>?_) (fun h4=>?_);refine Wo rfl (Ka (v:=v) rfl) <| Wo rfl (Ka (v:=v') rfl) ?_
    refine Wo rfl (Ka (v:=.int _ _) rfl) <| Wo rfl (Ka (v:=.int _ _) rfl) ?_
    refine Kj rfl (opc4 (a:=v) (b:=v') (c:=.int _ _) (d:=.int _ _) Tryz.call220 rfl rfl rfl rfl) (m2 _ _ _ ((Mono.mono (E4.trans E5) h)) ((Mono.mono (E4.trans E5) h'))) ?_;rintro _ w6 ⟨rfl,E6⟩;have hs4:=E6.size
    refine Wo rfl (Kz (v:=.bool _) rfl rfl) <| Kd <| Jx rfl (fun h5=>?_) (fun h5=>?_);refine Kc rfl <| Wo rfl (Kb (v:=.int _ _) rfl) <| Kd ?_
    refine Kc rfl <| Wo rfl (Ka (v:=r) rfl) <| Wo rfl (Ka (v:=.int _ _) rfl) ?_
    refine Ju (ps:=[(0,.int _ _)]) (cs:=[_]) rfl Tryz.underlying88 Tryz.sizeOf3 Tryz.zeroValue3 rfl rfl rfl rfl ?_;rintro b3 w7 hb3 E7 hB1;have hlb3:=hB1.lt;have hs5:=E7.size
    refine Jv rfl el88 rfl rfl hB1 (hO4.toB.ext ((E5.trans E6).trans E7)) Owned.int (Nat.le_refl _) (by first | omega | (simp <;> omega)) (by omega) (by omega) (((E4.trans E5).trans E6).trans E7) (by omega) ?_
    have hT1:=(hO4.toB.ext ((E5.trans E6).trans E7));rintro v1 w8 hO4 E8 M1;have hB4:=(hB4.ext ((E5.trans E6).trans E7)).moves M1 hT1 (by omega);have hB1:=hB1.moves M1 hT1 (by omega);have hs6:=E8.size
    refine Wo rfl (Kb (v:=v1) rfl) <| Kd <| Kc rfl <| Wo rfl (Ka (v:=.int _ _) rfl) <| Wo rfl (Kw rfl rfl (by omega)) ?_;refine Wo rfl (Kb (v:=.int _ _) rfl) ?_
    refine Kd ?_;rotate_left;refine Kt ?_;refine Kc rfl <| Wo rfl (Ka (v:=r) rfl) <| Wo rfl (Ka (v:=.int _ _) rfl) ?_
    refine Ju (ps:=[(0,.int _ _)]) (cs:=[_]) rfl Tryz.underlying88 Tryz.sizeOf3 Tryz.zeroValue3 rfl rfl rfl rfl ?_;rintro b3 w7 hb3 E7 hB1;have hlb3:=hB1.lt;have hs5:=E7.size
    refine Jv rfl el88 rfl rfl hB1 (hO4.toB.ext ((E5.trans E6).trans E7)) Owned.int (Nat.le_refl _) (by first | omega | (simp <;> omega)) (by omega) (by omega) (((E4.trans E5).trans E6).trans E7) (by omega) ?_
    have hT1:=(hO4.toB.ext ((E5.trans E6).trans E7));rintro v1 w8 hO4 E8 M1;have hB4:=(hB4.ext ((E5.trans E6).trans E7)).moves M1 hT1 (by omega);have hB1:=hB1.moves M1 hT1 (by omega);have hs6:=E8.size
    refine Wo rfl (Kb (v:=v1) rfl) <| Kd <| Kc rfl <| Wo rfl (Ka (v:=.int _ _) rfl) <| Wo rfl (Kw rfl rfl (by omega)) ?_;refine Wo rfl (Kb (v:=.int _ _) rfl) ?_
    refine Kd ?_;rotate_left;refine Ki rfl <| Ki rfl <| Ki rfl <| Ki rfl <| Ki rfl <| Wo rfl (Kn (v:=.bool _) rfl rfl) <| Kd ?_
    refine Ky rfl ?_;refine Kt ?_;refine Kc rfl <| Wo rfl (Ka (v:=r) rfl) <| Wo rfl (Ka (v:=.int _ _) rfl) ?_
    refine Ju (ps:=[(0,.int _ _)]) (cs:=[_]) rfl Tryz.underlying88 Tryz.sizeOf3 Tryz.zeroValue3 rfl rfl rfl rfl ?_;rintro b3 w6 hb3 E6 hB1;have hlb3:=hB1.lt;have hs4:=E6.size
    refine Jv rfl el88 rfl rfl hB1 (hO4.toB.ext (E5.trans E6)) Owned.int (Nat.le_refl _) (by first | omega | (simp <;> omega)) (by omega) (by omega) ((E4.trans E5).trans E6) (by omega) ?_;have hT1:=(hO4.toB.ext (E5.trans E6))
    rintro v1 w7 hO4 E7 M1;have hB4:=(hB4.ext (E5.trans E6)).moves M1 hT1 (by omega);have hB1:=hB1.moves M1 hT1 (by omega);have hs5:=E7.size;refine Wo rfl (Kb (v:=v1) rfl) <| Kd <| Kc rfl ?_
    refine Wo rfl (Ka (v:=.int _ _) rfl) <| Wo rfl (Kw rfl rfl (by omega)) ?_;refine Wo rfl (Kb (v:=.int _ _) rfl) <| Kd ?_;rotate_left;refine Ki rfl <| Ki rfl ?_
    refine Ki rfl <| Ki rfl <| Ki rfl <| Wo rfl (Kn (v:=.bool _) rfl rfl) <| Wo rfl (Ka (v:=.bool _) rfl) <| Ki rfl <| Ki rfl ?_
    refine Ki rfl <| Ki rfl <| Ki rfl <| Wo rfl (Kn (v:=.bool _) rfl rfl) <| Kd <| Ky rfl ?_;refine Kt ?_;refine Kc rfl ?_
    refine Wo rfl (Ka (v:=r) rfl) <| Wo rfl (Ka (v:=.int _ _) rfl) <| Ju (ps:=[(0,.int _ _)]) (cs:=[_]) rfl Tryz.underlying88 Tryz.sizeOf3 Tryz.zeroValue3 rfl rfl rfl rfl ?_
    rintro b3 w5 hb3 E5 hB1;have hlb3:=hB1.lt;have hs3:=E5.size
    refine Jv rfl el88 rfl rfl hB1 (hO4.toB.ext E5) Owned.int (Nat.le_refl _) (by first | omega | (simp <;> omega)) (by omega) (by omega) (E4.trans E5) (by omega) ?_;have hT1:=(hO4.toB.ext E5);rintro v1 w6 hO4 E6 M1
    have hB4:=(hB4.ext E5).moves M1 hT1 (by omega);have hB1:=hB1.moves M1 hT1 (by omega);have hs4:=E6.size;refine Wo rfl (Kb (v:=v1) rfl) <| Kd <| Kc rfl ?_
    refine Wo rfl (Ka (v:=.int _ _) rfl) <| Wo rfl (Kw rfl rfl (by omega)) ?_;refine Wo rfl (Kb (v:=.int _ _) rfl) <| Kd ?_;rotate_left;(exfalso;omega)
   ·have hx:(1:Int)=b01 (rnd p S k j):=by
     unfold rnd
     rw [show S k j=true from b01_one.1 (hme.symm.trans (by assumption)),show mch p S k j=true by assumption,show mch p S j k=true by assumption];rfl
    refine ⟨((j+1,v1)),by repeat (first | exact trivial | refine And.intro rfl ?_),by repeat (first | with_reducible exact Same.refl | refine Same.upd rfl ?_ | refine Same.upds rfl ?_ | refine Same.mix rfl ?_),?_,?_⟩
    ·refine ⟨by assumption,by have:=M1.1.size;omega,by omega,by assumption,?_⟩
     rw [fin _ hx];assumption
    ·simp only;omega
   ·have hx:(0:Int)=b01 (rnd p S k j):=by
     unfold rnd
     rw [show S k j=true from b01_one.1 (hme.symm.trans (by assumption)),show mch p S k j=true by assumption,show mch p S j k=false by assumption];rfl
    refine ⟨((j+1,v1)),by repeat (first | exact trivial | refine And.intro rfl ?_),by repeat (first | with_reducible exact Same.refl | refine Same.upd rfl ?_ | refine Same.upds rfl ?_ | refine Same.mix rfl ?_),?_,?_⟩
    ·refine ⟨by assumption,by have:=M1.1.size;omega,by omega,by assumption,?_⟩
     rw [fin _ hx];assumption
    ·simp only;omega
   ·have hx:(0:Int)=b01 (rnd p S k j):=by
     unfold rnd
     rw [show S k j=true from b01_one.1 (hme.symm.trans (by assumption)),show mch p S k j=false by assumption];rfl
    refine ⟨((j+1,v1)),by repeat (first | exact trivial | refine And.intro rfl ?_),by repeat (first | with_reducible exact Same.refl | refine Same.upd rfl ?_ | refine Same.upds rfl ?_ | refine Same.mix rfl ?_),?_,?_⟩
    ·refine ⟨by assumption,by have:=M1.1.size;omega,by omega,by assumption,?_⟩
     rw [fin _ hx];assumption
    ·simp only;omega
   ·have hx:(0:Int)=b01 (rnd p S k j):=by
     unfold rnd
     have hS:S k j=false:=by
      cases hs:S k j with
      | false=>rfl
      | true=>rw [hs] at hme;exact absurd hme (by assumption)
     rw [hS];rfl
    refine ⟨((j+1,v1)),by repeat (first | exact trivial | refine And.intro rfl ?_),by repeat (first | with_reducible exact Same.refl | refine Same.upd rfl ?_ | refine Same.upds rfl ?_ | refine Same.mix rfl ?_),?_,?_⟩
    ·refine ⟨by assumption,by have:=M1.1.size;omega,by omega,by assumption,?_⟩
     rw [fin _ hx];assumption
    ·simp only;omega
  ·obtain rfl:j=p.length:=by omega
   obtain ⟨rb,rc,rfl,_⟩:=hO4.lit (by rw [bits01_len];omega)
   have hrb:=hO4.lt_own (k:=rb) rfl
   rw [bits01_len] at *
   focus
    have szE4:=E4.size;have szE3:=E3.size;have szE2:=E2.size;have szE1:=E1.size;refine Ke <| Ke <| Kc rfl <| Wo rfl (Ka (v:=.int _ _) rfl) ?_
    refine Wo rfl (Ka (v:=v) rfl) <| Wo rfl (Ko Tryz.underlying23 rfl h) <| Wo rfl (Ks rfl rfl) <| Kd <| Kg rfl (fun h2=>?_) (fun h2=>?_);(exfalso;omega)
    refine Jg ?_;refine exitX_same ?_;refine Kc rfl <| Wo rfl (Ka (v:=u) rfl) <| Wo rfl (Ka (v:=.slice _ _ _) rfl) ?_
    refine Ju (ps:=[(0,.slice _ _ _)]) (cs:=[_]) rfl Tryz.underlying23 Tryz.sizeOf88 Tryz.zeroValue88 rfl rfl rfl rfl ?_;rintro b3 w5 hb3 E5 hB1;have hlb3:=hB1.lt;have hs3:=E5.size
    refine Jv rfl el23 rfl rfl hB1 (hB4.ext E5) (hO4.toB.ext E5).o (by omega) (by first | omega | (simp <;> omega)) (by omega) (by omega) (E4.trans E5) (by omega) ?_;have hT1:=(hB4.ext E5);rintro v1 w6 hB4 E6 M1
    have hO4:=(hO4.toB.ext E5).moves M1 hT1 (by omega);have hB1:=hB1.moves M1 hT1 (by omega);have hs4:=E6.size;refine Wo rfl (Kb (v:=v1) rfl) <| Kd <| Kc rfl ?_
    refine Wo rfl (Ka (v:=.int _ _) rfl) <| Wo rfl (Kw rfl rfl (by omega)) ?_;refine Wo rfl (Kb (v:=.int _ _) rfl) <| Kd ?_
   refine ⟨((k+1,v1)),by repeat (first | exact trivial | refine And.intro rfl ?_),by repeat (first | with_reducible exact Same.refl | refine Same.upd rfl ?_ | refine Same.upds rfl ?_ | refine Same.mix rfl ?_),?_,?_⟩
   ·exact ⟨by assumption,by omega,by rw [mat01_succ];assumption⟩
   ·simp only;omega
 ·obtain rfl:k=p.length:=by omega
  focus
   have szE2:=E2.size;have szE1:=E1.size;refine Ke <| Ke <| Kc rfl <| Wo rfl (Ka (v:=.int _ _) rfl) <| Wo rfl (Ka (v:=v) rfl) ?_
   refine Wo rfl (Ko Tryz.underlying23 rfl h) <| Wo rfl (Ks rfl rfl) <| Kd <| Kg rfl (fun h1=>?_) (fun h1=>?_);(exfalso;omega);refine Jg ?_;refine exitX_same ?_;refine Ke ?_
   refine Kc rfl <| Wo rfl (Ka (v:=u) rfl) <| Wo rfl (Kb (v:=u) rfl) <| Kd <| Ja ?_;exact ⟨E2,hO2.toB.o.mono (by omega)⟩
theorem LeftAfter_ok (w:World) (v:Value) (p:List (List Int)) (h:ESl Ints w v p) (z:Int):Does Tryz.prog 193 [v,.int .i64 z] w (RetO w XR (leftV p z)):=by
 have hle:=h.le
 by_cases hp:Pic p
 ·have hpic : ∀ (w:World) (pv:Value),ESl Ints w pv p→Does Tryz.prog 115 [pv] w (Ret w (.bool true)):=fun w pv h=>by
   have:=PictureOk_ok w pv p h
   rw [decide_eq_true hp] at this;exact this
  have hp5:=hp.2.1
  by_cases hz:0≤z∧z≤30
  ·have hV:leftV p z=matV p (bsm p z.toNat):=if_pos ⟨hp,hz⟩
   rw [hV]
   have hst : ∀ w,Does Tryz.prog 202 [.int .i64 (p.length:Int)] w (RetO w XR (matV p (bsm p 0))):=fun w=>by
    have:=l3Start_ok w p.length (by omega)
    rw [matV_zero] at this;exact this
   refine Jc Tryz.func193 rfl Tryz.results193 Tryz.ntmps193 rfl ?_
   focus
    refine Ke <| Kc rfl <| Wo rfl (Kb (v:=.slice _ _ _) rfl) <| Kd <| Ke <| Ke <| Kc rfl <| Wo rfl (Ka (v:=v) rfl) ?_
    refine Kj rfl (Jk (a:=v) Tryz.call115 rfl) (hpic _ _ (h)) ?_;rintro _ w1 ⟨rfl,E1⟩;have hs1:=E1.size;refine Wo rfl (Jf rfl) <| Jy rfl (Ka (v:=.bool _) rfl) (fun h1=>?_) (fun h1=>?_)
    contradiction;refine Wo rfl (Ka (v:=.int _ _) rfl) <| Kj rfl (opc3 (a:=.int _ _) (b:=.int _ _) (c:=.int _ _) Tryz.call116 rfl rfl rfl) (l1In_ok _ _ _ _) ?_;rintro _ w2 ⟨rfl,E2⟩;have hs2:=E2.size
    refine Wo rfl (Jf rfl) <| Wo rfl (Kn (v:=.bool _) rfl rfl) <| Kd <| Jj rfl (fun h2=>?_) (fun h2=>?_);contradiction;refine Kt ?_;refine Ke <| Kc rfl ?_
    refine Wo rfl (Ka (v:=v) rfl) <| Wo rfl (Ko Tryz.underlying23 rfl h) <| Kj rfl (Jk (a:=.int _ _) Tryz.call202 rfl) (hst _) ?_;rintro u1 w3 ⟨E3,hO1⟩;have hs3:=E3.size
    refine Wo rfl (Kb (v:=u1) rfl) <| Kd <| Ke <| Ke <| Kc rfl <| Wo rfl (Kb (v:=.int _ _) rfl) <| Kd <| Kr ?_
   refine Jh [5,6,19,20,21,22,23,24,25,26] (fun (m,u)=>[(6,.int .i64 (m:Nat)),(5,u)]) (fun (m,u) w'=>Ext w w'∧m≤z.toNat∧Owned w.heap.size XR w' u (matV p (bsm p m))) (fun x=>z.toNat - x.1) (0,u1) (by repeat (first | exact trivial | refine And.intro rfl ?_)) ?_ ?_
   ·exact ⟨(E1.trans E2).trans E3,Nat.zero_le _,hO1.mono (by omega)⟩
   rintro ⟨m,u⟩ ρj w9 ⟨E9,hm,hO9⟩
   by_cases hmz:m < z.toNat
   ·have hrn : ∀ (w:World) (v v':Value),ESl Ints w v p→ESl Ints w v' (matV p (bsm p m))→Does Tryz.prog 203 [v,v'] w (RetO w XR (matV p (bsm p (m+1)))):=fun w v v' h1 h2=>l3Round_ok w v v' p h1 hp (bsm p m) h2
    focus
     have szE9:=E9.size;have szE3:=E3.size;have szE2:=E2.size;have szE1:=E1.size;refine Ke <| Ke <| Kc rfl <| Wo rfl (Ka (v:=.int _ _) rfl) ?_
     refine Wo rfl (Ka (v:=.int _ _) rfl) <| Wo rfl (Ks rfl rfl) <| Kd <| Kg rfl (fun h3=>?_) (fun h3=>?_);refine Kt ?_;refine Ke <| Kr <| Kc rfl ?_
     refine Wo rfl (Ka (v:=v) rfl) <| Wo rfl (Ka (v:=u) rfl) <| Kj rfl (Jn (a:=v) (b:=u) Tryz.call203 rfl rfl) (hrn _ _ _ ((Mono.mono E9 h)) ((Owned.read hO9))) ?_;rintro u2 w4 ⟨E4,hO2⟩
     have hs4:=E4.size;refine Wo rfl (Kb (v:=u2) rfl) <| Kd <| Kc rfl <| Wo rfl (Ka (v:=.int _ _) rfl) <| Wo rfl (Kw rfl rfl (by omega)) ?_
     refine Wo rfl (Kb (v:=.int _ _) rfl) <| Kd ?_;rotate_left;(exfalso;omega)
    refine ⟨((m+1,u2)),by repeat (first | exact trivial | refine And.intro rfl ?_),by repeat (first | with_reducible exact Same.refl | refine Same.upd rfl ?_ | refine Same.upds rfl ?_ | refine Same.mix rfl ?_),?_,?_⟩
    ·exact ⟨E9.trans E4,by omega,hO2.mono (by omega)⟩
    ·simp only;omega
   ·obtain rfl:m=z.toNat:=by omega
    focus
     have szE9:=E9.size;have szE3:=E3.size;have szE2:=E2.size;have szE1:=E1.size;refine Ke <| Ke <| Kc rfl <| Wo rfl (Ka (v:=.int _ _) rfl) ?_
     refine Wo rfl (Ka (v:=.int _ _) rfl) <| Wo rfl (Ks rfl rfl) <| Kd <| Kg rfl (fun h3=>?_) (fun h3=>?_);(exfalso;omega);refine Jg ?_;refine exitX_same ?_;refine Ke ?_
     refine Kc rfl <| Wo rfl (Ka (v:=u) rfl) <| Wo rfl (Kb (v:=u) rfl) <| Kd <| Ja ?_;exact ⟨E9,hO9.toB.o.mono (by omega)⟩
  ·have hV:leftV p z=[]:=if_neg (fun h=>hz h.2)
   rw [hV]
   refine Jc Tryz.func193 rfl Tryz.results193 Tryz.ntmps193 rfl ?_
   focus
    refine Ke <| Kc rfl <| Wo rfl (Kb (v:=.slice _ _ _) rfl) <| Kd <| Ke <| Ke <| Kc rfl <| Wo rfl (Ka (v:=v) rfl) ?_
    refine Kj rfl (Jk (a:=v) Tryz.call115 rfl) (hpic _ _ (h)) ?_;rintro _ w1 ⟨rfl,E1⟩;have hs1:=E1.size;refine Wo rfl (Jf rfl) <| Jy rfl (Ka (v:=.bool _) rfl) (fun h1=>?_) (fun h1=>?_)
    contradiction;refine Wo rfl (Ka (v:=.int _ _) rfl) <| Kj rfl (opc3 (a:=.int _ _) (b:=.int _ _) (c:=.int _ _) Tryz.call116 rfl rfl rfl) (l1In_ok _ _ _ _) ?_;rintro _ w2 ⟨rfl,E2⟩;have hs2:=E2.size
    refine Wo rfl (Jf rfl) <| Wo rfl (Kn (v:=.bool _) rfl rfl) <| Kd <| Jj rfl (fun h2=>?_) (fun h2=>?_);refine Ke <| Kc rfl ?_
    refine Js (XSl 3 XInt) rfl el23 Tryz.sizeOf88 ?_;rintro b1 w3 hb1 b1lt E3 hO1;have hs3:=E3.size;refine Wo rfl (Kb (v:=.slice _ _ _) rfl) <| Kd <| Ja ?_
    exact ⟨((E1.trans E2).trans E3),hO1.toB.o.mono (by omega)⟩;contradiction
 ·have hpic : ∀ (w:World) (pv:Value),ESl Ints w pv p→Does Tryz.prog 115 [pv] w (Ret w (.bool false)):=fun w pv h=>by
   have:=PictureOk_ok w pv p h
   rw [decide_eq_false hp] at this;exact this
  have hV:leftV p z=[]:=if_neg (fun h=>hp h.1)
  rw [hV]
  refine Jc Tryz.func193 rfl Tryz.results193 Tryz.ntmps193 rfl ?_
  focus
   refine Ke <| Kc rfl <| Wo rfl (Kb (v:=.slice _ _ _) rfl) <| Kd <| Ke <| Ke <| Kc rfl <| Wo rfl (Ka (v:=v) rfl) ?_
   refine Kj rfl (Jk (a:=v) Tryz.call115 rfl) (hpic _ _ (h)) ?_;rintro _ w1 ⟨rfl,E1⟩;have hs1:=E1.size;refine Wo rfl (Jf rfl) <| Jy rfl (Ka (v:=.bool _) rfl) (fun h1=>?_) (fun h1=>?_)
   refine Ki rfl <| Ki rfl <| Ki rfl <| Wo rfl (Kz (v:=.bool _) rfl rfl) <| Kd <| Ga rfl ?_;refine Ke <| Kc rfl ?_
   refine Js (XSl 3 XInt) rfl el23 Tryz.sizeOf88 ?_;rintro b1 w2 hb1 b1lt E2 hO1;have hs2:=E2.size;refine Wo rfl (Kb (v:=.slice _ _ _) rfl) <| Kd <| Ja ?_
   exact ⟨(E1.trans E2),hO1.toB.o.mono (by omega)⟩;contradiction
theorem SameRows_ok (w:World) (v:Value) (p:List (List Int)) (h:ESl Ints w v p):Does Tryz.prog 162 [v] w (RetO w XR (leftV p p.length)):=by
 have hle:=h.le
 refine Jc Tryz.func162 rfl Tryz.results162 Tryz.ntmps162 rfl ?_
 focus
  refine Ke <| Kc rfl <| Wo rfl (Kb (v:=.slice _ _ _) rfl) <| Kd <| Ke <| Kc rfl <| Wo rfl (Ka (v:=v) rfl) ?_
  refine Wo rfl (Ka (v:=v) rfl) <| Wo rfl (Ko Tryz.underlying23 rfl h) <| Kj rfl (Jn (a:=v) (b:=.int _ _) Tryz.call193 rfl rfl) (LeftAfter_ok _ _ _ (h) _) ?_;rintro u1 w1 ⟨E1,hO1⟩
  have hs1:=E1.size;refine Wo rfl (Kb (v:=u1) rfl) <| Kd <| Ja ?_;exact ⟨E1,hO1.toB.o.mono (by omega)⟩
theorem IndexFunc_ok (w:World) (v:Value) (xs:List Int) (h:Ints w v xs) (fid:FuncId) (cap:List Value) (g:Int→Bool) (hc : ∀ args w,Sem.run Tryz.prog (callFunc fid args) w=.ok (.enter fid args) w)
  (hf : ∀ (x:Int) (w':World),x ∈ xs→Ext w w'→Does Tryz.prog fid (.int .i64 x::cap) w' (Ret w' (.bool (g x)))) :
  Does Tryz.prog 179 [v,.func (.func fid) [].toArray cap.toArray] w (RetX w (Value.int .i64) (fun n _=>(n = -1∧xs.any g=false)∨(0≤n∧xs.any g=true))):=by
 have hle:=h.le
 refine Jc Tryz.func179 rfl Tryz.results179 Tryz.ntmps179 rfl ?_
 focus
  refine Ke <| Kc rfl <| Wo rfl (Kb (v:=.int _ _) rfl) <| Kd <| Ke <| Ke <| Kc rfl <| Wo rfl (Ka (v:=v) rfl) ?_
  refine Wo rfl (Ko Tryz.underlying88 rfl h) <| Wo rfl (Ka (v:=.int _ _) rfl) <| Kd <| Kr ?_
 refine Jh [4,5,8,9,10,11,12,13,14,15,16,17,18] (fun (k:Nat)=>[(8,.int .i64 (k:Nat))]) (fun k w'=>Ext w w'∧k≤xs.length∧(xs.take k).any g=false) (fun x=>xs.length - x) 0 (by repeat (first | exact trivial | refine And.intro rfl ?_)) ?_ ?_
 ·exact ⟨Ext.refl _,Nat.zero_le _,by simp⟩
 rintro k ρj w1 ⟨E1,hk,hg⟩
 by_cases hlt:k < xs.length
 ·have hmem:=List.getElem_mem hlt
  focus
   have szE1:=E1.size;refine Ke <| Kc rfl <| Wo rfl (Ks rfl rfl) <| Kd <| Ke <| Kg rfl (fun h1=>?_) (fun h1=>?_);refine Kt ?_;refine Ke ?_
   refine Kr <| Ke <| Kc rfl <| Wo rfl (Ka (v:=.int _ _) rfl) <| Wo rfl (Kb (v:=.int _ _) rfl) <| Kd <| Ke <| Kc rfl ?_
   refine Wo rfl (Ka (v:=.func _ _ _) rfl) <| Wo rfl (Ka (v:=v) rfl) <| Wo rfl (Ka (v:=.int _ _) rfl) ?_
   refine Ji Tryz.underlying88 Tryz.sizeOf3 Tryz.isAgg3 rfl (fun _=>rfl) rfl h E1 rfl (by first | omega | (simp <;> omega)) ?_;rintro _ _ rfl
   refine Kj rfl (opc_val1 (a:=.int _ _) (by assumption) rfl rfl) (hf _ _ (by assumption) (E1)) ?_;rintro _ w2 ⟨rfl,E2⟩;have hs1:=E2.size;refine Kd <| Jx rfl (fun h2=>?_) (fun h2=>?_);refine Ke ?_
   refine Kc rfl <| Wo rfl (Ka (v:=.int _ _) rfl) <| Wo rfl (Kb (v:=.int _ _) rfl) <| Kd <| Ja ?_;refine at_ret (v:=.int _ _) rfl ?_;refine ⟨(E1.trans E2),_,rfl,?_⟩
   (try dsimp only);rotate_left;refine Kt ?_;refine Kc rfl <| Wo rfl (Kw rfl rfl (by omega)) ?_;refine Wo rfl (Ka (v:=.int _ _) rfl) <| Kd ?_;rotate_left;(exfalso;omega)
  ·right
   refine ⟨by omega,List.any_eq_true.2 ⟨_,hmem,by assumption⟩⟩
  ·refine ⟨(k+1),by repeat (first | exact trivial | refine And.intro rfl ?_),by repeat (first | with_reducible exact Same.refl | refine Same.upd rfl ?_ | refine Same.upds rfl ?_ | refine Same.mix rfl ?_),?_,?_⟩
   ·refine ⟨E1.trans E2,by omega,?_⟩
    rw [take_snoc _ _ hlt,List.any_append,hg]
    simpa using by assumption
   ·omega
 ·obtain rfl:k=xs.length:=by omega
  focus
   have szE1:=E1.size;refine Ke <| Kc rfl <| Wo rfl (Ks rfl rfl) <| Kd <| Ke <| Kg rfl (fun h1=>?_) (fun h1=>?_);(exfalso;omega);refine Jg ?_
   refine exitX_same ?_;refine Ke <| Kc rfl <| Wo rfl (Kb (v:=.int _ _) rfl) <| Kd <| Ja ?_;refine at_ret (v:=.int _ _) rfl ?_;refine ⟨E1,_,rfl,?_⟩;(try dsimp only)
  exact .inl ⟨rfl,by simpa using hg⟩
theorem ContainsFunc_ok (w:World) (v:Value) (xs:List Int) (h:Ints w v xs) (fid:FuncId) (cap:List Value) (g:Int→Bool) (hc : ∀ args w,Sem.run Tryz.prog (callFunc fid args) w=.ok (.enter fid args) w)
  (hf : ∀ (x:Int) (w':World),x ∈ xs→Ext w w'→Does Tryz.prog fid (.int .i64 x::cap) w' (Ret w' (.bool (g x)))) :
  Does Tryz.prog 146 [v,.func (.func fid) [].toArray cap.toArray] w (Ret w (.bool (xs.any g))):=by
 have hi:=IndexFunc_ok w v xs h fid cap g hc hf
 refine Jc Tryz.func146 rfl Tryz.results146 Tryz.ntmps146 rfl ?_
 focus
  refine Ke <| Kc rfl <| Wo rfl (Kb (v:=.bool _) rfl) <| Kd <| Ke <| Kc rfl <| Wo rfl (Ka (v:=v) rfl) ?_
  refine Wo rfl (Ka (v:=.func _ _ _) rfl) <| Kj rfl (Jn (a:=v) (b:=.func _ _ _) Tryz.call179 rfl rfl) (hi) ?_;rintro _ w1 ⟨E1,y1,rfl,hy1⟩;have hs1:=E1.size;refine Wo rfl (opv_geq rfl rfl) ?_
  refine Wo rfl (Kb (v:=.bool _) rfl) <| Kd <| Ja ?_;refine at_ret (v:=.bool _) rfl ?_;refine ⟨congrArg Value.bool ?_,E1⟩
 rcases hy1 with ⟨rfl,h9⟩ | ⟨h8,h9⟩
 ·rw [h9];rfl
 ·rw [h9];exact decide_eq_true h8
theorem emptyPicture_ok (w:World) (n:Nat) (hn:n≤1048576):Does Tryz.prog 183 [.int .i64 (n:Int)] w (RetO w XR (List.replicate n (List.replicate n 0))):=by
 refine Jc Tryz.func183 rfl Tryz.results183 Tryz.ntmps183 rfl ?_
 focus
  refine Ke <| Kc rfl <| Wo rfl (Kb (v:=.slice _ _ _) rfl) <| Kd <| Ke <| Kc rfl <| Js (XSl 3 XInt) rfl el23 Tryz.sizeOf88 ?_
  rintro b1 w1 hb1 b1lt E1 hO1;have hs1:=E1.size;refine Wo rfl (Kb (v:=.slice _ _ _) rfl) <| Kd <| Ke <| Ke <| Kc rfl <| Wo rfl (Ka (v:=.int _ _) rfl) ?_
  refine Wo rfl (Ka (v:=.int _ _) rfl) <| Kd <| Kr ?_
 refine Jh [3,6,7,8,9,10,11,12,13] (fun (k,u)=>[(6,.int .i64 (k:Nat)),(3,u)]) (fun (k,u) w'=>Ext w w'∧k≤n∧Owned w.heap.size XR w' u (List.replicate k (List.replicate n 0))) (fun x=>n - x.1) (0,.slice (some ⟨b1,0,none⟩) 0 0) (by repeat (first | exact trivial | refine And.intro rfl ?_)) ?_ ?_
 ·exact ⟨by assumption,Nat.zero_le _,by simpa using hO1⟩
 rintro ⟨k,u⟩ ρj w2 ⟨E2,hk,hO2⟩
 focus
  have szE2:=E2.size;have szE1:=E1.size;refine Ke <| Kc rfl <| Wo rfl (Ks rfl rfl) <| Kd <| Ke <| Kg rfl (fun h1=>?_) (fun h1=>?_);refine Kt ?_
  refine Ke <| Kr <| Kc rfl <| Wo rfl (Ka (v:=u) rfl) <| Wo rfl (Ka (v:=.int _ _) rfl) <| Wo_makeI rfl el88 rfl (by omega) ?_;rintro b2 w3 hb2 b2lt E3 hO3
  have hs2:=E3.size;refine Ju (ps:=[(0,.slice _ _ _)]) (cs:=[_]) rfl Tryz.underlying23 Tryz.sizeOf88 Tryz.zeroValue88 rfl rfl rfl rfl ?_;rintro b3 w4 hb3 E4 hB1;have hlb3:=hB1.lt;have hs3:=E4.size
  refine Jv rfl el23 rfl rfl hB1 (hO2.toB.ext (E3.trans E4)) (hO3.toB.ext E4).o (by omega) (by first | omega | (simp <;> omega)) (by omega) (by omega) ((E2.trans E3).trans E4) (by omega) ?_
  have hT1:=(hO2.toB.ext (E3.trans E4));rintro v1 w5 hO2 E5 M1;have hO3:=(hO3.toB.ext E4).moves M1 hT1 (by omega);have hB1:=hB1.moves M1 hT1 (by omega);have hs4:=E5.size;refine Wo rfl (Kb (v:=v1) rfl) ?_
  refine Kd <| Kc rfl <| Wo rfl (Kw rfl rfl (by omega)) ?_;refine Wo rfl (Ka (v:=.int _ _) rfl) <| Kd ?_;rotate_left;refine Jg ?_;refine exitX_same ?_;refine Ke ?_
  refine Kc rfl <| Wo rfl (Ka (v:=u) rfl) <| Wo rfl (Kb (v:=u) rfl) <| Kd <| Ja ?_;refine ⟨E2,(congrArg (Owned _ _ _ _) ?_).mp (hO2.toB.o.mono (by omega))⟩;rotate_left
 ·refine ⟨((k+1,v1)),by repeat (first | exact trivial | refine And.intro rfl ?_),by repeat (first | with_reducible exact Same.refl | refine Same.upd rfl ?_ | refine Same.upds rfl ?_ | refine Same.mix rfl ?_),?_,?_⟩
  ·refine ⟨by assumption,by omega,?_⟩
   rw [List.replicate_succ'];exact hO2
  ·simp only;omega
 ·obtain rfl:k=n:=by omega
  rfl
theorem ints_any2 (l:List Nat) (g:Int→Bool):(ints l).any g=l.any fun x=>g (x:Int):=by
 unfold ints;rw [List.any_map];rfl
theorem ints_get2 {l:List Nat} {k:Nat} (h:k < l.length):(ints l)[k]'(by rw [ints_len];exact h)=((l[k]:Nat):Int):=by simp [ints]
theorem arr_le5 {p:List (List Int)} (hp:Gr p) {i:Nat} (hi:i < p.length):(arr p i).length≤11:=by
 have h8:=arrR_len (p.getD i [])
 rw [getD_lt (by omega),hp.row (by omega)] at h8
 have:=hp.2.1
 unfold arr;rw [getD_lt (by omega)];omega
theorem answered_ok (w:World) (v v':Value) (p:List (List Int)) (h:ESl Ints w v p) (hp:Gr p) (S:Nat→Nat→Bool) (h':ESl Ints w v' (matV p S)) (a b:Nat) (ha:a < p.length) (hb:b < p.length) :
  Does Tryz.prog 204 [v,v',.int .i64 (a:Int),.int .i64 (b:Int)] w (Ret w (.bool (mch p S a b && (arr p b).all fun y=>(arr p a).any fun x=>S x y))):=by
 have hp5:=hp.2.1
 have hml:=matV_len (p:=p) S
 obtain ⟨qa,qc,rfl,_⟩:=id h'
 have harr : ∀ (w:World) (pv:Value) (z:Nat),ESl Ints w pv p→z < p.length→Does Tryz.prog 130 [pv,.int .i64 (z:Int)] w (RetO w XI (ints (arr p z))):=fun w pv z h hz =>
  arrowsOf_ok w pv p h (z:Int) (by omega) (by rw [getD_lt (by omega),hp.row (by omega)];omega)
 have hcl1 : ∀ (w1:World) (b3 b4 x y:Nat),Ext w w1→Blk w1 b3 [.slice qa (matV p S).length qc]→Blk w1 b4 [.int .i64 (x:Int)]→x < p.length→y < p.length→Does Tryz.prog 221 [.int .i64 (y:Int),.pointer (some ⟨b3,0,none⟩),.pointer (some ⟨b4,0,none⟩)] w1 (Ret w1 (.bool (S x y))):=by
  intro w1 b3 b4 x y E0 hB3 hB4 hx hy
  have hmr:=matV_rlen (p:=p) (S:=S) hx
  have hme:=matV_at (p:=p) (S:=S) hx hy
  refine Jc Tryz.func221 rfl Tryz.results221 Tryz.ntmps221 rfl ?_
  focus
   have szE0:=E0.size;refine Ke <| Kc rfl <| Wo rfl (Kb (v:=.bool _) rfl) <| Kd <| Ke <| Kc rfl ?_
   refine Wo (v:=.slice _ _ _) rfl (Km Tryz.isAgg23 rfl (hB3.cell rfl)) <| Wo (v:=.int _ _) rfl (Km Tryz.isAgg3 rfl (hB4.cell rfl)) ?_
   refine Ji Tryz.underlying23 Tryz.sizeOf88 Tryz.isAgg88 rfl (fun _=>rfl) rfl h' E0 rfl (by first | omega | (simp <;> omega)) ?_;rintro _ u1 hu1;refine Wo rfl (Ka (v:=.int _ _) rfl) ?_
   refine Ji Tryz.underlying88 Tryz.sizeOf3 Tryz.isAgg3 rfl (fun _=>rfl) rfl hu1 E0 rfl (by first | omega | (simp <;> omega)) ?_;rintro _ _ rfl;refine Wo rfl (Kx rfl rfl) ?_
   refine Wo rfl (Kb (v:=.bool _) rfl) <| Kd <| Ja ?_;refine at_ret (v:=.bool _) rfl ?_;refine ⟨congrArg Value.bool ?_,(Ext.refl _)⟩
  all_goals
   rw [hme]
   cases S x y <;> rfl
 have hcl2 : ∀ (w1:World) (b3 b4 x y:Nat),Ext w w1→Blk w1 b3 [.slice qa (matV p S).length qc]→Blk w1 b4 [.int .i64 (y:Int)]→x < p.length→y < p.length→Does Tryz.prog 222 [.int .i64 (x:Int),.pointer (some ⟨b3,0,none⟩),.pointer (some ⟨b4,0,none⟩)] w1 (Ret w1 (.bool (S x y))):=by
  intro w1 b3 b4 x y E0 hB3 hB4 hx hy
  have hmr:=matV_rlen (p:=p) (S:=S) hx
  have hme:=matV_at (p:=p) (S:=S) hx hy
  refine Jc Tryz.func222 rfl Tryz.results222 Tryz.ntmps222 rfl ?_
  focus
   have szE0:=E0.size;refine Ke <| Kc rfl <| Wo rfl (Kb (v:=.bool _) rfl) <| Kd <| Ke <| W_draw mixed (by kernel_rfl) rfl ?_
   refine Jb (v:=.slice _ _ _) rfl (fun w' hw'=>Km Tryz.isAgg23 rfl ((hB3.ext hw').cell rfl)) ?_;refine Jb rfl (fun _ _=>Ka (v:=.int _ _) rfl) ?_
   refine Wq_get Tryz.underlying23 Tryz.sizeOf88 Tryz.isAgg88 rfl (fun _=>rfl) rfl h' E0 rfl (by first | omega | (simp <;> omega)) ?_;rintro _ u1 hu1
   refine Jb (v:=.int _ _) rfl (fun w' hw'=>Km Tryz.isAgg3 rfl ((hB4.ext hw').cell rfl)) ?_
   refine Wq_get Tryz.underlying88 Tryz.sizeOf3 Tryz.isAgg3 rfl (fun _=>rfl) rfl hu1 E0 rfl (by first | omega | (simp <;> omega)) ?_;rintro _ _ rfl;refine Jb rfl (fun _ _=>Kx rfl rfl) ?_
   refine Jb rfl (fun _ _=>Kb (v:=.bool _) rfl) ?_;refine Wq_nil (fun w2 E1=>?_);have hs1:=E1.size;refine Ja ?_;refine at_ret (v:=.bool _) rfl ?_;refine ⟨congrArg Value.bool ?_,E1⟩
  all_goals
   rw [hme]
   cases S x y <;> rfl
 refine Jc Tryz.func204 rfl Tryz.results204 Tryz.ntmps204 rfl ?_
 focus
  refine Ke <| Kc rfl <| Jp rfl rfl rfl ?_;rintro b1 w1 hb1 E1 hB1;have hlb1:=hB1.lt;have hs1:=E1.size;refine Wo rfl (Kb (v:=.bool _) rfl) <| Kd <| Ke ?_
  refine Ke <| Kc rfl <| Wo rfl (Ka (v:=v) rfl) <| Wo rfl (Ka (v:=.int _ _) rfl) ?_
  refine Kj rfl (Jn (a:=v) (b:=.int _ _) Tryz.call130 rfl rfl) (harr _ _ _ ((Mono.mono E1 h)) (by assumption)) ?_;rintro u1 w2 ⟨E2,hO1⟩;have hs2:=E2.size
  refine Wo rfl (Ko Tryz.underlying88 rfl (Owned.read hO1)) <| Wo rfl (Ka (v:=.int _ _) rfl) <| Kd <| Kr ?_
 have hla:=ints_len (arr p a)
 have hlb:=ints_len (arr p b)
 have ha5:=arr_le5 hp ha
 have hb5:=arr_le5 hp hb
 have hB1':Blk w1 b1 [.slice qa (matV p S).length qc]:=hB1
 have hB2':=hB1'.ext E2
 clear hB1 hB1'
 refine Jh [8,10,17,18,19,20,21,22,23,24,25,26,27] (fun (k:Nat)=>[(17,.int .i64 (k:Nat))]) (fun k w'=>Ext w2 w'∧k≤(arr p a).length∧((arr p a).take k).all (fun x=>(arr p b).any fun y=>S x y)=true) (fun x=>(arr p a).length - x) 0 (by repeat (first | exact trivial | refine And.intro rfl ?_)) ?_ ?_
 ·exact ⟨Ext.refl _,Nat.zero_le _,by simp⟩
 rintro k ρj w3 ⟨E3,hk,hg⟩
 by_cases hkl:k < (arr p a).length
 ·have hmm:=List.getElem_mem hkl
  have hga:=ints_get2 hkl
  have hts:=take_snoc _ _ hkl
  have hxl:=((mem_arr hp ha).1 hmm).1
  have hcon : ∀ (w1:World) (u:Value) (b3 b4:Nat),Ext w w1→Blk w1 b3 [.slice qa (matV p S).length qc]→Blk w1 b4 [.int .i64 ((ints (arr p a))[k]'(by omega))]→Ints w1 u (ints (arr p b))→Does Tryz.prog 146 [u,.func (.func 221) [].toArray [.pointer (some ⟨b3,0,none⟩),.pointer (some ⟨b4,0,none⟩)].toArray] w1 (Ret w1 (.bool ((arr p b).any fun y=>S (arr p a)[k] y))):=by
   intro w1 u b3 b4 E0 hB3 hB4 hu
   rw [hga] at hB4
   have:=ContainsFunc_ok w1 u _ hu 221 [.pointer (some ⟨b3,0,none⟩),.pointer (some ⟨b4,0,none⟩)] (fun y=>S (arr p a)[k] y.toNat) Tryz.call221 (fun y w' hy e=>by
    simp only [ints,List.mem_map] at hy
    obtain ⟨j,hj,rfl⟩:=hy
    exact hcl1 w' b3 b4 _ j (E0.trans e) (hB3.ext e) (hB4.ext e) hxl ((mem_arr hp hb).1 hj).1)
   rw [ints_any2] at this
   exact this
  focus
   have szE3:=E3.size;have szE2:=E2.size;have szE1:=E1.size;refine Ke <| Kc rfl <| Wo rfl (Ks rfl rfl) <| Kd <| Ke <| Kg rfl (fun h1=>?_) (fun h1=>?_)
   refine Kt ?_;refine Ke <| Kr <| Ke <| Kc rfl ?_
   refine Ji Tryz.underlying88 Tryz.sizeOf3 Tryz.isAgg3 rfl (fun _=>rfl) rfl (Owned.read hO1) E3 rfl (by first | omega | (simp <;> omega)) ?_;rintro _ _ rfl;refine Wo_alloc rfl Tryz.zeroValue3 rfl ?_;rintro b2 w4 hb2 E4 hB1
   have hlb2:=hB1.lt;have hs3:=E4.size;refine Wo_st (v:=.int _ _) rfl Tryz.sizeOf3 rfl rfl rfl hB1 (by decide) (by omega) (((E1.trans E2).trans E3).trans E4) ?_;rintro w5 E5 hB1 K1 hz1
   have E6:=((E2.trans E3).trans E4).wroteAt (((E1.trans E2).trans E3).trans E4) E5 K1 hz1 (by omega);have szE6:=E6.size;have E7:=(E3.trans E4).wroteAt (((E1.trans E2).trans E3).trans E4) E5 K1 hz1 (by omega)
   have szE7:=E7.size;have E8:=E4.wroteAt (((E1.trans E2).trans E3).trans E4) E5 K1 hz1 (by omega);have szE8:=E8.size;simp only [List.set] at hB1;have hO1:=(hO1.toB.ext (E3.trans E4)).wrote K1 (by omega)
   have hB2':=(hB2'.ext (E3.trans E4)).of_heap (K1 _ (by omega));refine Kd <| Ke <| Kc rfl <| Wo rfl (Ka (v:=v) rfl) <| Wo rfl (Ka (v:=.int _ _) rfl) ?_
   refine Kj rfl (Jn (a:=v) (b:=.int _ _) Tryz.call130 rfl rfl) (harr _ _ _ ((Mono.mono E5 h)) (by assumption)) ?_;rintro u2 w6 ⟨E9,hO2⟩;have hs4:=E9.size;refine Wo rfl (opv_makeFunc rfl rfl) ?_
   refine Kj rfl (Jn (a:=u2) (b:=.func _ _ _) Tryz.call146 rfl rfl) (hcon _ _ _ _ ((E5.trans E9)) ((hB2'.ext E9)) ((hB1.ext E9)) ((Owned.read hO2))) ?_;rintro _ w7 ⟨rfl,E10⟩;have hs5:=E10.size
   refine Wo rfl (Jf rfl) <| Kd <| Jx rfl (fun h2=>?_) (fun h2=>?_);refine Ke <| Kc rfl <| Wo rfl (Kb (v:=.bool _) rfl) <| Kd <| Ja ?_
   refine at_ret (v:=.bool _) rfl ?_;refine ⟨congrArg Value.bool ?_,((E5.trans E9).trans E10)⟩;rotate_left;refine Kt ?_;refine Kc rfl <| Wo rfl (Kw rfl rfl (by omega)) ?_
   refine Wo rfl (Ka (v:=.int _ _) rfl) <| Kd ?_;rotate_left;(exfalso;omega)
  ·have hz:((arr p b).any fun y=>S (arr p a)[k] y)=false:=by
    cases hq:(arr p b).any fun y=>S (arr p a)[k] y with
    | false=>rfl
    | true=>exact absurd (show (!((arr p b).any fun y=>S (arr p a)[k] y))=true by assumption) (by rw [hq];decide)
   have hm0:mch p S a b=false:=List.all_eq_false.2 ⟨_,hmm,by rw [hz];decide⟩
   rw [hm0];rfl
  ·have hz:((arr p b).any fun y=>S (arr p a)[k] y)=true:=by
    cases hq:(arr p b).any fun y=>S (arr p a)[k] y with
    | true=>rfl
    | false=>exact absurd (show (!((arr p b).any fun y=>S (arr p a)[k] y))=false by assumption) (by rw [hq];decide)
   refine ⟨(k+1),by repeat (first | exact trivial | refine And.intro rfl ?_),by repeat (first | with_reducible exact Same.refl | refine Same.upd rfl ?_ | refine Same.upds rfl ?_ | refine Same.mix rfl ?_),?_,?_⟩
   ·refine ⟨E7.trans (E9.trans E10),by omega,?_⟩
    rw [hts,List.all_append,hg,List.all_cons,hz];rfl
   ·omega
 ·obtain rfl:k=(arr p a).length:=by omega
  rw [List.take_length] at hg
  have hm1:mch p S a b=true:=hg
  rw [hm1,Bool.true_and]
  clear hg hm1 hk hkl
  focus
   have szE3:=E3.size;have szE2:=E2.size;have szE1:=E1.size;refine Ke <| Kc rfl <| Wo rfl (Ks rfl rfl) <| Kd <| Ke <| Kg rfl (fun h1=>?_) (fun h1=>?_)
   (exfalso;omega);refine Jg ?_;refine exitX_same ?_;refine Ke <| Ke <| Kc rfl <| Wo rfl (Ka (v:=v) rfl) <| Wo rfl (Ka (v:=.int _ _) rfl) ?_
   refine Kj rfl (Jn (a:=v) (b:=.int _ _) Tryz.call130 rfl rfl) (harr _ _ _ ((Mono.mono ((E1.trans E2).trans E3) h)) (by assumption)) ?_;rintro u2 w4 ⟨E4,hO2⟩;have hs3:=E4.size
   refine Wo rfl (Ko Tryz.underlying88 rfl (Owned.read hO2)) <| Wo rfl (Ka (v:=.int _ _) rfl) <| Kd <| Kr ?_
  have hB4':=hB2'.ext (E3.trans E4)
  refine Jh [8,12,32,33,34,35,36,37,38,39,40,41,42] (fun (k:Nat)=>[(32,.int .i64 (k:Nat))]) (fun k w'=>Ext w4 w'∧k≤(arr p b).length∧((arr p b).take k).all (fun y=>(arr p a).any fun x=>S x y)=true) (fun x=>(arr p b).length - x) 0 (by repeat (first | exact trivial | refine And.intro rfl ?_)) ?_ ?_
  ·exact ⟨Ext.refl _,Nat.zero_le _,by simp⟩
  rintro k ρk w5 ⟨E5,hk,hg⟩
  by_cases hkl:k < (arr p b).length
  ·have hmm:=List.getElem_mem hkl
   have hga:=ints_get2 hkl
   have hts:=take_snoc _ _ hkl
   have hxl:=((mem_arr hp hb).1 hmm).1
   have hcon : ∀ (w1:World) (u:Value) (b3 b4:Nat),Ext w w1→Blk w1 b3 [.slice qa (matV p S).length qc]→Blk w1 b4 [.int .i64 ((ints (arr p b))[k]'(by omega))]→Ints w1 u (ints (arr p a))→Does Tryz.prog 146 [u,.func (.func 222) [].toArray [.pointer (some ⟨b3,0,none⟩),.pointer (some ⟨b4,0,none⟩)].toArray] w1 (Ret w1 (.bool ((arr p a).any fun x=>S x (arr p b)[k]))):=by
    intro w1 u b3 b4 E0 hB3 hB4 hu
    rw [hga] at hB4
    have:=ContainsFunc_ok w1 u _ hu 222 [.pointer (some ⟨b3,0,none⟩),.pointer (some ⟨b4,0,none⟩)] (fun x=>S x.toNat (arr p b)[k]) Tryz.call222 (fun y w' hy e=>by
     simp only [ints,List.mem_map] at hy
     obtain ⟨j,hj,rfl⟩:=hy
     exact hcl2 w' b3 b4 j _ (E0.trans e) (hB3.ext e) (hB4.ext e) ((mem_arr hp ha).1 hj).1 hxl)
    rw [ints_any2] at this
    exact this
   focus
    have szE5:=E5.size;have szE4:=E4.size;have szE3:=E3.size;have szE2:=E2.size;have szE1:=E1.size;refine Ke <| Kc rfl <| Wo rfl (Ks rfl rfl) <| Kd <| Ke ?_
    refine Kg rfl (fun h2=>?_) (fun h2=>?_);refine Kt ?_;refine Ke <| Kr <| Ke <| Kc rfl ?_
    refine Ji Tryz.underlying88 Tryz.sizeOf3 Tryz.isAgg3 rfl (fun _=>rfl) rfl (Owned.read hO2) E5 rfl (by first | omega | (simp <;> omega)) ?_;rintro _ _ rfl;refine Wo_alloc rfl Tryz.zeroValue3 rfl ?_;rintro b2 w6 hb2 E6 hB1
    have hlb2:=hB1.lt;have hs4:=E6.size;refine Wo_st (v:=.int _ _) rfl Tryz.sizeOf3 rfl rfl rfl hB1 (by decide) (by omega) (((((E1.trans E2).trans E3).trans E4).trans E5).trans E6) ?_;rintro w7 E7 hB1 K1 hz1
    have E8:=((((E2.trans E3).trans E4).trans E5).trans E6).wroteAt (((((E1.trans E2).trans E3).trans E4).trans E5).trans E6) E7 K1 hz1 (by omega);have szE8:=E8.size
    have E9:=(((E3.trans E4).trans E5).trans E6).wroteAt (((((E1.trans E2).trans E3).trans E4).trans E5).trans E6) E7 K1 hz1 (by omega);have szE9:=E9.size
    have E10:=((E4.trans E5).trans E6).wroteAt (((((E1.trans E2).trans E3).trans E4).trans E5).trans E6) E7 K1 hz1 (by omega);have szE10:=E10.size
    have E11:=(E5.trans E6).wroteAt (((((E1.trans E2).trans E3).trans E4).trans E5).trans E6) E7 K1 hz1 (by omega);have szE11:=E11.size
    have E12:=E6.wroteAt (((((E1.trans E2).trans E3).trans E4).trans E5).trans E6) E7 K1 hz1 (by omega);have szE12:=E12.size;simp only [List.set] at hB1
    have hO1:=(hO1.toB.ext (((E3.trans E4).trans E5).trans E6)).wrote K1 (by omega);have hB2':=(hB2'.ext (((E3.trans E4).trans E5).trans E6)).of_heap (K1 _ (by omega));have hO2:=(hO2.toB.ext (E5.trans E6)).wrote K1 (by omega)
    have hB4':=(hB4'.ext (E5.trans E6)).of_heap (K1 _ (by omega));refine Kd <| Ke <| Kc rfl <| Wo rfl (Ka (v:=v) rfl) <| Wo rfl (Ka (v:=.int _ _) rfl) ?_
    refine Kj rfl (Jn (a:=v) (b:=.int _ _) Tryz.call130 rfl rfl) (harr _ _ _ ((Mono.mono E7 h)) (by assumption)) ?_;rintro u3 w8 ⟨E13,hO3⟩;have hs5:=E13.size;refine Wo rfl (opv_makeFunc rfl rfl) ?_
    refine Kj rfl (Jn (a:=u3) (b:=.func _ _ _) Tryz.call146 rfl rfl) (hcon _ _ _ _ ((E7.trans E13)) ((hB2'.ext E13)) ((hB1.ext E13)) ((Owned.read hO3))) ?_;rintro _ w9 ⟨rfl,E14⟩;have hs6:=E14.size
    refine Wo rfl (Jf rfl) <| Kd <| Jx rfl (fun h3=>?_) (fun h3=>?_);refine Ke <| Kc rfl <| Wo rfl (Kb (v:=.bool _) rfl) <| Kd <| Ja ?_
    refine at_ret (v:=.bool _) rfl ?_;refine ⟨congrArg Value.bool ?_,((E7.trans E13).trans E14)⟩;rotate_left;refine Kt ?_;refine Kc rfl <| Wo rfl (Kw rfl rfl (by omega)) ?_
    refine Wo rfl (Ka (v:=.int _ _) rfl) <| Kd ?_;rotate_left;(exfalso;omega)
   ·have hz:((arr p a).any fun x=>S x (arr p b)[k])=false:=by
     cases hq:(arr p a).any fun x=>S x (arr p b)[k] with
     | false=>rfl
     | true=>exact absurd (show (!((arr p a).any fun x=>S x (arr p b)[k]))=true by assumption) (by rw [hq];decide)
    exact (List.all_eq_false.2 ⟨_,hmm,by rw [hz];decide⟩).symm
   ·have hz:((arr p a).any fun x=>S x (arr p b)[k])=true:=by
     cases hq:(arr p a).any fun x=>S x (arr p b)[k] with
     | true=>rfl
     | false=>exact absurd (show (!((arr p a).any fun x=>S x (arr p b)[k]))=false by assumption) (by rw [hq];decide)
    refine ⟨(k+1),by repeat (first | exact trivial | refine And.intro rfl ?_),by repeat (first | with_reducible exact Same.refl | refine Same.upd rfl ?_ | refine Same.upds rfl ?_ | refine Same.mix rfl ?_),?_,?_⟩
    ·refine ⟨E11.trans (E13.trans E14),by omega,?_⟩
     rw [hts,List.all_append,hg,List.all_cons,hz];rfl
    ·omega
  ·obtain rfl:k=(arr p b).length:=by omega
   rw [List.take_length] at hg
   focus
    have szE5:=E5.size;have szE4:=E4.size;have szE3:=E3.size;have szE2:=E2.size;have szE1:=E1.size;refine Ke <| Kc rfl <| Wo rfl (Ks rfl rfl) <| Kd <| Ke ?_
    refine Kg rfl (fun h2=>?_) (fun h2=>?_);(exfalso;omega);refine Jg ?_;refine exitX_same ?_;refine Ke <| Kc rfl <| Wo rfl (Kb (v:=.bool _) rfl) <| Kd ?_
    refine Ja ?_;refine at_ret (v:=.bool _) rfl ?_;refine ⟨congrArg Value.bool ?_,((((E1.trans E2).trans E3).trans E4).trans E5)⟩
   exact hg.symm
end Go.Proofs.YtbgpppaljpngmaaGreatDoor
set_option linter.unusedVariables false
set_option linter.unusedSimpArgs false
namespace Go.Hs
section
variable {P:Program} {n:Nat} {N:Env→World→Prop} {ρ : Env} {w w0:World} {all:Array Oper} {rest:List Oper}
 {d:Nat} {ty t el:TypeId} {pos:String} {after:Array Edge} {g:Option (Nat × Bool)} {x y:Operand} {v:Value} {zs cs:List Value} {ps:List (Nat × Value)} {b i:Nat}
theorem Jo {k:Nat} {parts:Array (Nat × Operand)} {z:Value} (hw:wantedE all ⟨some d,.buildSlice t k parts,ty,pos,after,g⟩ ρ = true) (ht:P.underlying t=some (.slice el)) (hs : ∀ w,(sizeOf el).run P w=.ok 1 w)
  (hz : ∀ w,(zeroValue el).run P w=.ok z w) (h1:isCell z=true) (hb:(Nat.ble 1 k && Nat.ble k 1000)=true) (hp:parts.toList.map (fun p=>(p.1,evalE ρ p.2))=ps) (hc:fillF (List.replicate k z) ps=some cs)
  (hk : ∀ b w1,w.heap.size≤b→Ext w w1→Blk w1 b cs→w1.heap[b]? = some (.cells cs.toArray el (0,0))→Wops P n all rest N (upd ρ d (.slice (some ⟨b,0,none⟩) k k)) w1) :
  Wops P n all (⟨some d,.buildSlice t k parts,ty,pos,after,g⟩::rest) N ρ w:=by
 have hb':1≤k∧k≤1000:=by simpa using hb
 have e:(Array.map (fun x=>match x with | (i,x)=>(i,evalE ρ x)) parts).toList=ps:=by rw [← hp];simp
 have hr:(Array.map (fun i=>(#[z]:Array Value)[i % (#[z]:Array Value).size]!) (Array.range k))=(List.replicate k z).toArray:=by
  apply Array.ext'
  simp only [Array.toList_map,Array.toList_range]
  apply List.ext_getElem
  ·simp
  ·intro i h1 h2;simp [Nat.mod_one]
 have hf:=fill_eq (k:=k) (place:=fun i=>some (i*1,1)) (fun i hi=>by simp) ps (List.replicate k z) cs (by simp) hc
 have hz0:z.cells=#[z]:=isCell_cells h1
 refine Wo_w hw (show OpW P (.buildSlice t k parts) ty ρ w (.slice (some ⟨w.heap.size,0,none⟩) k k) (w.alloc (.cells cs.toArray el)) from ?_) (hk _ _ (Nat.le_refl _) ((Ext.refl w).alloc _) (Blk.new w cs el) (heap_alloc_new w _))
 simp only [OpW,execOp,Instr.buildSlice,Sem.run_bind,Result.andThen_ok,run_und ht,hs,Nat.mul_one]
 rw [if_neg (by omega),if_neg (by omega)]
 simp only [Sem.run_bind,hz,Result.andThen_ok,Sem.run_pure,hz0,e]
 rw [hr]
 simp only [Nat.mul_one] at hf
 rw [hf]
 simp [newRow]
end
end Go.Hs
namespace Go.Proofs.YtbgpppaljpngmaaGreatDoor
open Go.Hs
set_option maxRecDepth 10000
set_option maxHeartbeats 4000000
set_option linter.unusedVariables false
set_option linter.unusedSimpArgs false
theorem fill_skip {α : Type} (l:List α) (k:Nat) (h:k < l.length) (z : α) (hz:l[k]=z):l.take k++List.replicate (l.length - k) z=l.take (k+1)++List.replicate (l.length - (k+1)) z:=by
 rw [take_snoc _ _ h,hz,show l.length - k=(l.length - (k+1))+1 by omega,List.replicate_succ]
 simp
theorem set_fill' {α : Type} (l:List α) (n k:Nat) (hn:l.length=n) (h:k < n) (z x : α) (hx:l[k]? = some x):(l.take k++List.replicate (n - k) z).set k x=l.take (k+1)++List.replicate (n - (k+1)) z:=by
 subst hn
 have:=set_fill l k h z
 rw [List.getElem?_eq_getElem h] at hx
 rw [← Option.some.inj hx];exact this
theorem fill_get {α : Type} (l:List α) (k:Nat) (h:k < l.length) (z : α):(l.take k++List.replicate (l.length - k) z)[k]? = some z:=by
 have hl:(l.take k).length=k:=by rw [List.length_take];omega
 rw [List.getElem?_append_right (by omega),hl,Nat.sub_self,List.getElem?_replicate,if_pos (by omega)]
theorem leftAfter_ok (w:World) (v:Value) (p:List (List Int)) (h:ESl Ints w v p) (hp:Gr p) (n:Nat) (hn:n≤1000):Does Tryz.prog 177 [v,.int .i64 (n:Int)] w (RetO w XR (matV p (bsm p n))):=by
 have hp5:=hp.2.1
 have hle:=h.le
 have hem : ∀ w,Does Tryz.prog 183 [.int .i64 (p.length:Int)] w (RetO w XR (List.replicate p.length (List.replicate p.length 0))):=fun w=>emptyPicture_ok w p.length (by omega)
 refine Jc Tryz.func177 rfl Tryz.results177 Tryz.ntmps177 rfl ?_
 focus
  refine Ke <| Kc rfl <| Wo rfl (Kb (v:=.slice _ _ _) rfl) <| Kd <| Ke <| Kc rfl <| Wo rfl (Ka (v:=v) rfl) ?_
  refine Wo rfl (Ko Tryz.underlying23 rfl h) <| Kj rfl (Jk (a:=.int _ _) Tryz.call183 rfl) (hem _) ?_;rintro u1 w1 ⟨E1,hO1⟩;have hs1:=E1.size;refine Wo rfl (Kb (v:=u1) rfl) <| Kd ?_
  refine Ke <| Ke <| Kc rfl <| Wo rfl (Ka (v:=u1) rfl) <| Wo rfl (Ko Tryz.underlying23 rfl (Owned.read hO1)) <| Wo rfl (Ka (v:=.int _ _) rfl) ?_
  refine Kd <| Kr ?_
 have hL:(List.replicate p.length (List.replicate p.length (1:Int))).length=p.length:=by simp
 have hL2:(List.replicate p.length (List.replicate p.length (0:Int))).length=p.length:=by simp
 have hI:(List.replicate p.length (1:Int)).length=p.length:=by simp
 refine Jh [7,8,17,18,19,20,21,22,23,24,25,26,27,28,29,30] (fun (i,rows)=>[(17,.int .i64 (i:Nat))]) (fun (i,rows) w'=>Ext w w'∧i≤p.length∧Owned w.heap.size XR w' u1 rows∧rows=(List.replicate p.length (List.replicate p.length (1:Int))).take i++List.replicate (p.length - i) (List.replicate p.length 0)) (fun x=>p.length - x.1) (0,List.replicate p.length (List.replicate p.length 0)) (by repeat (first | exact trivial | refine And.intro rfl ?_)) ?_ ?_
 ·exact ⟨E1,Nat.zero_le _,hO1,by simp⟩
 rintro ⟨i,rows⟩ ρj w2 ⟨E2,hi,hO2,hr⟩
 have hrl:rows.length=p.length:=by rw [hr];simp;omega
 by_cases hil:i < p.length
 ·have hri:rows[i]=List.replicate p.length (0:Int):=by
   have h9:rows[i]? = some (List.replicate p.length (0:Int)):=by
    rw [hr]
    have:=fill_get (List.replicate p.length (List.replicate p.length (1:Int))) i (by omega) (List.replicate p.length (0:Int))
    rw [hL] at this;exact this
   rw [List.getElem?_eq_getElem (by omega)] at h9
   exact Option.some.inj h9
  have hrll:rows[i].length=p.length:=by rw [hri];simp
  obtain ⟨ub,uc,rfl,_⟩:=hO2.lit (by omega)
  have hub:=hO2.lt_own (k:=ub) rfl
  obtain ⟨brw,crw,hRow,hbw1,hbw2⟩:=hO2.rowAt (i:=i) (by omega) (by omega)
  focus
   have szE2:=E2.size;have szE1:=E1.size;refine Ke <| Kc rfl <| Wo rfl (Ks rfl rfl) <| Kd <| Ke <| Kg rfl (fun h1=>?_) (fun h1=>?_);refine Kt ?_
   refine Ke <| Kr <| Ke <| Kc rfl <| Wo_rowAt Tryz.underlying23 Tryz.sizeOf88 Tryz.isAgg88 rfl (fun _=>rfl) rfl ⟨_,_,rfl⟩ rfl hRow (by first | omega | (simp <;> omega)) ?_;rintro _
   refine Wo rfl (Kb (v:=.slice _ _ _) rfl) <| Kd <| Ke <| Kc rfl <| Wo rfl (Ka (v:=.slice _ _ _) rfl) <| Wo rfl (opv_len_slice Tryz.underlying88 rfl) ?_
   refine Wo rfl (Ka (v:=.int _ _) rfl) <| Kd <| Kr ?_;rotate_left;(exfalso;omega)
  have hJ : ∀ j,j < p.length→(List.replicate p.length (1:Int))[j]? = some 1:=fun j hj=>by rw [List.getElem?_replicate,if_pos hj]
  refine Jh [8,23,24,25,26,27,28,29] (fun (j,rows')=>[(23,.int .i64 (j:Nat))]) (fun (j,rows') w'=>Ext w w'∧w2.heap.size≤w'.heap.size∧j≤p.length∧Owned w.heap.size XR w' (.slice (some ⟨ub,0,none⟩) rows.length uc) rows'∧RowAt w' (.slice (some ⟨ub,0,none⟩) rows.length uc) i brw rows[i].length crw∧rows'=rows.set i ((List.replicate p.length (1:Int)).take j++List.replicate (p.length - j) 0)) (fun x=>p.length - x.1) (0,rows) (by repeat (first | exact trivial | refine And.intro rfl ?_)) ?_ ?_
  ·refine ⟨E2,Nat.le_refl _,Nat.zero_le _,hO2,hRow,?_⟩
   rw [show (List.replicate p.length (1:Int)).take 0++List.replicate (p.length - 0) 0=rows[i] by rw [hri];simp]
   simp
  rintro ⟨j,rows'⟩ ρk w3 ⟨E3,hs3,hj,hO3,hR3,hr3⟩
  have hrl3:rows'.length=p.length:=by rw [hr3];simp [hrl]
  have hri3:rows'[i]=(List.replicate p.length (1:Int)).take j++List.replicate (p.length - j) 0:=by
   simp only [hr3,List.getElem_set_self]
  have hrll3:rows'[i].length=p.length:=by rw [hri3];simp;omega
  clear hRow hO2
  by_cases hjl:j < p.length
  ·have hnew:rows'.set i (rows'[i].set j 1)=rows.set i ((List.replicate p.length (1:Int)).take (j+1)++List.replicate (p.length - (j+1)) 0):=by
    rw [hri3,set_fill' _ p.length j hI hjl 0 1 (hJ j hjl),hr3,List.set_set]
   focus
    have szE3:=E3.size;have szE2:=E2.size;have szE1:=E1.size;refine Ke <| Kc rfl <| Wo rfl (Ks rfl rfl) <| Kd <| Ke <| Kg rfl (fun h2=>?_) (fun h2=>?_)
    refine Kt ?_;refine Ke <| Kr <| Ke <| Kc rfl <| Wo rfl (Ka (v:=.int _ _) rfl) <| Wo rfl (Kb (v:=.int _ _) rfl) <| Kd ?_
    refine Kc rfl <| Wo rfl (Ka (v:=.slice _ _ _) rfl) <| Wo rfl (Ka (v:=.int _ _) rfl) <| Wo rfl (Jr Tryz.underlying88 Tryz.sizeOf3 rfl rfl (by omega)) ?_
    refine Wo_gset rfl Tryz.sizeOf3 rfl rfl hO3.toB hR3 (by first | omega | (simp <;> omega)) (by first | omega | (simp <;> omega)) ?_;rintro w4 hO3 hR3 On1 K1 hz1;have E4:=On1.ext1 E3 (by omega);have hs2:=On1.size
    refine Kd <| Kc rfl <| Wo rfl (Kw rfl rfl (by omega)) ?_;refine Wo rfl (Ka (v:=.int _ _) rfl) <| Kd ?_;rotate_left;(exfalso;omega)
   refine ⟨((j+1,rows'.set i (rows'[i].set j 1))),by repeat (first | exact trivial | refine And.intro rfl ?_),by repeat (first | with_reducible exact Same.refl | refine Same.upd rfl ?_ | refine Same.upds rfl ?_ | refine Same.mix rfl ?_),?_,?_⟩
   ·exact ⟨by assumption,by omega,by omega,hO3,hR3,hnew⟩
   ·simp only;omega
  ·obtain rfl:j=p.length:=by omega
   have hnew:rows'=(List.replicate p.length (List.replicate p.length (1:Int))).take (i+1)++List.replicate (p.length - (i+1)) (List.replicate p.length 0):=by
    rw [← set_fill' _ p.length i hL hil _ (List.replicate p.length (1:Int)) (by rw [List.getElem?_replicate,if_pos hil]),hr3,← hr]
    simp
   focus
    have szE3:=E3.size;have szE2:=E2.size;have szE1:=E1.size;refine Ke <| Kc rfl <| Wo rfl (Ks rfl rfl) <| Kd <| Ke <| Kg rfl (fun h2=>?_) (fun h2=>?_)
    (exfalso;omega);refine Jg ?_;refine exitX_same ?_;refine Kc rfl <| Wo rfl (Kw rfl rfl (by omega)) ?_;refine Wo rfl (Ka (v:=.int _ _) rfl) <| Kd ?_
   refine ⟨((i+1,rows')),by repeat (first | exact trivial | refine And.intro rfl ?_),by repeat (first | with_reducible exact Same.refl | refine Same.upd rfl ?_ | refine Same.upds rfl ?_ | refine Same.mix rfl ?_),?_,?_⟩
   ·exact ⟨E3,by omega,hO3,hnew⟩
   ·simp only;omega
 ·obtain rfl:i=p.length:=by omega
  have hr0:rows=matV p (bsm p 0):=by rw [hr,← matV_zero];simp
  subst hr0
  focus
   have szE2:=E2.size;have szE1:=E1.size;refine Ke <| Kc rfl <| Wo rfl (Ks rfl rfl) <| Kd <| Ke <| Kg rfl (fun h1=>?_) (fun h1=>?_);(exfalso;omega)
   refine Jg ?_;refine exitX_same ?_;refine Ke <| Ke <| Kc rfl <| Wo rfl (Ka (v:=.int _ _) rfl) <| Wo rfl (Ka (v:=.int _ _) rfl) <| Kd <| Kr ?_
  clear hL hI hr
  refine Jh [5,9,10,11,32,33,34,35,36,37,38,39,40,41,42,43,44,45,46,47,48,49,50,51,52,53,54,55,56,57,58,59,60,61,62,63,64,65,66,67,68,69,70,71] (fun (m,u)=>[(32,.int .i64 (m:Nat)),(5,u)]) (fun (m,u) w'=>Ext w w'∧m≤n∧Owned w.heap.size XR w' u (matV p (bsm p m))) (fun x=>n - x.1) (0,u1) (by repeat (first | exact trivial | refine And.intro rfl ?_)) ?_ ?_
  ·exact ⟨E2,Nat.zero_le _,hO2⟩
  clear hO1 hO2
  rintro ⟨m,u⟩ ρm wm ⟨Em,hm,hOm⟩
  by_cases hmn:m < n
  ·have hZ:(List.replicate p.length (List.replicate p.length (0:Int))).length=p.length:=by simp
   have hT:=matV_len (p:=p) (bsm p (m+1))
   have hTm:=matV_len (p:=p) (bsm p m)
   focus
    have szEm:=Em.size;have szE2:=E2.size;have szE1:=E1.size;refine Ke <| Kc rfl <| Wo rfl (Ks rfl rfl) <| Kd <| Ke <| Kg rfl (fun h2=>?_) (fun h2=>?_)
    refine Kt ?_;refine Ke <| Kr <| Ke <| Kc rfl <| Wo rfl (Ka (v:=v) rfl) <| Wo rfl (Ko Tryz.underlying23 rfl h) ?_
    refine Kj rfl (Jk (a:=.int _ _) Tryz.call183 rfl) (hem _) ?_;rintro u2 w3 ⟨E3,hO1⟩;have hs2:=E3.size;refine Wo rfl (Kb (v:=u2) rfl) <| Kd <| Ke <| Ke ?_
    refine Kc rfl <| Wo rfl (Ka (v:=v) rfl) <| Wo rfl (Ko Tryz.underlying23 rfl h) <| Wo rfl (Ka (v:=.int _ _) rfl) <| Kd <| Kr ?_;rotate_left
    (exfalso;omega)
   refine Jh [10,11,39,40,41,42,43,44,45,46,47,48,49,50,51,52,53,54,55,56,57,58,59,60,61,62,63,64,65,66,67,68,69] (fun (a,nx)=>[(39,.int .i64 (a:Nat))]) (fun (a,nx) w'=>Ext w w'∧wm.heap.size≤w'.heap.size∧a≤p.length∧OwnedB w.heap.size wm.heap.size XR w' u (matV p (bsm p m))∧Owned wm.heap.size XR w' u2 nx∧nx=(matV p (bsm p (m+1))).take a++List.replicate (p.length - a) (List.replicate p.length 0)) (fun x=>p.length - x.1) (0,List.replicate p.length (List.replicate p.length 0)) (by repeat (first | exact trivial | refine And.intro rfl ?_)) ?_ ?_
   ·exact ⟨Em.trans E3,E3.size,Nat.zero_le _,hOm.toB.ext E3,hO1,by simp⟩
   rintro ⟨a,nx⟩ ρa wa ⟨Ea,hsa,ha,hBa,hOa,hna⟩
   have hnl:nx.length=p.length:=by rw [hna];simp [hT];omega
   by_cases hal:a < p.length
   ·have hra:nx[a]=List.replicate p.length (0:Int):=by
     have h9:nx[a]? = some (List.replicate p.length (0:Int)):=by
      rw [hna]
      have:=fill_get (matV p (bsm p (m+1))) a (by omega) (List.replicate p.length (0:Int))
      rw [hT] at this;exact this
     rw [List.getElem?_eq_getElem (by omega)] at h9
     exact Option.some.inj h9
    have hral:nx[a].length=p.length:=by rw [hra];simp
    obtain ⟨ub,uc,rfl,_⟩:=hOa.lit (by omega)
    have hub:=hOa.lt_own (k:=ub) rfl
    obtain ⟨brw,crw,hRow,hbw1,hbw2⟩:=hOa.rowAt (i:=a) (by omega) (by omega)
    have hTa:=matV_rlen (p:=p) (S:=bsm p (m+1)) hal
    have hma:=matV_rlen (p:=p) (S:=bsm p m) hal
    focus
     have szEa:=Ea.size;have szE3:=E3.size;have szEm:=Em.size;have szE2:=E2.size;have szE1:=E1.size;refine Ke <| Kc rfl <| Wo rfl (Ks rfl rfl) <| Kd <| Ke ?_
     refine Kg rfl (fun h3=>?_) (fun h3=>?_);refine Kt ?_;refine Ke <| Kr <| Ke <| Kc rfl <| Wo rfl (Ka (v:=.int _ _) rfl) ?_
     refine Wo rfl (Kb (v:=.int _ _) rfl) <| Kd <| Ke <| Kc rfl <| Wo rfl (Ka (v:=v) rfl) <| Wo rfl (Ko Tryz.underlying23 rfl h) ?_
     refine Wo rfl (Ka (v:=.int _ _) rfl) <| Kd <| Kr ?_;rotate_left;(exfalso;omega)
    refine Jh [11,44,45,46,47,48,49,50,51,52,53,54,55,56,57,58,59,60,61,62,63,64,65,66,67,68] (fun (b,nb)=>[(44,.int .i64 (b:Nat))]) (fun (b,nb) w'=>Ext w w'∧wa.heap.size≤w'.heap.size∧b≤p.length∧OwnedB w.heap.size wm.heap.size XR w' u (matV p (bsm p m))∧Owned wm.heap.size XR w' (.slice (some ⟨ub,0,none⟩) nx.length uc) nb∧RowAt w' (.slice (some ⟨ub,0,none⟩) nx.length uc) a brw nx[a].length crw∧nb=nx.set a (((matV p (bsm p (m+1)))[a]'(by omega)).take b++List.replicate (p.length - b) 0)) (fun x=>p.length - x.1) (0,nx) (by repeat (first | exact trivial | refine And.intro rfl ?_)) ?_ ?_
    ·refine ⟨Ea,Nat.le_refl _,Nat.zero_le _,hBa,hOa,hRow,?_⟩
     rw [show ((matV p (bsm p (m+1)))[a]'(by omega)).take 0++List.replicate (p.length - 0) 0=nx[a] by rw [hra];simp]
     simp
    clear hBa hOa hRow hO1
    rintro ⟨b,nb⟩ ρb wb ⟨Eb,hsb,hb,hBb,hOb,hRb,hnb⟩
    have hbl:nb.length=p.length:=by rw [hnb];simp [hnl]
    have hrb:nb[a]=((matV p (bsm p (m+1)))[a]'(by omega)).take b++List.replicate (p.length - b) 0:=by
     simp only [hnb,List.getElem_set_self]
    have hrbl:nb[a].length=p.length:=by rw [hrb];simp [hTa];omega
    by_cases hbl2:b < p.length
    ·have hme:=matV_at (p:=p) (S:=bsm p m) hal hbl2
     have hTe:=matV_at (p:=p) (S:=bsm p (m+1)) hal hbl2
     have han : ∀ (w:World) (v v':Value),ESl Ints w v p→ESl Ints w v' (matV p (bsm p m))→Does Tryz.prog 204 [v,v',.int .i64 (a:Int),.int .i64 (b:Int)] w (Ret w (.bool (mch p (bsm p m) a b && mch p (bsm p m) b a))):=fun w v v' h1 h2=>by
      have:=answered_ok w v v' p h1 hp (bsm p m) h2 a b hal hbl2
      rw [← mch_flip (bsm_sym m)] at this
      exact this
     have hset:bsm p (m+1) a b=true→nb.set a (nb[a].set b 1)=nx.set a (((matV p (bsm p (m+1)))[a]'(by omega)).take (b+1)++List.replicate (p.length - (b+1)) 0):=fun ht=>by
      rw [hrb,set_fill' _ p.length b hTa hbl2 0 1 (by rw [List.getElem?_eq_getElem (by omega),hTe,ht];rfl)]
      exact (congrArg (fun l=>List.set l a _) hnb).trans (List.set_set ..)
     have hskip:bsm p (m+1) a b=false→nb=nx.set a (((matV p (bsm p (m+1)))[a]'(by omega)).take (b+1)++List.replicate (p.length - (b+1)) 0):=fun ht=>by
      have:=fill_skip ((matV p (bsm p (m+1)))[a]'(by omega)) b (by omega) (0:Int) (by rw [hTe,ht];rfl)
      simp only [hTa] at this
      exact hnb.trans (congrArg (fun r=>nx.set a r) this)
     have hdef:bsm p (m+1) a b=(bsm p m a b && (mch p (bsm p m) a b && mch p (bsm p m) b a)):=rfl
     focus
      have szEb:=Eb.size;have szEa:=Ea.size;have szE3:=E3.size;have szEm:=Em.size;have szE2:=E2.size;have szE1:=E1.size;refine Ke <| Kc rfl <| Wo rfl (Ks rfl rfl) <| Kd ?_
      refine Ke <| Kg rfl (fun h4=>?_) (fun h4=>?_);refine Kt ?_;refine Ke <| Kr <| Ke <| Kc rfl <| Wo rfl (Ka (v:=.int _ _) rfl) ?_
      refine Wo rfl (Kb (v:=.int _ _) rfl) <| Kd <| Ke <| Kc rfl <| Wo rfl (Ka (v:=u) rfl) <| Wo rfl (Ka (v:=.int _ _) rfl) ?_
      refine Ji Tryz.underlying23 Tryz.sizeOf88 Tryz.isAgg88 rfl (fun _=>rfl) rfl (OwnedB.read hBb) (Ext.refl _) rfl (by first | omega | (simp <;> omega)) ?_;rintro _ u2 hu1;refine Wo rfl (Ka (v:=.int _ _) rfl) ?_
      refine Ji Tryz.underlying88 Tryz.sizeOf3 Tryz.isAgg3 rfl (fun _=>rfl) rfl hu1 (Ext.refl _) rfl (by first | omega | (simp <;> omega)) ?_;rintro _ _ rfl;refine Wo rfl (Kx rfl rfl) ?_
      refine Kv rfl (Ka (v:=.bool _) rfl) (fun h5=>?_) (fun h5=>?_);refine Wo rfl (Ka (v:=v) rfl) <| Wo rfl (Ka (v:=u) rfl) <| Wo rfl (Ka (v:=.int _ _) rfl) ?_
      refine Wo rfl (Ka (v:=.int _ _) rfl) <| Kj rfl (opc4 (a:=v) (b:=u) (c:=.int _ _) (d:=.int _ _) Tryz.call204 rfl rfl rfl rfl) (han _ _ _ ((Mono.mono Eb h)) ((OwnedB.read hBb))) ?_;rintro _ w4 ⟨rfl,E4⟩
      have hs3:=E4.size;refine Wo rfl (Kz (v:=.bool _) rfl rfl) <| Kd <| Jx rfl (fun h6=>?_) (fun h6=>?_);refine Kc rfl <| Wo rfl (Ka (v:=.slice _ _ _) rfl) ?_
      refine Wo rfl (Ka (v:=.int _ _) rfl) <| Wo_rowAt Tryz.underlying23 Tryz.sizeOf88 Tryz.isAgg88 rfl (fun _=>rfl) rfl ⟨_,_,rfl⟩ rfl (hRb.ext E4) (by first | omega | (simp <;> omega)) ?_;rintro _
      refine Wo rfl (Ka (v:=.int _ _) rfl) <| Wo rfl (Jr Tryz.underlying88 Tryz.sizeOf3 rfl rfl (by omega)) ?_
      refine Wo_gset rfl Tryz.sizeOf3 rfl rfl (hOb.toB.ext E4) (hRb.ext E4) (by first | omega | (simp <;> omega)) (by first | omega | (simp <;> omega)) ?_;rintro w5 hOb hRb On1 K1 hz1;have E5:=On1.ext1 (Eb.trans E4) (by omega)
      have hBb:=(hBb.ext E4).wrote K1 (by omega);have hs4:=On1.size;refine Kd <| Kc rfl <| Wo rfl (Kw rfl rfl (by omega)) ?_;refine Wo rfl (Ka (v:=.int _ _) rfl) <| Kd ?_
      rotate_left;refine Kt ?_;refine Kc rfl <| Wo rfl (Kw rfl rfl (by omega)) ?_;refine Wo rfl (Ka (v:=.int _ _) rfl) <| Kd ?_;rotate_left;refine Ki rfl <| Ki rfl ?_
      refine Ki rfl <| Ki rfl <| Ki rfl <| Wo rfl (Kn (v:=.bool _) rfl rfl) <| Kd <| Ky rfl ?_;refine Kt ?_;refine Kc rfl ?_
      refine Wo rfl (Kw rfl rfl (by omega)) ?_;refine Wo rfl (Ka (v:=.int _ _) rfl) <| Kd ?_;rotate_left;(exfalso;omega)
     ·have ht:bsm p (m+1) a b=true:=by
       rw [hdef,show bsm p m a b=true from b01_one.1 (hme.symm.trans (by assumption)),show (mch p (bsm p m) a b && mch p (bsm p m) b a)=true by assumption];rfl
      refine ⟨((b+1,nb.set a (nb[a].set b 1))),by repeat (first | exact trivial | refine And.intro rfl ?_),by repeat (first | with_reducible exact Same.refl | refine Same.upd rfl ?_ | refine Same.upds rfl ?_ | refine Same.mix rfl ?_),?_,?_⟩
      ·exact ⟨by assumption,by omega,by omega,hBb,hOb,hRb,hset ht⟩
      ·simp only;omega
     ·have ht:bsm p (m+1) a b=false:=by
       rw [hdef,show (mch p (bsm p m) a b && mch p (bsm p m) b a)=false by assumption,Bool.and_false]
      refine ⟨((b+1,nb)),by repeat (first | exact trivial | refine And.intro rfl ?_),by repeat (first | with_reducible exact Same.refl | refine Same.upd rfl ?_ | refine Same.upds rfl ?_ | refine Same.mix rfl ?_),?_,?_⟩
      ·exact ⟨Eb.trans E4,by omega,by omega,hBb.ext E4,hOb.ext E4,hRb.ext E4,hskip ht⟩
      ·simp only;omega
     ·have ht:bsm p (m+1) a b=false:=by
       rw [hdef]
       cases hs:bsm p m a b with
       | false=>rfl
       | true=>rw [hs] at hme;exact absurd hme (by assumption)
      refine ⟨((b+1,nb)),by repeat (first | exact trivial | refine And.intro rfl ?_),by repeat (first | with_reducible exact Same.refl | refine Same.upd rfl ?_ | refine Same.upds rfl ?_ | refine Same.mix rfl ?_),?_,?_⟩
      ·exact ⟨Eb,by omega,by omega,hBb,hOb,hRb,hskip ht⟩
      ·simp only;omega
    ·obtain rfl:b=p.length:=by omega
     have hnew:nb=(matV p (bsm p (m+1))).take (a+1)++List.replicate (p.length - (a+1)) (List.replicate p.length 0):=by
      have hrow:((matV p (bsm p (m+1)))[a]'(by omega)).take p.length++List.replicate (p.length - p.length) 0=(matV p (bsm p (m+1)))[a]'(by omega):=by rw [List.take_of_length_le (by omega)];simp
      have hsf:=set_fill' _ p.length a hT hal (List.replicate p.length (0:Int)) ((matV p (bsm p (m+1)))[a]'(by omega)) (by rw [List.getElem?_eq_getElem (by omega)])
      exact (hnb.trans ((congrArg (fun r=>nx.set a r) hrow).trans (congrArg (fun l=>List.set l a _) hna))).trans hsf
     focus
      have szEb:=Eb.size;have szEa:=Ea.size;have szE3:=E3.size;have szEm:=Em.size;have szE2:=E2.size;have szE1:=E1.size;refine Ke <| Kc rfl <| Wo rfl (Ks rfl rfl) <| Kd ?_
      refine Ke <| Kg rfl (fun h4=>?_) (fun h4=>?_);(exfalso;omega);refine Jg ?_;refine exitX_same ?_;refine Kc rfl <| Wo rfl (Kw rfl rfl (by omega)) ?_
      refine Wo rfl (Ka (v:=.int _ _) rfl) <| Kd ?_
     refine ⟨((a+1,nb)),by repeat (first | exact trivial | refine And.intro rfl ?_),by repeat (first | with_reducible exact Same.refl | refine Same.upd rfl ?_ | refine Same.upds rfl ?_ | refine Same.mix rfl ?_),?_,?_⟩
     ·exact ⟨Eb,by omega,by omega,hBb,hOb,hnew⟩
     ·simp only;omega
   ·obtain rfl:a=p.length:=by omega
    have hnx:nx=matV p (bsm p (m+1)):=by rw [hna,← hT];simp
    subst hnx
    focus
     have szEa:=Ea.size;have szE3:=E3.size;have szEm:=Em.size;have szE2:=E2.size;have szE1:=E1.size;refine Ke <| Kc rfl <| Wo rfl (Ks rfl rfl) <| Kd <| Ke ?_
     refine Kg rfl (fun h3=>?_) (fun h3=>?_);(exfalso;omega);refine Jg ?_;refine exitX_same ?_;refine Kc rfl <| Wo rfl (Ka (v:=u2) rfl) <| Wo rfl (Kb (v:=u2) rfl) ?_
     refine Kd <| Kc rfl <| Wo rfl (Kw rfl rfl (by omega)) ?_;refine Wo rfl (Ka (v:=.int _ _) rfl) <| Kd ?_
    refine ⟨((m+1,u2)),by repeat (first | exact trivial | refine And.intro rfl ?_),by repeat (first | with_reducible exact Same.refl | refine Same.upd rfl ?_ | refine Same.upds rfl ?_ | refine Same.mix rfl ?_),?_,?_⟩
    ·exact ⟨Ea,by omega,hOa.mono (by omega)⟩
    ·simp only;omega
  ·obtain rfl:m=n:=by omega
   focus
    have szEm:=Em.size;have szE2:=E2.size;have szE1:=E1.size;refine Ke <| Kc rfl <| Wo rfl (Ks rfl rfl) <| Kd <| Ke <| Kg rfl (fun h2=>?_) (fun h2=>?_)
    (exfalso;omega);refine Jg ?_;refine exitX_same ?_;refine Ke <| Kc rfl <| Wo rfl (Ka (v:=u) rfl) <| Wo rfl (Kb (v:=u) rfl) <| Kd <| Ja ?_
    exact ⟨Em,hOm.toB.o.mono (by omega)⟩
end Go.Proofs.YtbgpppaljpngmaaGreatDoor
set_option linter.unusedVariables false
namespace Go.Hs
section
variable {α : Type} {X:World→List Nat→Value→α→Prop} {w w' w0 w1:World} {v u v':Value} {x : α} {xs:List α} {lo hi lt ht br m i n cr:Nat} {e:TypeId}
theorem own_notin (k:OwnedB lt ht (XSl e X) w v xs) {b:Nat} (hd:ht≤b∨b < lt):some b≠v.ownBlock:=by
 intro h
 obtain ⟨fq,k1,k2,cs,fps,k3,rfl,k4⟩:=k
 have:=k2 b (by simp [← h])
 omega
end
section
variable {w w':World} {v v':Value} {lo hi lo' i m cr b n c brw:Nat} {e e2:TypeId} {p:List (List Int)} {row:List Int}
theorem slice_len {w:World} {e:TypeId} {a:Option Addr} {n m c:Nat} {cs:List Value} (h:w.ownsRow 0 e 1 (.slice a n c) m cs):n=m:=by
 rcases h.2 with ⟨h6,h7⟩ | ⟨g,cap,cur,h6,_⟩
 ·cases h6;exact h7.symm
 ·cases h6;rfl
theorem OwnedB.rowOwn (h:OwnedB lo hi (XSl e (XSl e2 XInt)) w v p) (hR:RowAt w v i brw m cr) (hi':i < p.length):m=p[i].length∧OwnedB brw (brw+1) (XSl e2 XInt) w (.slice (some ⟨brw,0,none⟩) m cr) p[i]:=by
 obtain ⟨fp,h1,h2,cs,fps,h3,rfl,h5⟩:=h
 obtain ⟨f,u,h6,h7,h8⟩:=h5.at hi'
 obtain ⟨b,m',c,rfl,hne,hcell⟩:=hR
 have hl:=h5.len
 have:=slice_len h3
 subst this
 rw [h3.cellAt i (by omega),h7] at hcell
 cases hcell
 have hf:=XI_fp h8
 subst hf
 have h8':=h8
 obtain ⟨cs',fps',k3,_,_⟩:=h8'
 exact ⟨slice_len k3,_,by simp [Value.ownBlock],fun k hk=>by simp [Value.ownBlock] at hk;omega,h8⟩
end
set_option linter.unusedVariables false
set_option linter.unusedSimpArgs false
def setMany (r:List Int) (o:Nat):List Int→List Int
 | []=>r
 | x::xs=>setMany (r.set o x) (o+1) xs
theorem setMany_eq : ∀ (xs:List Int) (r:List Int) (o:Nat),o+xs.length≤r.length→setMany r o xs=r.take o++xs++r.drop (o+xs.length)
 | [],r,o,_=>by simp [setMany]
 | x :: xs, r, o, h => by
   simp only [List.length_cons] at h
   unfold setMany
   rw [setMany_eq xs _ _ (by simp; omega)]
   have ho : o < r.length := by omega
   have h1 : (r.set o x).take (o + 1) = r.take o ++ [x] := by
     rw [List.take_succ_eq_append_getElem (by simpa using ho), List.getElem_set_self, List.take_set_of_le (Nat.le_refl _)]
   have h2 : (r.set o x).drop (o + 1 + xs.length) = r.drop (o + (x :: xs).length) := by
     rw [List.drop_set_of_lt (by omega)]
     congr 1
     simp only [List.length_cons]; omega
   rw [h1, h2]
   simp
section
variable {P:Program} {lo br m cr i o:Nat} {v:Value} {e e2:TypeId}
theorem store_row : ∀ (xs:List Int) (i0:Nat) (w:World) (p:List (List Int)) (hi:i < p.length),Owned lo (XSl e (XSl e2 XInt)) w v p→RowAt w v i br m cr→o+i0+xs.length≤p[i].length →
  ∃ w',(storeCells ⟨br,o,none⟩ (xs.map (Value.int .i64)) i0).run P w=.ok () w'∧Owned lo (XSl e (XSl e2 XInt)) w' v (p.set i (setMany p[i] (o+i0) xs))∧RowAt w' v i br m cr∧Only [br] w w'∧(∀ k,k≠br→w'.heap[k]? = w.heap[k]?)∧w'.heap.size=w.heap.size
 | [], i0, w, p, hi, h, hR, _ => by
   refine ⟨w, by simp [storeCells], ?_, hR, Only.refl, fun _ _ => rfl, rfl⟩
   rw [show p.set i (setMany p[i] (o + i0) []) = p by simp [setMany]]
   exact h
 | x :: xs, i0, w, p, hi, h, hR, hl => by
   simp only [List.length_cons] at hl
   obtain ⟨h1, hlo, u, hc, hf⟩ := h.setRow (q := x) (j := o + i0) hi hR (by omega)
   have hR1 : RowAt (w.setCell ⟨br, o + i0, none⟩ (.int .i64 x)) v i br m cr := hR.of_heap fun k hk => heap_setCell_other _ hk
   have hil : i < (p.set i (p[i].set (o + i0) x)).length := by rw [List.length_set]; exact hi
   have hrl : (p.set i (p[i].set (o + i0) x))[i] = p[i].set (o + i0) x := by rw [List.getElem_set_self]
   obtain ⟨w', k1, k2, k3, k4, k5, k6⟩ := store_row xs (i0 + 1) _ _ hil h1 hR1 (by rw [hrl, List.length_set]; omega)
   refine ⟨w', ?_, ?_, k3, (Only.setCell (by simp)).trans k4, fun k hk => (k5 k hk).trans (heap_setCell_other _ hk), k6.trans (size_setCell _ _)⟩
   · have k0 := run_store_cell (P := P) (w := w) (ad := ⟨br, o + i0, none⟩) (v := .int .i64 x) rfl hc hf
     have ea : (⟨br, o, none⟩ : Addr).add i0 = ⟨br, o + i0, none⟩ := add_mk br o i0
     simp [storeCells, ea, k0, k1]
   · rw [hrl, List.set_set] at k2
     exact k2
theorem load_ints {w:World} {b o:Nat} : ∀ (xs:List Int) (i0:Nat) (acc:Array Value),(∀ j (h:j < xs.length),w.cell? ⟨b,o+(i0+j),none⟩=some (.int .i64 xs[j])) →
  (loadCellsFrom ⟨b,o,none⟩ i0 xs.length acc).run P w=.ok (acc++(xs.map (Value.int .i64)).toArray) w
 | [],i0,acc,_=>by simp [loadCellsFrom]
 | x :: xs, i0, acc, h => by
   have h0 := h 0 (by simp)
   have ea : (⟨b, o, none⟩ : Addr).add i0 = ⟨b, o + i0, none⟩ := add_mk b o i0
   have ih := load_ints xs (i0 + 1) (acc.push (.int .i64 x)) fun j hj => by
     have := h (j + 1) (by simpa using hj)
     rw [show i0 + 1 + j = i0 + (j + 1) by omega]
     simpa using this
   simp only [Nat.add_zero, List.getElem_cons_zero] at h0
   simp [loadCellsFrom, ea, h0, ih]
end
section
variable {P:Program} {n:Nat} {N:Env→World→Prop} {ρ : Env} {w w0:World} {all:Array Oper} {rest:List Oper} {d:Nat} {ty t t2 el e e2:TypeId} {pos:String} {after:Array Edge} {g:Option (Nat × Bool)} {x y:Operand} {v u:Value} {lo hi' br m cr i o dl dc:Nat} {xs:List Int} {p:List (List Int)}
theorem Wo_cpy (hw:wantedE all ⟨some d,.call { callee:=.builtin .copy,args:=#[x,y],argTypes:=#[t,t2] },ty,pos,after,g⟩ ρ = true) (ht:P.underlying t=some (.slice el)) (hs : ∀ w,(sizeOf el).run P w=.ok 1 w)
  (hx:evalE ρ x=.slice (some ⟨br,o,none⟩) dl dc) (hy:evalE ρ y=u) (hI:Ints w u xs) (h:OwnedB lo hi' (XSl e (XSl e2 XInt)) w v p) (hR:RowAt w v i br m cr) (hi:i < p.length) (hj:o+xs.length≤p[i].length) (hdl:xs.length≤dl)
  (hk : ∀ w1,Owned lo (XSl e (XSl e2 XInt)) w1 v (p.set i (setMany p[i] o xs))→RowAt w1 v i br m cr→Only [br] w w1→(∀ k,k≠br→w1.heap[k]? = w.heap[k]?)→w1.heap.size=w.heap.size→Wops P n all rest N (upd ρ d (.int .i64 (xs.length:Int))) w1) :
  Wops P n all (⟨some d,.call { callee:=.builtin .copy,args:=#[x,y],argTypes:=#[t,t2] },ty,pos,after,g⟩::rest) N ρ w:=by
 obtain ⟨a,c,rfl,h1,h2⟩:=hI
 obtain ⟨w',k1,k2,k3,k4,k5,k6⟩:=store_row (P:=P) (o:=o) xs 0 w p hi h.o hR (by omega)
 refine Wo_run (w':=w') hw ?_ (hk w' k2 k3 k4 k5 k6)
 have hmin:Nat.min xs.length dl=xs.length:=Nat.min_eq_left hdl
 have hl:(Builtin.copy_ #[t,t2] ty #[.slice (some ⟨br,o,none⟩) dl dc,.slice a xs.length c]).run P w=.ok (.int .i64 (xs.length:Int)) w':=by
  rcases h2 with rfl | ⟨b,o',rfl,hc⟩
  ·simp only [List.map_nil] at k1
   cases a with
   | none=>simp [Builtin.copy_,Builtin.lenOf,Builtin.firstCells,run_und ht,hs,k1,goInt]
   | some a=>simp [Builtin.copy_,Builtin.lenOf,Builtin.firstCells,run_und ht,hs,k1,goInt,loadCells,loadCellsFrom]
  ·have hld:=load_ints (P:=P) (w:=w) (b:=b) (o:=o') xs 0 #[] fun j hj=>by
    obtain ⟨u,h3,h4⟩:=hc j hj
    rw [Nat.zero_add,h3,h4]
   simp [Builtin.copy_,Builtin.lenOf,Builtin.firstCells,run_und ht,hs,hmin,loadCells,hld,k1,goInt]
 simp [execOp,resolve,invoke,builtin,hx,hy,hl]
end
section
variable {α : Type} {X:World→List Nat→Value→α→Prop} {w:World} {lo hi b o n c c' k:Nat} {e:TypeId}
theorem XAll_take : ∀ (k:Nat) {fs:List (List Nat)} {cs:List Value} {xs:List α},XAll X w fs cs xs→XAll X w (fs.take k) (cs.take k) (xs.take k)
 | 0,fs,cs,xs,_=>by simp [XAll]
 | k+1,f::fs,c::cs,x::xs,h=>⟨h.1,XAll_take k h.2⟩
 | k+1,[],[],[],_=>trivial
 | _+1,[],_::_,_,h=>h.elim
 | _+1,[],[],_::_,h=>h.elim
 | _+1,_::_,[],_,h=>h.elim
 | _+1,_::_,_::_,[],h=>h.elim
theorem XInt_flat' : ∀ {fs:List (List Nat)} {cs:List Value} {xs:List Int},XAll XInt w fs cs xs→fs.flatten=[]
 | [],_,_,_=>rfl
 | f::fs,c::cs,x::xs,h=>by rw [List.flatten_cons,h.1.1,XInt_flat' h.2];rfl
 | _::_,[],_,h=>h.elim
 | _::_,_::_,[],h=>h.elim
theorem OwnedB.pre {xs:List Int} (h:OwnedB lo hi (XSl e XInt) w (.slice (some ⟨b,0,none⟩) n c) xs) (hk:k≤n):OwnedB lo hi (XSl e XInt) w (.slice (some ⟨b,0,none⟩) k c) (xs.take k):=by
 obtain ⟨fp,h1,h2,cs,fps,h3,rfl,h5⟩:=h
 have hf:=XInt_flat' h5
 have hf2:=XInt_flat' (XAll_take k h5)
 obtain ⟨h4,h6⟩:=h3
 rcases h6 with ⟨h7,_⟩ | ⟨g,cap,cur,h7,h8,h9,h10,h11,h12,h13⟩
 ·cases h7
 ·injection h7 with e1 e2 e3
  injection e1 with e1
  injection e1 with e1 _ _
  subst e1 e2 e3
  refine ⟨_,h1,h2,cs.take k,fps.take k,⟨?_,.inr ⟨b,c,cur,?_,h8,h9,by rw [List.length_take];omega,h11,h12,?_⟩⟩,by rw [hf,hf2];rfl,XAll_take k h5⟩
  ·rw [List.length_take,List.length_take,h4];omega
  ·rw [List.length_take,Nat.min_eq_left (by omega)]
  ·rw [List.length_take,← h13,List.take_take,Nat.mul_one,Nat.mul_one,Nat.min_eq_left (by omega)]
theorem own_rng {v:Value} {xs:List α} (h:OwnedB lo hi (XSl e X) w v xs) (hv:v.ownBlock=some k):lo≤k∧k < hi:=by
 obtain ⟨fp,h1,h2,cs,fps,h3,rfl,h5⟩:=h
 exact h2 k (by simp [hv])
end
theorem W_mid {α : Type} {P:Program} {n:Nat} {c:Code} {N:Env→World→Prop} {X:Nat→Env→World→Prop} {R:Env→World→Prop} {ρ : Env} {w:World} (D:List Nat) (S : α→List (Nat × Value)) (I : α→World→Prop)
  (h:W P n c (fun ρ' w'=>∃ x',Slots ρ' (S x')∧Same D ρ ρ'∧I x' w') X R ρ w) (h2 : ∀ (x : α) (ρj:Env) (w':World),I x w'→N (upds (mix D ρj ρ) (S x)) w'):W P n c N X R ρ w:=by
 unfold W at *
 intro a ha
 refine Go.wp_mono (h a ha) fun e a w q=>?_
 cases e with
 | normal =>
   obtain ⟨ρ', hR, x', hS, hD, hI⟩ := q
   refine ⟨ρ', hR, ?_⟩
   have := h2 x' ρ' w hI
   rw [mix_same hD, upds_self hS] at this; exact this
 | ret=>exact q
 | exit i=>exact q
 | goto l=>exact q
 | panic ch=>exact q
 | outgrown=>exact q
theorem OwnedB.nil {α : Type} {X:World→List Nat→Value→α→Prop} {w:World} {e:TypeId} {lo hi:Nat} : OwnedB lo hi (XSl e X) w (.slice none 0 0) []:=⟨[],List.nodup_nil,(fun _ h=>by cases h),[],[],World.ownsRow_nil w 0 e 1,rfl,trivial⟩
theorem own_lit1 {w:World} {e:TypeId} {lo b:Nat} {x:Int} (hb:w.heap[b]? = some (.cells [.int .i64 x].toArray e (0,0))) (hl:lo≤b):Owned lo (XSl e XInt) w (.slice (some ⟨b,0,none⟩) 1 1) [x]:=Owned.block hb hl rfl (by decide) ⟨⟨rfl,rfl⟩,trivial⟩
theorem own_lit2 {w:World} {e:TypeId} {lo b:Nat} {x y:Int} (hb:w.heap[b]? = some (.cells [.int .i64 x,.int .i64 y].toArray e (0,0))) (hl:lo≤b):Owned lo (XSl e XInt) w (.slice (some ⟨b,0,none⟩) 2 2) [x,y]:=Owned.block hb hl rfl (by decide) ⟨⟨rfl,rfl⟩,⟨rfl,rfl⟩,trivial⟩
theorem opv_build2 {P:Program} {ρ : Env} {w:World} {ty t:TypeId} {parts:Array (Nat × Operand)} {z1 z2 v1 v2:Value} (hF:Flat P t [z1,z2]) (hp:parts.toList.map (fun p=>(p.1,evalE ρ p.2))=[(0,v1),(1,v2)]) (h1:isCell v1=true) (h2:isCell v2=true) :
  OpV P (.build t parts) ty ρ w (.agg #[v1,v2]):=opv_build hF hp (by simp [fillF,h1,h2];rfl)
theorem Moves.off {w w':World} {v v':Value} {b:Nat} (M:Moves w v w' v') (hv:v.ownBlock≠some b) (hb:b < w.heap.size):v'.ownBlock≠some b:=by
 rcases M.2 with h | ⟨g,h,hg⟩
 ·rw [h];exact hv
 ·rw [h];intro e;injection e with e;omega
section
variable {P:Program} {op:Op} {ty:TypeId} {ρ : Env} {w:World} {b:Bool}
end
theorem Blk.movesOff {w w':World} {v v':Value} {b:Nat} {cs:List Value} (h:Blk w b cs) (M:Moves w v w' v') (hv:v.ownBlock≠some b):Blk w' b cs :=
 h.of_heap (M.1.block b h.lt fun e=>hv e.symm)
def RetOB {α : Type} (w:World) (X:World→List Nat→Value→α→Prop) (x : α) (b:Bool):Value→World→Prop:=fun v w'=>∃ u,v=.tuple #[u,.bool b]∧Ext w w'∧Owned w.heap.size X w' u x
end Go.Hs
namespace Go.Proofs.YtbgpppaljpngmaaGreatDoor
open Go.Hs
set_option maxRecDepth 10000
set_option maxHeartbeats 4000000
set_option linter.unusedVariables false
set_option linter.unusedSimpArgs false
def besQ (p q:List (List Int)) (i:Nat):List (List Int):=(bes p q).take i++List.replicate (p.length+q.length - i) (List.replicate (p.length+q.length) 0)
theorem besQ_len {p q:List (List Int)} {i:Nat} (hi:i≤p.length+q.length):(besQ p q i).length=p.length+q.length:=by
 unfold besQ
 rw [List.length_append,List.length_take,bes_len,List.length_replicate]
 omega
theorem besQ_at {p q:List (List Int)} {i:Nat} (hi:i < p.length+q.length):(besQ p q i)[i]'(by rw [besQ_len (by omega)];exact hi)=List.replicate (p.length+q.length) 0:=by
 have hl:((bes p q).take i).length=i:=by rw [List.length_take,bes_len];omega
 unfold besQ
 rw [List.getElem_append_right (by omega)]
 simp
theorem besQ_set {p q:List (List Int)} {i:Nat} (hi:i < p.length+q.length) (r:List Int) (hr:(bes p q)[i]'(by rw [bes_len];exact hi)=r):(besQ p q i).set i r=besQ p q (i+1):=by
 have:=set_fill' (bes p q) (p.length+q.length) i bes_len hi (List.replicate (p.length+q.length) 0) r (by rw [List.getElem?_eq_getElem (by rw [bes_len];exact hi),hr])
 exact this
theorem bes_row1 {p q:List (List Int)} {i:Nat} (hp:Gr p) (hi:i < p.length):(bes p q)[i]'(by rw [bes_len];omega)=setMany (List.replicate (p.length+q.length) 0) 0 p[i]:=by
 have hl:=hp.row hi
 rw [bes_fst hi,setMany_eq _ _ _ (by simp;omega)]
 simp only [List.take_zero,List.nil_append,Nat.zero_add,List.drop_replicate]
 rw [hl,Nat.add_sub_cancel_left]
theorem bes_row2 {p q:List (List Int)} {i:Nat} (hq:Gr q) (hi:i < q.length):(bes p q)[p.length+i]'(by rw [bes_len];omega)=setMany (List.replicate (p.length+q.length) 0) p.length q[i]:=by
 have hl:=hq.row hi
 rw [bes_snd hi,setMany_eq _ _ _ (by simp;omega)]
 rw [List.take_replicate,List.drop_replicate,hl,Nat.min_eq_left (by omega),Nat.sub_self]
 simp
theorem beside_gr (w:World) (v u:Value) (p q:List (List Int)) (h:ESl Ints w v p) (h':ESl Ints w u q) (hp:Gr p) (hq:Gr q) (hs:p.length+q.length≤11):Does Tryz.prog 180 [v,u] w (RetO w XR (bes p q)):=by
 have hp1:=hp.1
 have hq1:=hq.1
 have hle:=h.le
 have hle':=h'.le
 have hem : ∀ (z:Int),z=((p.length+q.length:Nat):Int)→∀ w,Does Tryz.prog 183 [.int .i64 z] w (RetO w XR (besQ p q 0)):=fun z e w=>by
  subst e
  exact emptyPicture_ok w _ (by omega)
 refine Jc Tryz.func180 rfl Tryz.results180 Tryz.ntmps180 rfl ?_
 have hl0:=besQ_len (p:=p) (q:=q) (i:=0) (by omega)
 have stop2:True:=trivial
 focus
  refine Ke <| Kc rfl <| Wo rfl (Kb (v:=.slice _ _ _) rfl) <| Kd <| Ke <| Kc rfl <| Wo rfl (Ka (v:=v) rfl) ?_
  refine Wo rfl (Ko Tryz.underlying23 rfl h) <| Wo rfl (Ka (v:=u) rfl) <| Wo rfl (Ko Tryz.underlying23 rfl h') <| Wo rfl (Kw rfl rfl (by omega)) ?_
  refine Kj rfl (Jk (a:=.int _ _) Tryz.call183 rfl) (hem _ (by omega) _) ?_;rintro u1 w1 ⟨E1,hO1⟩;have hs1:=E1.size;refine Wo rfl (Kb (v:=u1) rfl) <| Kd <| Ke <| Ke ?_
 clear stop2
 obtain ⟨ub,uc,rfl,_⟩:=hO1.lit (by omega)
 focus
  have szE1:=E1.size;refine Kc rfl <| Wo rfl (Ka (v:=v) rfl) <| Wo rfl (Ko Tryz.underlying23 rfl h) <| Wo rfl (Ka (v:=.int _ _) rfl) <| Kd <| Kr ?_
 refine Jh [6,7,18,19,20,21,22,23,24,25,26,27,28,29] (fun (i:Nat)=>[(18,.int .i64 (i:Int))]) (fun i w'=>Ext w w'∧i≤p.length∧Owned w.heap.size XR w' (.slice (some ⟨ub,0,none⟩) (besQ p q 0).length uc) (besQ p q i)) (fun x=>p.length - x) 0 (by repeat (first | exact trivial | refine And.intro rfl ?_)) ?_ ?_
 ·exact ⟨by assumption,Nat.zero_le _,hO1⟩
 clear hO1
 rintro i ρj w2 ⟨E2,hi,hO1⟩
 by_cases hil:i < p.length
 ·have hli:=besQ_len (p:=p) (q:=q) (i:=i) (by omega)
  have hat:=besQ_at (p:=p) (q:=q) (i:=i) (by omega)
  have hrl:(besQ p q i)[i].length=p.length+q.length:=by rw [hat];simp
  have hpr:=hp.row hil
  obtain ⟨br,cr,hR,_,_⟩:=hO1.rowAt (i:=i) (by omega) (by omega)
  focus
   have szE2:=E2.size;have szE1:=E1.size;refine Ke <| Kc rfl <| Wo rfl (Ks rfl rfl) <| Kd <| Ke <| Kg rfl (fun h1=>?_) (fun h1=>?_);refine Kt ?_
   refine Ke <| Kr <| Ke <| Kc rfl <| Wo rfl (Ka (v:=.int _ _) rfl) ?_
   refine Ji Tryz.underlying23 Tryz.sizeOf88 Tryz.isAgg88 rfl (fun _=>rfl) rfl h E2 rfl (by first | omega | (simp <;> omega)) ?_;rintro _ u1 hu1;refine Wo rfl (Kb (v:=.int _ _) rfl) ?_
   refine Wo rfl (Kb (v:=u1) rfl) <| Kd <| Kc rfl <| Wo rfl (Ka (v:=.slice _ _ _) rfl) <| Wo rfl (Ka (v:=.int _ _) rfl) ?_
   refine Wo_rowAt Tryz.underlying23 Tryz.sizeOf88 Tryz.isAgg88 rfl (fun _=>rfl) rfl ⟨_,_,rfl⟩ rfl hR (by first | omega | (simp <;> omega)) ?_;rintro _;refine Wo rfl (Ka (v:=u1) rfl) ?_
   refine Wo_cpy rfl Tryz.underlying88 Tryz.sizeOf3 rfl rfl (Mono.mono E2 hu1) hO1.toB hR (by first | omega | (simp <;> omega)) (by first | omega | (simp <;> omega)) (by first | omega | (simp <;> omega)) ?_;rintro w3 hO1 hR On1 K1 hz1
   have E3:=On1.ext1 E2 (by omega);have hs2:=On1.size;refine Kd <| Kc rfl <| Wo rfl (Kw rfl rfl (by omega)) ?_;refine Wo rfl (Ka (v:=.int _ _) rfl) <| Kd ?_;rotate_left
   (exfalso;omega)
  refine ⟨i+1,by repeat (first | exact trivial | refine And.intro rfl ?_),by repeat (first | with_reducible exact Same.refl | refine Same.upd rfl ?_ | refine Same.upds rfl ?_ | refine Same.mix rfl ?_),⟨by assumption,by omega,(congrArg (Owned _ _ _ _) ?_).mp hO1⟩,by omega⟩
  refine besQ_set (by omega) _ ?_
  rw [bes_row1 hp hil,hat]
 ·obtain rfl:i=p.length:=by omega
  focus
   have szE2:=E2.size;have szE1:=E1.size;refine Ke <| Kc rfl <| Wo rfl (Ks rfl rfl) <| Kd <| Ke <| Kg rfl (fun h1=>?_) (fun h1=>?_);(exfalso;omega)
   refine Jg ?_;refine exitX_same ?_;refine Ke <| Ke <| Kc rfl <| Wo rfl (Ka (v:=u) rfl) <| Wo rfl (Ko Tryz.underlying23 rfl h') ?_
   refine Wo rfl (Ka (v:=.int _ _) rfl) <| Kd <| Kr ?_
  refine Jh [8,9,32,33,34,35,36,37,38,39,40,41,42,43,44,45,46,47,48,49] (fun (i:Nat)=>[(32,.int .i64 (i:Int))]) (fun i w'=>Ext w w'∧i≤q.length∧Owned w.heap.size XR w' (.slice (some ⟨ub,0,none⟩) (besQ p q 0).length uc) (besQ p q (p.length+i))) (fun x=>q.length - x) 0 (by repeat (first | exact trivial | refine And.intro rfl ?_)) ?_ ?_
  ·exact ⟨by assumption,Nat.zero_le _,hO1⟩
  clear hO1
  rintro i ρk w3 ⟨E3,hi,hO1⟩
  by_cases hil:i < q.length
  ·have hli:=besQ_len (p:=p) (q:=q) (i:=p.length+i) (by omega)
   have hat:=besQ_at (p:=p) (q:=q) (i:=p.length+i) (by omega)
   have hrl:(besQ p q (p.length+i))[p.length+i].length=p.length+q.length:=by rw [hat];simp
   have hqr:=hq.row hil
   obtain ⟨br,cr,hR,_,_⟩:=hO1.rowAt (i:=p.length+i) (by omega) (by omega)
   obtain ⟨_,hRO⟩:=hO1.toB.rowOwn hR (by omega)
   obtain ⟨_,_,_,e,hcap⟩:=hRO.capOk
   cases e
   clear hRO
   focus
    have szE3:=E3.size;have szE2:=E2.size;have szE1:=E1.size;refine Ke <| Kc rfl <| Wo rfl (Ks rfl rfl) <| Kd <| Ke <| Kg rfl (fun h2=>?_) (fun h2=>?_)
    refine Kt ?_;refine Ke <| Kr <| Ke <| Kc rfl <| Wo rfl (Ka (v:=.int _ _) rfl) ?_
    refine Ji Tryz.underlying23 Tryz.sizeOf88 Tryz.isAgg88 rfl (fun _=>rfl) rfl h' E3 rfl (by first | omega | (simp <;> omega)) ?_;rintro _ u1 hu1;refine Wo rfl (Kb (v:=.int _ _) rfl) ?_
    refine Wo rfl (Kb (v:=u1) rfl) <| Kd <| Kc rfl <| Wo rfl (Ka (v:=.slice _ _ _) rfl) <| Wo rfl (Ka (v:=v) rfl) <| Wo rfl (Ko Tryz.underlying23 rfl h) ?_
    refine Wo rfl (Ka (v:=.int _ _) rfl) <| Wo rfl (Kw rfl rfl (by omega)) ?_
    refine Wo_rowAt Tryz.underlying23 Tryz.sizeOf88 Tryz.isAgg88 rfl (fun _=>rfl) rfl ⟨_,_,rfl⟩ rfl hR (by first | omega | (simp <;> omega)) ?_;rintro _;refine Wo rfl (Ka (v:=v) rfl) ?_
    refine Wo rfl (Ko Tryz.underlying23 rfl h) <| Wo rfl (opv_slice_sl_lo Tryz.underlying88 Tryz.sizeOf3 rfl rfl (by omega)) ?_;refine Wo rfl (Ka (v:=u1) rfl) ?_
    refine Wo_cpy rfl Tryz.underlying88 Tryz.sizeOf3 rfl rfl (Mono.mono E3 hu1) hO1.toB hR (by first | omega | (simp <;> omega)) (by first | omega | (simp <;> omega)) (by first | omega | (simp <;> omega)) ?_;rintro w4 hO1 hR On1 K1 hz1
    have E4:=On1.ext1 E3 (by omega);have hs2:=On1.size;refine Kd <| Kc rfl <| Wo rfl (Kw rfl rfl (by omega)) ?_;refine Wo rfl (Ka (v:=.int _ _) rfl) <| Kd ?_;rotate_left
    (exfalso;omega)
   refine ⟨i+1,by repeat (first | exact trivial | refine And.intro rfl ?_),by repeat (first | with_reducible exact Same.refl | refine Same.upd rfl ?_ | refine Same.upds rfl ?_ | refine Same.mix rfl ?_),⟨by assumption,by omega,(congrArg (Owned _ _ _ _) ?_).mp hO1⟩,by omega⟩
   refine besQ_set (by omega) _ ?_
   rw [bes_row2 hq hil,hat,Nat.zero_add,Int.toNat_natCast]
  ·obtain rfl:i=q.length:=by omega
   focus
    have szE3:=E3.size;have szE2:=E2.size;have szE1:=E1.size;refine Ke <| Kc rfl <| Wo rfl (Ks rfl rfl) <| Kd <| Ke <| Kg rfl (fun h2=>?_) (fun h2=>?_)
    (exfalso;omega);refine Jg ?_;refine exitX_same ?_;refine Ke <| Kc rfl <| Wo rfl (Ka (v:=.slice _ _ _) rfl) <| Wo rfl (Kb (v:=.slice _ _ _) rfl) <| Kd ?_
    refine Ja ?_;refine ⟨E3,(congrArg (Owned _ _ _ _) ?_).mp (hO1.toB.o.mono (by omega))⟩
   have:=bes_len (p:=p) (q:=q)
   unfold besQ
   rw [List.take_of_length_le (by omega),Nat.sub_self]
   simp
theorem beside_ok (w:World) (v u:Value) (p q:List (List Int)) (h:ESl Ints w v p) (h':ESl Ints w u q) (hp:Pic p) (hq:Pic q):Does Tryz.prog 180 [v,u] w (RetO w XR (bes p q)):=by
 have hp5:=hp.2.1
 have hq5:=hq.2.1
 exact beside_gr w v u p q h h' hp.gr hq.gr (by omega)
open Classical in
theorem sameSet_ok (w:World) (v u:Value) (p q:List (List Int)) (h:ESl Ints w v p) (h':ESl Ints w u q) (hp:Pic p) (hq:Pic q) (a b:Int) (ha:0≤a∧a < p.length) (hb:0≤b∧b < q.length):Does Tryz.prog 148 [v,.int .i64 a,u,.int .i64 b] w (Ret w (.bool (decide (Bis p a.toNat q b.toNat)))):=by
 have hp5:=hp.2.1
 have hq5:=hq.2.1
 have hle:=h.le
 have hle':=h'.le
 have hB:=hp.bes5 hq
 have hbl:=bes_len (p:=p) (q:=q)
 have k1 : ∀ (w:World) (v u:Value),ESl Ints w v p→ESl Ints w u q→Does Tryz.prog 180 [v,u] w (RetO w XR (bes p q)):=fun w v u h h'=>beside_ok w v u p q h h' hp hq
 have k2 : ∀ (w:World) (v:Value),ESl Ints w v (bes p q)→Does Tryz.prog 177 [v,.int .i64 ((bes p q).length:Int)] w (RetO w XR (matV (bes p q) (bsm (bes p q) (bes p q).length))):=fun w v h=>leftAfter_ok w v _ h hB.1 _ (by omega)
 have hml:=matV_len (p:=bes p q) (bsm (bes p q) (bes p q).length)
 have hmr:=matV_rlen (p:=bes p q) (S:=bsm (bes p q) (bes p q).length) (a:=a.toNat) (by omega)
 have hma:=matV_at (p:=bes p q) (S:=bsm (bes p q) (bes p q).length) (a:=a.toNat) (b:=p.length+b.toNat) (by omega) (by omega)
 have he:=bes_eqv hp.gr hq.gr (a:=a.toNat) (b:=b.toNat) (by omega) (by omega) (by omega)
 refine Jc Tryz.func148 rfl Tryz.results148 Tryz.ntmps148 rfl ?_
 focus
  refine Ke <| Kc rfl <| Wo rfl (Kb (v:=.bool _) rfl) <| Kd <| Ke <| Kc rfl <| Wo rfl (Ka (v:=v) rfl) <| Wo rfl (Ka (v:=u) rfl) ?_
  refine Kj rfl (Jn (a:=v) (b:=u) Tryz.call180 rfl rfl) (k1 _ _ _ (h) (h')) ?_;rintro u1 w1 ⟨E1,hO1⟩;have hs1:=E1.size;refine Wo rfl (Kb (v:=u1) rfl) <| Kd <| Ke ?_
  refine Kc rfl <| Wo rfl (Ka (v:=u1) rfl) <| Wo rfl (Ka (v:=u1) rfl) <| Wo rfl (Ko Tryz.underlying23 rfl (Owned.read hO1)) ?_
  refine Kj rfl (Jn (a:=u1) (b:=.int _ _) Tryz.call177 rfl rfl) (k2 _ _ ((Owned.read hO1))) ?_;rintro u2 w2 ⟨E2,hO2⟩;have hs2:=E2.size;refine Wo rfl (Ka (v:=.int _ _) rfl) ?_
  refine Wo_get_z Tryz.underlying23 Tryz.sizeOf88 Tryz.isAgg88 rfl (fun _=>rfl) rfl (Owned.read hO2) (Ext.refl _) rfl (by first | omega | (simp <;> omega)) ?_;rintro _ u3 hu1;refine Wo rfl (Ka (v:=v) rfl) ?_
  refine Wo rfl (Ko Tryz.underlying23 rfl h) <| Wo rfl (Ka (v:=.int _ _) rfl) <| Wo rfl (Kw rfl rfl (by omega)) ?_
  refine Wo_get_z Tryz.underlying88 Tryz.sizeOf3 Tryz.isAgg3 rfl (fun _=>rfl) rfl hu1 (Ext.refl _) rfl (by first | omega | (simp <;> omega)) ?_;rintro _ _ rfl;refine Wo rfl (Kx rfl rfl) ?_
  refine Wo rfl (Kb (v:=.bool _) rfl) <| Kd <| Ja ?_;refine at_ret (v:=.bool _) rfl ?_;refine ⟨congrArg Value.bool ?_,(E1.trans E2)⟩
 rw [decide_eq_decide,← he]
 have e:((p.length:Int)+b).toNat=p.length+b.toNat:=by omega
 simp only [e,hma,b01_one]
 rfl
theorem rowAt_cell {w:World} {ub n uc i br m cr:Nat} (h:RowAt w (.slice (some ⟨ub,0,none⟩) n uc) i br m cr):w.cell? ⟨ub,0+i,none⟩=some (.slice (some ⟨br,0,none⟩) m cr):=by
 obtain ⟨b,m',c,e,h4,h5⟩:=h
 cases e
 rw [Nat.zero_add];exact h5
end Go.Proofs.YtbgpppaljpngmaaGreatDoor
set_option linter.unusedVariables false
set_option linter.unusedSimpArgs false
namespace Go.Hs
section
variable {p:List (List Int)} {a k n:Nat} {L:List Nat}
noncomputable def kndL (p:List (List Int)):List Nat:=(List.range p.length).map (knd p)
theorem kndL_len:(kndL p).length=p.length:=by simp [kndL]
theorem kndL_at (h:k < (kndL p).length):(kndL p)[k]=knd p k:=by simp [kndL]
theorem ikndL_len:(ints (kndL p)).length=p.length:=by rw [ints_len,kndL_len]
theorem ikndL_at (h:k < (ints (kndL p)).length):(ints (kndL p))[k]=(knd p k:Int):=by
 rw [ints_len] at h
 rw [ints_get h,kndL_at]
theorem ikndL_getD (h:k < p.length):(ints (kndL p)).getD k 0=(knd p k:Int):=by
 rw [getD_lt (by rw [ikndL_len];exact h),ikndL_at]
theorem first_knd (ha:a < p.length) {z:Int} (h:(z = -1∧(1:Int) ∉ (matV p (bsm p p.length))[a]'(by rw [matV_len];exact ha)) ∨
  ∃ (j:Nat) (hj:j < ((matV p (bsm p p.length))[a]'(by rw [matV_len];exact ha)).length),z=j∧((matV p (bsm p p.length))[a]'(by rw [matV_len];exact ha))[j]=1∧(1:Int) ∉ ((matV p (bsm p p.length))[a]'(by rw [matV_len];exact ha)).take j):z=(knd p a:Int):=by
 obtain ⟨h1,h2,h3⟩:=knd_spec ha
 have hm:=matV_rlen (p:=p) (S:=bsm p p.length) ha
 have hk:((matV p (bsm p p.length))[a]'(by rw [matV_len];exact ha))[knd p a]'(by rw [hm];exact h1)=1:=by
  rw [matV_at ha h1];exact b01_one.2 h2
 rcases h with ⟨_,h4⟩ | ⟨j,hj,rfl,h4,h5⟩
 ·exact absurd (hk ▸ List.getElem_mem _) h4
 ·rw [hm] at hj
  rw [matV_at ha hj] at h4
  have h6:eqv p a j=true:=b01_one.1 h4
  rcases Nat.lt_trichotomy j (knd p a) with h7 | h7 | h7
  ·rw [h3 j h7] at h6;cases h6
  ·rw [h7]
  ·exact absurd (List.mem_iff_getElem.2 ⟨knd p a,by rw [List.length_take,hm];omega,by rw [List.getElem_take];exact hk⟩) h5
def ptF (p:List (List Int)) (K:List Int) (x y:Int) (j:Nat):Bool:=decide ((p.getD x.toNat []).getD j 0=1) && decide (K.getD j 0=K.getD y.toNat 0)
def ptV (p:List (List Int)) (K L:List Int):List (List Int):=L.map fun x=>L.map fun y=>b01 ((List.range p.length).any (ptF p K x y))
theorem ptV_len {K L:List Int} : (ptV p K L).length=L.length:=by simp [ptV]
theorem pt_any (hp:Gr p) {x y:Nat} (hx:x < p.length) (hy:y < p.length):(List.range p.length).any (ptF p (ints (kndL p)) (x:Int) (y:Int))=(arr p (knd p x)).any fun j=>decide (knd p j=knd p y):=by
 rw [Bool.eq_iff_iff,List.any_eq_true,List.any_eq_true]
 have hkx:=knd_lt hx
 have hb:=knd_self hp hx
 constructor
 ·rintro ⟨j,hj,h⟩
  rw [List.mem_range] at hj
  simp only [ptF,Int.toNat_natCast,Bool.and_eq_true,decide_eq_true_eq,ikndL_getD hj,ikndL_getD hy] at h
  have hm:j ∈ arr p x:=(mem_arr hp hx).2 ⟨hj,h.1⟩
  obtain ⟨j',hj',hb'⟩:=hb.fst j hm
  refine ⟨j',hj',?_⟩
  rw [decide_eq_true_eq,← (knd_bis hp hj (arr_lt hp hkx hj')).2 hb']
  have:=h.2;omega
 ·rintro ⟨j',hj',h⟩
  rw [decide_eq_true_eq] at h
  obtain ⟨j,hj,hb'⟩:=hb.snd j' hj'
  have hjl:=arr_lt hp hx hj
  refine ⟨j,List.mem_range.2 hjl,?_⟩
  simp only [ptF,Int.toNat_natCast,Bool.and_eq_true,decide_eq_true_eq,ikndL_getD hjl,ikndL_getD hy]
  refine ⟨((mem_arr hp hx).1 hj).2,?_⟩
  rw [(knd_bis hp hjl (arr_lt hp hkx hj')).2 hb',h]
theorem ptV_qp (hp:Gr p) (hL : ∀ x ∈ L,x < p.length):ptV p (ints (kndL p)) (ints L)=qp p (L.map (knd p)):=by
 unfold ptV qp ints
 simp only [List.map_map]
 refine List.map_congr_left fun x hx=>?_
 simp only [Function.comp_def]
 refine List.map_congr_left fun y hy=>?_
 have:=pt_any hp (hL x hx) (hL y hy)
 unfold ints at this
 rw [this]
structure Fnd (p:List (List Int)) (a k:Nat) (L:List Nat):Prop where
 nd:(L.map (knd p)).Nodup
 hd:(L.map (knd p)).head? = some (knd p a)
 rc : ∀ x ∈ L,Rch p a x
 al : ∀ j (h:j < (rf p a).length),j < k→knd p (rf p a)[j] ∈ L.map (knd p)
theorem Fnd.zero' {r:Nat} (hr:Rch p a r) (hk:knd p r=knd p a):Fnd p a 0 [r]:=⟨by simp,by simp [hk],fun x hx=>by rw [List.mem_singleton.1 hx];exact hr,fun j h h2=>by omega⟩
theorem Fnd.zero:Fnd p a 0 [a]:=Fnd.zero' (.refl a) rfl
theorem Fnd.skip (h:Fnd p a k L) (hk:k < (rf p a).length) (hm:knd p (rf p a)[k] ∈ L.map (knd p)):Fnd p a (k+1) L:=⟨h.nd,h.hd,h.rc,fun j hj h2=>by
 rcases Nat.lt_or_ge j k with h3 | h3
 ·exact h.al j hj h3
 ·obtain rfl:j=k:=by omega
  exact hm⟩
theorem Fnd.step (hp:Gr p) (ha:a < p.length) (h:Fnd p a k L) (hk:k < (rf p a).length) (hm:knd p (rf p a)[k] ∉ L.map (knd p)):Fnd p a (k+1) (L++[(rf p a)[k]]):=by
 refine ⟨?_,?_,fun x hx=>?_,fun j hj h2=>?_⟩
 ·rw [List.map_append,List.nodup_append]
  refine ⟨h.nd,by simp,fun x hx y hy e=>?_⟩
  simp only [List.map_cons,List.map_nil,List.mem_singleton] at hy
  subst hy;subst e;exact hm hx
 ·rw [List.map_append,List.head?_append,h.hd];rfl
 ·rcases List.mem_append.1 hx with hx | hx
  ·exact h.rc x hx
  ·rw [List.mem_singleton.1 hx]
   exact (mem_rf hp ha).1 (List.getElem_mem hk)
 ·rw [List.map_append,List.mem_append]
  rcases Nat.lt_or_ge j k with h3 | h3
  ·exact .inl (h.al j hj h3)
  ·obtain rfl:j=k:=by omega
   exact .inr (by simp)
theorem Fnd.kds (hp:Gr p) (ha:a < p.length) (h:Fnd p a k L) (hk:(rf p a).length≤k):Kds p a (L.map (knd p)):=by
 refine ⟨h.nd,h.hd,fun x=>⟨fun hx=>?_,?_⟩⟩
 ·obtain ⟨y,hy,rfl⟩:=List.mem_map.1 hx
  exact ⟨y,h.rc y hy,rfl⟩
 ·rintro ⟨y,hy,rfl⟩
  obtain ⟨j,hj,e⟩:=List.mem_iff_getElem.1 ((mem_rf hp ha).2 hy)
  have:=h.al j hj (by omega)
  rwa [e] at this
theorem Fnd.lt (hp:Gr p) (ha:a < p.length) (h:Fnd p a k L) {x:Nat} (hx:x ∈ L):x < p.length:=(h.rc x hx).lt hp ha
theorem Fnd.len (hp:Gr p) (ha:a < p.length) (h:Fnd p a k L):L.length≤p.length:=by
 have:=nodup_len h.nd (n:=p.length) fun j hj=>by
  obtain ⟨y,hy,rfl⟩:=List.mem_map.1 hj
  exact knd_lt (h.lt hp ha hy)
 simpa using this
def krow (p:List (List Int)) (K:List Nat) (l:List Nat):List Int:=K.map fun y=>b01 (l.any fun j=>decide (knd p j=y))
theorem krow_len {K l:List Nat} : (krow p K l).length=K.length:=by simp [krow]
theorem krow_none {K:List Nat} : krow p K []=List.replicate K.length 0:=by
 rw [← List.map_const']
 exact List.map_congr_left fun y _=>rfl
theorem krow_step {K l:List Nat} {j m:Nat} (hn:K.Nodup) (hm:m < K.length) (hj:knd p j=K[m]):(krow p K l).set m 1=krow p K (l++[j]):=by
 apply List.ext_getElem (by simp [krow])
 intro i h1 h2
 rw [List.getElem_set]
 have hi:i < K.length:=by simpa [krow] using h2
 simp only [krow,List.getElem_map,List.any_append,List.any_cons,List.any_nil,Bool.or_false]
 by_cases e:m=i
 ·subst e
  have:decide (knd p j=K[m])=true:=decide_eq_true hj
  rw [if_pos rfl,this,Bool.or_true];rfl
 ·have:decide (knd p j=K[i])=false:=decide_eq_false fun h=>e ((List.getElem_inj hn).1 (hj.symm.trans h))
  rw [if_neg e,this,Bool.or_false]
theorem krow_qp (hp:Gr p) {K:List Nat} {v i:Nat} (hv:v < p.length) (hi:i < K.length) (hk:knd p v=K[i]) (hK : ∀ x ∈ K,x < p.length) (hkk : ∀ x ∈ K,knd p x=x):krow p K (arr p v)=(qp p K)[i]'(by rw [qp_len];exact hi):=by
 simp only [qp,List.getElem_map,krow]
 refine List.map_congr_left fun y hy=>?_
 congr 1
 have hb:=knd_self hp hv
 rw [hk] at hb
 have hil:=hK K[i] (List.getElem_mem hi)
 rw [Bool.eq_iff_iff,List.any_eq_true,List.any_eq_true]
 constructor
 ·rintro ⟨j,hj,h⟩
  obtain ⟨j',hj',hb'⟩:=hb.fst j hj
  exact ⟨j',hj',by rw [decide_eq_true_eq] at h ⊢;rw [← (knd_bis hp (arr_lt hp hv hj) (arr_lt hp hil hj')).2 hb',h]⟩
 ·rintro ⟨j,hj,h⟩
  obtain ⟨j',hj',hb'⟩:=hb.snd j hj
  exact ⟨j',hj',by rw [decide_eq_true_eq] at h ⊢;rw [(knd_bis hp (arr_lt hp hv hj') (arr_lt hp hil hj)).2 hb',h]⟩
def fq (Q:List (List Int)) (n i:Nat):List (List Int):=Q.take i++List.replicate (n - i) (List.replicate n 0)
theorem fq_len {Q:List (List Int)} {i:Nat} (hQ:Q.length=n) (hi:i≤n):(fq Q n i).length=n:=by simp [fq];omega
theorem fq_at {Q:List (List Int)} {i:Nat} (hQ:Q.length=n) (hi:i < n):(fq Q n i)[i]'(by rw [fq_len hQ (by omega)];exact hi)=List.replicate n 0:=by
 have hl:(Q.take i).length=i:=by simp;omega
 unfold fq
 rw [List.getElem_append_right (by omega)]
 simp
theorem fq_set {Q:List (List Int)} {i:Nat} (hQ:Q.length=n) (hi:i < n) {r:List Int} (hr:Q[i]'(by omega)=r):(fq Q n i).set i r=fq Q n (i+1):=by
 have hl:(Q.take i).length=i:=by simp;omega
 unfold fq
 rw [List.set_append_right _ _ (by omega),hl,Nat.sub_self,show n - i=(n - (i+1))+1 by omega,List.replicate_succ,List.set_cons_zero,take_snoc _ _ (by omega),List.append_assoc,hr]
 rfl
theorem fq_all {Q:List (List Int)} (hQ:Q.length=n):fq Q n n=Q:=by
 unfold fq
 rw [List.take_of_length_le (by omega)];simp
theorem row_next {Q rows:List (List Int)} {i k:Nat} {r r':List Int} {x:Int} (hrw:rows=Q.set i r) (hi:i < rows.length) (h:rows[i].set k x=r'):rows.set i (rows[i].set k x)=Q.set i r':=by
 rw [h];subst hrw;rw [List.set_set]
end
set_option linter.unusedVariables false
section
variable {P:Program} {n fuel:Nat} {N:Env→World→Prop} {ρ : Env} {w w0:World} {all:Array Oper} {S:World→Prop} {listed:Array Bool} {d d2:Nat} {ty t el tl ty2:TypeId} {pos pos2:String} {after after2:Array Edge} {g g2:Option (Nat × Bool)} {x y:Operand} {v:Value}
theorem Wh_get {α : Type} {E:World→Value→α→Prop} {xs:List α} {k:Nat} (i j:Nat) (hi:all[i]? = some ⟨some d,.indexAddr t x y,ty,pos,after,g⟩) (hf:Region.free .any all listed i=true) (hr:(Region.ready .any all listed).contains i=true)
  (hw:wantedE all ⟨some d,.indexAddr t x y,ty,pos,after,g⟩ ρ = true)
  (hi2:all[j]? = some ⟨some d2,.load tl (.tmp d),ty2,pos2,after2,g2⟩) (hf2:Region.free .any all (listed.setIfInBounds i true) j=true) (hr2:(Region.ready .any all (listed.setIfInBounds i true)).contains j=true)
  (hw2 : ∀ v,wantedE all ⟨some d2,.load tl (.tmp d),ty2,pos2,after2,g2⟩ (upd ρ d v)=true)
  (ht:P.underlying t=some (.slice el)) (hs : ∀ w,(sizeOf el).run P w=.ok 1 w) (hta : ∀ w,(isAgg tl).run P w=.ok false w)
  (hx:evalE ρ x=v) (hR:ESl E w0 v xs) (hE : ∀ w',S w'→Ext w0 w') (hy:evalE ρ y=.int .i64 (k:Int)) (hk:k < xs.length) (hS:S w)
  (hk' : ∀ ad u,E w0 u xs[k]→Wh P n all S fuel ((listed.setIfInBounds i true).setIfInBounds j true) N (upd (upd ρ d (.pointer (some ad))) d2 u) w) :
  Wh P n all S (fuel+2) listed N ρ w:=by
 obtain ⟨a,c,rfl,hR⟩:=hR
 obtain ⟨b,o,u,rfl,hc,hu⟩:=hR.at hk
 refine Kp i hi hf hr hw (fun _ _=>Jr ht hs hx hy hk) hS ?_
 refine Kp j hi2 hf2 hr2 (hw2 _) (fun w' hw'=>Km hta ?_ ((hE w' hw').cell hc)) hS (hk' _ u hu)
 show upd ρ d _ d=_
 unfold upd;rw [Nat.beq_refl];rfl
theorem Wh_get_z {α : Type} {E:World→Value→α→Prop} {xs:List α} {z:Int} (i j:Nat) (hi:all[i]? = some ⟨some d,.indexAddr t x y,ty,pos,after,g⟩) (hf:Region.free .any all listed i=true) (hr:(Region.ready .any all listed).contains i=true)
  (hw:wantedE all ⟨some d,.indexAddr t x y,ty,pos,after,g⟩ ρ = true)
  (hi2:all[j]? = some ⟨some d2,.load tl (.tmp d),ty2,pos2,after2,g2⟩) (hf2:Region.free .any all (listed.setIfInBounds i true) j=true) (hr2:(Region.ready .any all (listed.setIfInBounds i true)).contains j=true)
  (hw2 : ∀ v,wantedE all ⟨some d2,.load tl (.tmp d),ty2,pos2,after2,g2⟩ (upd ρ d v)=true)
  (ht:P.underlying t=some (.slice el)) (hs : ∀ w,(sizeOf el).run P w=.ok 1 w) (hta : ∀ w,(isAgg tl).run P w=.ok false w)
  (hx:evalE ρ x=v) (hR:ESl E w0 v xs) (hE : ∀ w',S w'→Ext w0 w') (hy:evalE ρ y=.int .i64 z) (hk:0≤z∧z.toNat < xs.length) (hS:S w)
  (hk' : ∀ ad u,E w0 u xs[z.toNat]→Wh P n all S fuel ((listed.setIfInBounds i true).setIfInBounds j true) N (upd (upd ρ d (.pointer (some ad))) d2 u) w) :
  Wh P n all S (fuel+2) listed N ρ w :=
 Wh_get i j hi hf hr hw hi2 hf2 hr2 hw2 ht hs hta hx hR hE (by rw [hy,toNat_cast hk.1]) hk.2 hS hk'
end
end Go.Hs
namespace Go.Proofs.YtbgpppaljpngmaaGreatDoor
open Go.Hs
set_option maxRecDepth 10000
set_option maxHeartbeats 4000000
set_option linter.unusedVariables false
set_option linter.unusedSimpArgs false
def reoR (c:List (List Int)) (o:List Nat) (i:Nat):List Int:=o.map fun j=>bit c i j
def reoQ (c:List (List Int)) (o:List Nat) (i:Nat):List (List Int):=(o.take i).map (reoR c o)++List.replicate (o.length - i) (List.replicate o.length 0)
theorem reoQ_len {c:List (List Int)} {o:List Nat} {i:Nat} (hi:i≤o.length):(reoQ c o i).length=o.length:=by simp [reoQ];omega
theorem reoQ_at {c:List (List Int)} {o:List Nat} {i:Nat} (hi:i < o.length):(reoQ c o i)[i]'(by rw [reoQ_len (by omega)];exact hi)=List.replicate o.length 0:=by
 have hl:((o.take i).map (reoR c o)).length=i:=by simp;omega
 unfold reoQ
 rw [List.getElem_append_right (by omega)]
 simp
theorem reoQ_set {c:List (List Int)} {o:List Nat} {i:Nat} (hi:i < o.length):(reoQ c o i).set i (reoR c o o[i])=reoQ c o (i+1):=by
 have hl:((o.take i).map (reoR c o)).length=i:=by simp;omega
 unfold reoQ
 rw [List.set_append_right _ _ (by omega),hl,Nat.sub_self,show o.length - i=(o.length - (i+1))+1 by omega,List.replicate_succ,List.set_cons_zero,take_snoc _ _ hi,List.map_append,List.append_assoc]
 rfl
theorem reoQ_all {c:List (List Int)} {o:List Nat} : reoQ c o o.length=reo c o:=by simp [reoQ,reo,reoR]
theorem reoR_at {c:List (List Int)} {o:List Nat} {x k:Nat} (hk:k < (reoR c o x).length):(reoR c o x)[k]=bit c x (o[k]'(by simpa [reoR] using hk)):=by simp [reoR]
theorem bit_at {c:List (List Int)} {x y:Nat} (hx:x < c.length) (hy:y < c[x].length):bit c x y=c[x][y]:=by
 unfold bit
 rw [getD_lt hx,getD_lt hy]
theorem fill_k {l:List Int} {k n:Nat} (hk:k < l.length) (hn:n=l.length) {x:Int} (hx:x=l[k]):(l.take k++List.replicate (n - k) 0).set k x=l.take (k+1)++List.replicate (n - (k+1)) 0:=by
 subst hn;subst hx
 exact set_fill l k hk 0
theorem row_full {Q rows:List (List Int)} {i n:Nat} {r:List Int} (hrw:rows=Q.set i (r.take n++List.replicate (n - n) 0)) (hn:r.length≤n):rows=Q.set i r:=by
 rw [Nat.sub_self,List.replicate_zero,List.append_nil,List.take_of_length_le hn] at hrw
 exact hrw
theorem reordered_ok (w:World) (v u:Value) (c:List (List Int)) (o:List Nat) (h:ESl Ints w v c) (hu:Ints w u (ints o)) (hc:Gr c) (ho:o.length=c.length) (hlt : ∀ x ∈ o,x < c.length) :
  Does Tryz.prog 186 [v,u] w (RetO w XR (reo c o)):=by
 have hp5:=hc.2.1
 have hc1:=hc.1
 have hle:=h.le
 have hil:=ints_len o
 have hem : ∀ w,Does Tryz.prog 183 [.int .i64 (c.length:Int)] w (RetO w XR (reoQ c o 0)):=fun w=>by
  have:=emptyPicture_ok w c.length (by omega)
  rw [← ho] at this ⊢
  rw [show reoQ c o 0=List.replicate o.length (List.replicate o.length 0) by simp [reoQ]]
  exact this
 refine Jc Tryz.func186 rfl Tryz.results186 Tryz.ntmps186 rfl ?_
 have hq0:=reoQ_len (c:=c) (o:=o) (i:=0) (by omega)
 focus
  refine Ke <| Kc rfl <| Wo rfl (Kb (v:=.slice _ _ _) rfl) <| Kd <| Ke <| Kc rfl <| Wo rfl (Ka (v:=v) rfl) ?_
  refine Wo rfl (Ko Tryz.underlying23 rfl h) <| Kj rfl (Jk (a:=.int _ _) Tryz.call183 rfl) (hem _) ?_;rintro u1 w1 ⟨E1,hO1⟩;have hs1:=E1.size;refine Wo rfl (Kb (v:=u1) rfl) <| Kd ?_
  refine Ke <| Ke <| Kc rfl <| Wo rfl (Ka (v:=u) rfl) <| Wo rfl (Ko Tryz.underlying88 rfl hu) <| Wo rfl (Ka (v:=.int _ _) rfl) <| Kd ?_
  refine Kr ?_
 obtain ⟨ub,uc,rfl,_⟩:=hO1.lit (by omega)
 refine Jh [6,7,8,9,15,16,17,18,19,20,21,22,23,24,25,26,27,28,29,30,31,32,33,34,35,36,37,38,39,40,41] (fun (i:Nat)=>[(15,.int .i64 (i:Int))]) (fun i w'=>Ext w w'∧i≤c.length∧Owned w.heap.size XR w' (.slice (some ⟨ub,0,none⟩) (reoQ c o 0).length uc) (reoQ c o i)) (fun x=>c.length - x) 0 (by repeat (first | exact trivial | refine And.intro rfl ?_)) ?_ ?_
 ·exact ⟨by assumption,Nat.zero_le _,hO1⟩
 clear hO1
 rintro i ρj w2 ⟨E2,hi,hO1⟩
 by_cases hil2:i < c.length
 ·have hgi:(ints o)[i]'(by omega)=(o[i]:Int):=ints_get (by omega)
  have hoi:=hlt o[i] (List.getElem_mem (by omega))
  have hrow:=hc.row (i:=o[i]) (by omega)
  have hli:=reoQ_len (c:=c) (o:=o) (i:=i) (by omega)
  have hat:=reoQ_at (c:=c) (o:=o) (i:=i) (by omega)
  focus
   have szE2:=E2.size;have szE1:=E1.size;refine Ke <| Kc rfl <| Wo rfl (Ks rfl rfl) <| Kd <| Ke <| Kg rfl (fun h1=>?_) (fun h1=>?_);refine Kt ?_
   refine Ke <| Kr <| Ke <| Kc rfl <| Wo rfl (Ka (v:=.int _ _) rfl) ?_
   refine Ji Tryz.underlying88 Tryz.sizeOf3 Tryz.isAgg3 rfl (fun _=>rfl) rfl hu E2 rfl (by first | omega | (simp <;> omega)) ?_;rintro _ _ rfl;refine Wo rfl (Kb (v:=.int _ _) rfl) ?_
   refine Wo rfl (Kb (v:=.int _ _) rfl) <| Kd <| Ke <| Kc rfl <| Wo rfl (Ka (v:=u) rfl) <| Wo rfl (Ko Tryz.underlying88 rfl hu) ?_
   refine Wo rfl (Ka (v:=.int _ _) rfl) <| Kd <| Kr ?_;rotate_left;(exfalso;omega)
  obtain ⟨br,cr,hR,hb1,hb2⟩:=hO1.rowAt (i:=i) (by omega) (by rw [hat];simp;omega)
  refine Jh [8,9,22,23,24,25,26,27,28,29,30,31,32,33,34,35,36,37,38,39,40] (fun ((k,rows):Nat × List (List Int))=>[(22,.int .i64 (k:Int))]) (fun (k,rows) w'=>Ext w w'∧w2.heap.size≤w'.heap.size∧k≤c.length∧Owned w.heap.size XR w' (.slice (some ⟨ub,0,none⟩) (reoQ c o 0).length uc) rows∧RowAt w' (.slice (some ⟨ub,0,none⟩) (reoQ c o 0).length uc) i br (reoQ c o i)[i].length cr∧rows=(reoQ c o i).set i ((reoR c o o[i]).take k++List.replicate (c.length - k) 0)) (fun x=>c.length - x.1) (0,reoQ c o i) (by repeat (first | exact trivial | refine And.intro rfl ?_)) ?_ ?_
  ·refine ⟨by assumption,by omega,Nat.zero_le _,hO1,hR,?_⟩
   rw [show (reoR c o o[i]).take 0++List.replicate (c.length - 0) 0=(reoQ c o i)[i] by rw [hat];simp [ho]]
   simp
  clear hO1 hR
  rintro ⟨k,rows⟩ ρk w3 ⟨E3,hs3,hk,hO1,hR,hrw⟩
  have hrl:rows.length=o.length:=by rw [hrw];simp;omega
  have hRl:(reoR c o o[i]).length=o.length:=by simp [reoR]
  have hrq:(reoQ c o i)[i].length=c.length:=by rw [hat];simp [ho]
  have hri:rows[i]'(by omega)=(reoR c o o[i]).take k++List.replicate (c.length - k) 0:=by simp only [hrw,List.getElem_set_self]
  have hrll:(rows[i]'(by omega)).length=c.length:=by rw [hri];simp;omega
  by_cases hkl:k < c.length
  ·have hgk:(ints o)[k]'(by omega)=(o[k]:Int):=ints_get (by omega)
   have hok:=hlt o[k] (List.getElem_mem (by omega))
   have hval:(c[((ints o)[i]'(by omega)).toNat]'(by omega))[((ints o)[k]'(by omega)).toNat]'(by simp only [hgi,hgk,Int.toNat_natCast];omega)=(reoR c o o[i])[k]'(by omega):=by
    rw [reoR_at]
    simp only [hgi,hgk,Int.toNat_natCast]
    exact (bit_at hoi (by rw [hrow];exact hok)).symm
   have hcl:(c[((ints o)[i]'(by omega)).toNat]'(by omega)).length=c.length:=by simp only [hgi,Int.toNat_natCast];exact hrow
   have hcell:=rowAt_cell hR
   have heldS:w=w:=rfl
   focus
    have szE3:=E3.size;have szE2:=E2.size;have szE1:=E1.size;refine Ke <| Kc rfl <| Wo rfl (Ks rfl rfl) <| Kd <| Ke <| Kg rfl (fun h2=>?_) (fun h2=>?_)
    refine Kt ?_;refine Ke <| Kr <| Ke <| Kc rfl <| Wo rfl (Ka (v:=.int _ _) rfl) ?_
    refine Ji Tryz.underlying88 Tryz.sizeOf3 Tryz.isAgg3 rfl (fun _=>rfl) rfl hu E3 rfl (by first | omega | (simp <;> omega)) ?_;rintro _ _ rfl;refine Wo rfl (Kb (v:=.int _ _) rfl) ?_
    refine Wo rfl (Kb (v:=.int _ _) rfl) <| Kd <| W_held (fun w'=>Ext w w') mixed rfl (by kernel_rfl) ?_;intro w4 E4 K1 hz1;have hs2:=E4.size
    refine Kp 0 rfl (by kernel_rfl) (by kernel_rfl) rfl (fun _ _=>Ka (v:=.slice _ _ _) rfl) (E3.trans E4) ?_
    refine Kp 1 rfl (by kernel_rfl) (by kernel_rfl) rfl (fun _ _=>Ka (v:=.int _ _) rfl) (E3.trans E4) ?_
    refine Kp 2 rfl (by kernel_rfl) (by kernel_rfl) rfl (fun _ _=>Jr Tryz.underlying23 Tryz.sizeOf88 rfl rfl (by omega)) (E3.trans E4) ?_
    refine Kp 4 rfl (by kernel_rfl) (by kernel_rfl) rfl (fun _ _=>Ka (v:=.int _ _) rfl) (E3.trans E4) ?_;refine Kp 5 rfl (by kernel_rfl) (by kernel_rfl) rfl (fun _ _=>Ka (v:=v) rfl) (E3.trans E4) ?_
    refine Kp 6 rfl (by kernel_rfl) (by kernel_rfl) rfl (fun _ _=>Ka (v:=.int _ _) rfl) (E3.trans E4) ?_
    refine Wh_get_z 7 8 rfl (by kernel_rfl) (by kernel_rfl) rfl rfl (by kernel_rfl) (by kernel_rfl) (fun _=>rfl) Tryz.underlying23 Tryz.sizeOf88 Tryz.isAgg88 rfl h (fun w' hw'=>Ext.trans (Ext.refl _) hw') rfl (by first | omega | (simp <;> omega)) (E3.trans E4) ?_
    rintro _ u1 hu1;refine Kp 9 rfl (by kernel_rfl) (by kernel_rfl) rfl (fun _ _=>Ka (v:=.int _ _) rfl) (E3.trans E4) ?_
    refine Wh_get_z 10 11 rfl (by kernel_rfl) (by kernel_rfl) rfl rfl (by kernel_rfl) (by kernel_rfl) (fun _=>rfl) Tryz.underlying88 Tryz.sizeOf3 Tryz.isAgg3 rfl hu1 (fun w' hw'=>Ext.trans (Ext.refl _) hw') rfl (by first | omega | (simp <;> omega)) (E3.trans E4) ?_
    rintro _ _ rfl;refine Ku (rs:=[3]) (by kernel_rfl) rfl ?_;refine Kh rfl ?_ ?_;refine Wo rfl (Km Tryz.isAgg88 rfl (E4.cell hcell)) <| Kd ?_;refine ⟨(E3.trans E4),?_⟩
    refine Kp 12 rfl (by kernel_rfl) (by kernel_rfl) rfl (fun _ _=>Jr Tryz.underlying88 Tryz.sizeOf3 rfl rfl (by omega)) (E3.trans E4) ?_;refine Ku (rs:=[13]) (by kernel_rfl) rfl ?_;refine Kh rfl ?_ ?_
    refine Wo_gset rfl Tryz.sizeOf3 rfl rfl (hO1.toB.ext E4) (hR.ext E4) (by first | omega | (simp <;> omega)) (by first | omega | (simp <;> omega)) ?_;rintro w5 hO1 hR On1 K2 hz2;have E5:=On1.ext1 (E3.trans E4) (by omega)
    have hs4:=On1.size;refine Kd ?_;refine ⟨E5,?_⟩;refine Jm (by kernel_rfl) ?_;refine Kc rfl <| Wo rfl (Kw rfl rfl (by omega)) ?_;refine Wo rfl (Ka (v:=.int _ _) rfl) <| Kd ?_
    rotate_left;exact Kl;exact Kl;(exfalso;omega)
   refine ⟨((k+1,rows.set i (rows[i].set k (c[((ints o)[i]'(by omega)).toNat]'(by omega))[((ints o)[k]'(by omega)).toNat]))),by repeat (first | exact trivial | refine And.intro rfl ?_),by repeat (first | with_reducible exact Same.refl | refine Same.upd rfl ?_ | refine Same.upds rfl ?_ | refine Same.mix rfl ?_),?_,?_⟩
   ·refine ⟨by exact E5,by omega,by omega,by exact hO1,by exact hR,?_⟩
    refine row_next hrw (by omega) ?_
    rw [hri]
    exact fill_k (by omega) (by omega) hval
   ·simp only;omega
  ·obtain rfl:k=c.length:=by omega
   focus
    have szE3:=E3.size;have szE2:=E2.size;have szE1:=E1.size;refine Ke <| Kc rfl <| Wo rfl (Ks rfl rfl) <| Kd <| Ke <| Kg rfl (fun h2=>?_) (fun h2=>?_)
    (exfalso;omega);refine Jg ?_;refine exitX_same ?_;refine Kc rfl <| Wo rfl (Kw rfl rfl (by omega)) ?_;refine Wo rfl (Ka (v:=.int _ _) rfl) <| Kd ?_
   refine ⟨(i+1),by repeat (first | exact trivial | refine And.intro rfl ?_),by repeat (first | with_reducible exact Same.refl | refine Same.upd rfl ?_ | refine Same.upds rfl ?_ | refine Same.mix rfl ?_),?_,?_⟩
   ·refine ⟨by exact E3,by omega,?_⟩
    rw [← reoQ_set (show i < o.length by omega)]
    rw [← row_full hrw (by omega)]
    exact hO1
   ·omega
 ·obtain rfl:i=c.length:=by omega
  focus
   have szE2:=E2.size;have szE1:=E1.size;refine Ke <| Kc rfl <| Wo rfl (Ks rfl rfl) <| Kd <| Ke <| Kg rfl (fun h1=>?_) (fun h1=>?_);(exfalso;omega)
   refine Jg ?_;refine exitX_same ?_;refine Ke <| Kc rfl <| Wo rfl (Ka (v:=.slice _ _ _) rfl) <| Wo rfl (Kb (v:=.slice _ _ _) rfl) <| Kd <| Ja ?_
   refine ⟨E2,(congrArg (Owned _ _ _ _) ?_).mp (hO1.toB.o.mono (by omega))⟩
  rw [← ho,reoQ_all]
def Tryz.laysSort_ren : Go.Shelf.Ren := ⟨fun | 189 => 228 | 125 => 239 | 257 => 238 | 128 => 252 | 129 => 231 | 294 => 243 | 295 => 244 | 296 => 245 | 297 => 246 | 298 => 247 | 299 => 248 | 216 => 249 | 300 => 250 | 301 => 251 | 328 => 253 | 329 => 254 | 330 => 255 | 331 => 256 | 332 => 257 | 215 => 258 | 343 => 259 | n => n, fun | 28 => 88 | 3 => 3 | 46 => 168 | 0 => 0 | 51 => 179 | 53 => 171 | 4 => 4 | 183 => 194 | 182 => 193 | 131 => 84 | 5 => 5 | 9 => 9 | 218 => 205 | 222 => 209 | 228 => 211 | 229 => 212 | n => n, fun | n => n⟩
theorem Tryz.laysSort : Go.Proofs.Lays.n189 Tryz.prog Tryz.laysSort_ren := {
  mixed := by kernel_rfl
  f125 := Tryz.func239.trans (congrArg some (by kernel_rfl))
  f128 := Tryz.func252.trans (congrArg some (by kernel_rfl))
  f129 := Tryz.func231.trans (congrArg some (by kernel_rfl))
  f189 := Tryz.func228.trans (congrArg some (by kernel_rfl))
  f215 := Tryz.func258.trans (congrArg some (by kernel_rfl))
  f216 := Tryz.func249.trans (congrArg some (by kernel_rfl))
  f257 := Tryz.func238.trans (congrArg some (by kernel_rfl))
  f294 := Tryz.func243.trans (congrArg some (by kernel_rfl))
  f295 := Tryz.func244.trans (congrArg some (by kernel_rfl))
  f296 := Tryz.func245.trans (congrArg some (by kernel_rfl))
  f297 := Tryz.func246.trans (congrArg some (by kernel_rfl))
  f298 := Tryz.func247.trans (congrArg some (by kernel_rfl))
  f299 := Tryz.func248.trans (congrArg some (by kernel_rfl))
  f300 := Tryz.func250.trans (congrArg some (by kernel_rfl))
  f301 := Tryz.func251.trans (congrArg some (by kernel_rfl))
  f328 := Tryz.func253.trans (congrArg some (by kernel_rfl))
  f329 := Tryz.func254.trans (congrArg some (by kernel_rfl))
  f330 := Tryz.func255.trans (congrArg some (by kernel_rfl))
  f331 := Tryz.func256.trans (congrArg some (by kernel_rfl))
  f332 := Tryz.func257.trans (congrArg some (by kernel_rfl))
  f343 := Tryz.func259.trans (congrArg some (by kernel_rfl))
  t0 := Tryz.underlying0
  a0 := Tryz.isAgg0
  z0 := Tryz.sizeOf0
  v0 := Tryz.zeroValue0
  t3 := Tryz.underlying3
  a3 := Tryz.isAgg3
  z3 := Tryz.sizeOf3
  v3 := Tryz.zeroValue3
  t4 := Tryz.underlying4
  a4 := Tryz.isAgg4
  z4 := Tryz.sizeOf4
  v4 := Tryz.zeroValue4
  t5 := Tryz.underlying5
  a5 := Tryz.isAgg5
  z5 := Tryz.sizeOf5
  v5 := Tryz.zeroValue5
  t9 := Tryz.underlying9
  a9 := Tryz.isAgg9
  z9 := Tryz.sizeOf9
  v9 := Tryz.zeroValue9
  t28 := Tryz.underlying88
  a28 := Tryz.isAgg88
  z28 := Tryz.sizeOf88
  v28 := Tryz.zeroValue88
  t46 := Tryz.underlying168
  a46 := Tryz.isAgg168
  z46 := Tryz.sizeOf168
  v46 := Tryz.zeroValue168
  t51 := Tryz.underlying179
  a51 := Tryz.isAgg179
  z51 := Tryz.sizeOf179
  v51 := Tryz.zeroValue179
  t53 := Tryz.underlying171
  a53 := Tryz.isAgg171
  z53 := Tryz.sizeOf171
  v53 := Tryz.zeroValue171
  t131 := Tryz.underlying84
  a131 := Tryz.isAgg84
  z131 := Tryz.sizeOf84
  v131 := Tryz.zeroValue84
  t182 := Tryz.underlying193
  a182 := Tryz.isAgg193
  z182 := Tryz.sizeOf193
  v182 := Tryz.zeroValue193
  t183 := Tryz.underlying194
  a183 := Tryz.isAgg194
  z183 := Tryz.sizeOf194
  v183 := Tryz.zeroValue194
  t218 := Tryz.underlying205
  a218 := Tryz.isAgg205
  z218 := Tryz.sizeOf205
  v218 := Tryz.zeroValue205
  t222 := Tryz.underlying209
  a222 := Tryz.isAgg209
  z222 := Tryz.sizeOf209
  v222 := Tryz.zeroValue209
  t228 := Tryz.underlying211
  a228 := Tryz.isAgg211
  z228 := Tryz.sizeOf211
  v228 := Tryz.zeroValue211
  t229 := Tryz.underlying212
  a229 := Tryz.isAgg212
  z229 := Tryz.sizeOf212
  v229 := Tryz.zeroValue212 }
theorem XAll_ints {w:World} {fps:List (List Nat)} {cs:List Value} {xs:List Int} (h:XAll XInt w fps cs xs):cs=xs.map (Value.int .i64)∧fps.flatten=[]:=by
 induction xs generalizing fps cs with
 | nil=>cases fps <;> cases cs <;> first | exact ⟨rfl,rfl⟩ | exact h.elim
 | cons x xs ih =>
   cases fps <;> cases cs <;> first | exact h.elim | skip
   obtain ⟨⟨rfl, rfl⟩, h2⟩ := h
   obtain ⟨rfl, h4⟩ := ih h2
   exact ⟨rfl, h4⟩
theorem XAll_ints_mk {w:World} (xs:List Int):XAll XInt w (xs.map fun _=>[]) (xs.map (Value.int .i64)) xs:=by
 induction xs with
 | nil=>trivial
 | cons x xs ih=>exact ⟨⟨rfl,rfl⟩,ih⟩
theorem Sort_ok (w:World) {lo hi:Nat} (v:Value) (xs:List Int) (h:OwnedB lo hi XI w v xs) (h0:xs≠[]) (hl:xs.length≤1000000) :
  Does Tryz.prog 228 [v] w (RetSO lo hi w (.tuple #[]) XI v (sortI xs)):=by
 obtain ⟨fp,hnd,hfp,cs,fps,hrow,rfl,hX⟩:=h
 obtain ⟨rfl,hf⟩:=XAll_ints hX
 rcases hrow.2 with ⟨h6,h7⟩ | ⟨g,cap,cur,rfl,hg,hb,hn,hcap,hsz,htk⟩
 ·exact absurd (List.length_eq_zero_iff.1 h7) h0
 have hin:=hfp g (by simp [Value.ownBlock])
 have hH:=holds_of_blockI hb (by simpa using htk)
 have hlt:g < w.heap.size:=(Array.getElem?_eq_some_iff.1 hb).1
 have hc:=Go.Proofs.Any.slices_Sort_int Tryz.laysSort g 0 cap xs w hH hlt (by omega)
 unfold Does
 refine Calls.mono (show Calls Tryz.prog 228 _ w _ from hc) ?_
 rintro e w' ⟨he,n,os,rfl⟩
 refine ⟨_,he,rfl,?_,?_⟩
 ·have G:=grownBy_sortedI (w:=w) (g:=g) (n:=n) (os:=os) ((xs.mergeSort fun x y=>decide (x≤y)).toArray)
  exact ⟨G.os,G.tape,G.output,G.size,fun k hk hk2=>G.block k hk2 (by simp;omega)⟩
 ·have hr:=ownsRow_sortedI (n:=n) (os:=os) (base:=0) (ss:=xs) (ts:=sortI xs) (sortI_len xs) (Nat.zero_le _) hb hn hcap hsz
  have hfl : ∀ ys:List Int,(ys.map fun _=>([]:List Nat)).flatten=[]:=by intro ys;induction ys <;> simp_all
  refine ⟨_,?_,?_,_,(sortI xs).map fun _=>[],?_,rfl,XAll_ints_mk _⟩
  ·rw [hfl];simp [Value.ownBlock]
  ·intro k hk;rw [hfl] at hk;simp [Value.ownBlock] at hk;omega
  ·rw [sortI_len];exact hr
end Go.Proofs.YtbgpppaljpngmaaGreatDoor
namespace Go.Hs
theorem shr_mod (x j:Nat):((x >>> j:Nat):Int) % 2=if x.testBit j then 1 else 0:=by
 rw [Nat.testBit_eq_decide_div_mod_eq,Nat.shiftRight_eq_div_pow]
 generalize x / 2 ^ j=q
 by_cases h:q % 2=1
 ·rw [if_pos (by simpa using h)];omega
 ·rw [if_neg (by simpa using h)];omega
theorem shl_le {g k:Nat} (hg:g≤1) (hk:k≤12):g <<< k≤4096:=by
 rw [Nat.shiftLeft_eq]
 have h1:2 ^ k≤2 ^ 12:=Nat.pow_le_pow_right (by omega) hk
 have h2:g*2 ^ k≤1*2 ^ 12:=Nat.mul_le_mul hg h1
 omega
theorem pow_le5 {k:Nat} (hk:k≤12):2 ^ k≤4096:=Nat.pow_le_pow_right (n:=2) (by omega) hk
set_option linter.unusedSimpArgs false
variable {P:Program} {ρ : Env} {w:World} {ty t t':TypeId} {x y:Operand} {a b:Int}
theorem opv_shr {k:IntKind} (hx:evalE ρ x=.int .i64 a) (hy:evalE ρ y=.int k b) (h:0≤a∧a≤9223372036854775807∧0≤b) :
  OpV P (.binOp .shr t x y t') ty ρ w (.int .i64 ((a.toNat >>> b.toNat:Nat):Int)):=by
 obtain ⟨A,rfl⟩:=Int.eq_ofNat_of_zero_le h.1
 obtain ⟨B,rfl⟩:=Int.eq_ofNat_of_zero_le h.2.2
 have key:((A:Int) / 2 ^ min B 64:Int)=((A >>> B:Nat):Int):=by
  rw [Nat.shiftRight_eq_div_pow]
  by_cases hb:B≤64
  ·rw [Nat.min_eq_left hb];simp
  ·rw [Nat.min_eq_right (by omega)]
   have h1:A / 2 ^ B=0:=Nat.div_eq_of_lt (Nat.lt_of_lt_of_le (show A < 2 ^ 64 by omega) (Nat.pow_le_pow_right (by omega) (by omega)))
   rw [h1]
   omega
 simp [OpV,execOp,hx,hy,eqGuard,binOp,shift_shr_any,IntKind.bits]
 exact key
theorem opv_or (hx:evalE ρ x=.int .i64 a) (hy:evalE ρ y=.int .i64 b) (h:0≤a∧a≤9223372036854775807∧0≤b∧b≤9223372036854775807) :
  OpV P (.binOp .or t x y t') ty ρ w (.int .i64 ((a.toNat ||| b.toNat:Nat):Int)):=by
 obtain ⟨A,rfl⟩:=Int.eq_ofNat_of_zero_le h.1
 obtain ⟨B,rfl⟩:=Int.eq_ofNat_of_zero_le h.2.2.1
 have hx':A ||| B < 2 ^ 63:=Nat.or_lt_two_pow (by omega) (by omega)
 have key:IntKind.i64.wrap ((BitVec.ofInt 64 (A:Int) ||| BitVec.ofInt 64 (B:Int)).toNat:Int)=((A ||| B:Nat):Int):=by
  have e1:(BitVec.ofInt 64 (A:Int)).toNat=A:=by simp;omega
  have e2:(BitVec.ofInt 64 (B:Int)).toNat=B:=by simp;omega
  rw [BitVec.toNat_or,e1,e2,IntKind.wrap_i64]
  omega
 simp [OpV,execOp,hx,hy,eqGuard,binOp,Op.intBits]
 exact key
theorem opv_shl {k:IntKind} (hx:evalE ρ x=.int .i64 a) (hy:evalE ρ y=.int k b) (h:0≤a∧a≤1∧0≤b∧b≤60) :
  OpV P (.binOp .shl t x y t') ty ρ w (.int .i64 ((a.toNat <<< b.toNat:Nat):Int)):=by
 obtain ⟨A,rfl⟩:=Int.eq_ofNat_of_zero_le h.1
 obtain ⟨B,rfl⟩:=Int.eq_ofNat_of_zero_le h.2.2.1
 have hB:(2:Nat) ^ B≤2 ^ 60:=Nat.pow_le_pow_right (by omega) (by omega)
 have key:IntKind.i64.wrap ((A:Int)*2 ^ B)=((A <<< B:Nat):Int):=by
  rw [Nat.shiftLeft_eq,IntKind.wrap_i64]
  have e:((2:Int) ^ B)=((2 ^ B:Nat):Int):=by simp
  rw [e]
  generalize (2:Nat) ^ B=q at hB
  have hA:A=0∨A=1:=by omega
  rcases hA with rfl | rfl
  ·simp
  ·simp only [Nat.one_mul,Int.natCast_one,Int.one_mul]
   omega
 simp [OpV,execOp,hx,hy,eqGuard,binOp,shift_shl_any,IntKind.bits]
 simpa using key
end Go.Hs
namespace Go.Proofs.YtbgpppaljpngmaaGreatDoor
open Go.Hs
set_option maxRecDepth 10000
set_option maxHeartbeats 4000000
set_option linter.unusedVariables false
set_option linter.unusedSimpArgs false
noncomputable def rfV (p:List (List Int)) (z:Int):List Nat:=if Nod p z then rf p z.toNat else []
theorem spec_ReachedFrom_ok (w:World) (v:Value) (p:List (List Int)) (z:Int) (h:ESl Ints w v p):Does Tryz.prog 161 [v,.int .i64 z] w (RetO w XI (ints (rfV p z))):=by
 have hle:=h.le
 by_cases hp:Pic p
 ·have hpic : ∀ (w:World) (pv:Value),ESl Ints w pv p→Does Tryz.prog 115 [pv] w (Ret w (.bool true)):=fun w pv h=>by
   have:=PictureOk_ok w pv p h
   rw [decide_eq_true hp] at this;exact this
  by_cases hz:0≤z∧z < p.length
  ·have hV:rfV p z=rf p z.toNat:=if_pos ⟨hp,hz⟩
   rw [hV]
   obtain ⟨i,rfl⟩:=Int.eq_ofNat_of_zero_le hz.1
   have hi:i < p.length:=by omega
   have hp5:=hp.2.1
   have h2:=pow_le5 (k:=p.length) (by omega)
   have hsli:=shl_le (g:=1) (k:=i) (by omega) (by omega)
   have e0:((i:Int)).toNat=i:=rfl
   rw [e0]
   have h1p : ∀ j,j < p.length→1 <<< j < 2 ^ p.length:=fun j hj=>by rw [Nat.one_shiftLeft];exact Nat.pow_lt_pow_right (by omega) hj
   have h1b : ∀ j k,(1 <<< j).testBit k=decide (j=k):=fun j k=>by rw [Nat.one_shiftLeft,Nat.testBit_two_pow]
   refine Jc Tryz.func161 rfl Tryz.results161 Tryz.ntmps161 rfl ?_
   focus
    refine Ke <| Kc rfl <| Wo rfl (Kb (v:=.slice _ _ _) rfl) <| Kd <| Ke <| Kc rfl <| Js XInt rfl el88 Tryz.sizeOf3 ?_;rintro b1 w1 hb1 b1lt E1 hO1
    have hs1:=E1.size;refine Wo rfl (Kb (v:=.slice _ _ _) rfl) <| Kd <| Ke <| Ke <| Kc rfl <| Wo rfl (Ka (v:=v) rfl) ?_
    refine Kj rfl (Jk (a:=v) Tryz.call115 rfl) (hpic _ _ ((Mono.mono E1 h))) ?_;rintro _ w2 ⟨rfl,E2⟩;have hs2:=E2.size;refine Wo rfl (Jf rfl) ?_
    refine Jy rfl (Ka (v:=.bool _) rfl) (fun h1=>?_) (fun h1=>?_);contradiction;refine Wo rfl (Ka (v:=.int _ _) rfl) <| Wo rfl (Ka (v:=v) rfl) ?_
    refine Wo rfl (Ko Tryz.underlying23 rfl h) <| Wo rfl (opv_sub rfl rfl (by omega)) ?_;refine Kj rfl (opc3 (a:=.int _ _) (b:=.int _ _) (c:=.int _ _) Tryz.call116 rfl rfl rfl) (l1In_ok _ _ _ _) ?_
    rintro _ w3 ⟨rfl,E3⟩;have hs3:=E3.size;refine Wo rfl (Jf rfl) <| Wo rfl (Kn (v:=.bool _) rfl rfl) <| Kd <| Jj rfl (fun h3=>?_) (fun h3=>?_);(exfalso;omega)
    refine Kt ?_;refine Ke <| Kc rfl <| Wo rfl (Ka (v:=.int _ _) rfl) <| Wo rfl (opv_shl rfl rfl (by omega)) ?_;refine Wo rfl (Kb (v:=.int _ _) rfl) <| Kd ?_
    refine Ke <| Ke <| Kc rfl <| Wo rfl (Kb (v:=.int _ _) rfl) <| Kd <| Kr ?_
   refine Jh [6,7,8,9,26,27,28,29,30,31,32,33,34,35,36,37,38,39,40,41,42,43,44,45,46,47,48,49,50,51,52,53,54,55,56,57,58,59,60,61,62] (fun (n,M)=>[(7,.int .i64 (n:Nat)),(6,.int .i64 (M:Nat))]) (fun (n,M) w'=>w'=w3∧n≤p.length∧M < 2 ^ p.length∧(∀ j,st p i n j→M.testBit j=true)∧(∀ j,M.testBit j=true→Rch p i j)) (fun x=>p.length - x.1) (0,1 <<< i) (by repeat (first | exact trivial | refine And.intro rfl ?_)) ?_ ?_
   ·refine ⟨rfl,Nat.zero_le _,h1p i hi,fun j hj=>?_,fun j hj=>?_⟩
    ·rw [show j=i from hj,h1b];simp
    ·rw [h1b] at hj;rw [← of_decide_eq_true hj];exact .refl _
   rintro ⟨n,M⟩ ρj w4 ⟨rfl,hn,hM,hC,hS⟩
   by_cases hnl:n < p.length
   ·focus
     have szE3:=E3.size;have szE2:=E2.size;have szE1:=E1.size;refine Ke <| Ke <| Kc rfl <| Wo rfl (Ka (v:=.int _ _) rfl) <| Wo rfl (Ka (v:=v) rfl) ?_
     refine Wo rfl (Ko Tryz.underlying23 rfl h) <| Wo rfl (Ks rfl rfl) <| Kd <| Kg rfl (fun h4=>?_) (fun h4=>?_);refine Kt ?_;refine Ke <| Kr <| Ke ?_
     refine Kc rfl <| Wo rfl (Kb (v:=.int _ _) rfl) <| Kd <| Kr ?_;rotate_left;(exfalso;omega)
    refine Jh [6,8,9,32,33,34,35,36,37,38,39,40,41,42,43,44,45,46,47,48,49,50,51,52,53,54,55,56,57,58,59,60,61,62] (fun (k,M)=>[(8,.int .i64 (k:Nat)),(6,.int .i64 (M:Nat))]) (fun (k,M) w'=>w'=w4∧k≤p.length∧M < 2 ^ p.length∧(∀ j,st p i n j→M.testBit j=true)∧(∀ j,M.testBit j=true→Rch p i j)∧∀ k',k' < k→st p i n k'→∀ j ∈ arr p k',M.testBit j=true) (fun x=>p.length - x.1) (0,M) (by repeat (first | exact trivial | refine And.intro rfl ?_)) ?_ ?_
    ·exact ⟨rfl,Nat.zero_le _,hM,hC,hS,fun k' hk'=>by omega⟩
    clear hM hC hS
    rintro ⟨k,M⟩ ρk w5 ⟨rfl,hk,hM,hC,hS,hK⟩
    by_cases hkl:k < p.length
    ·have hrow:=hp.row hkl
     focus
      have szE3:=E3.size;have szE2:=E2.size;have szE1:=E1.size;refine Ke <| Ke <| Kc rfl <| Wo rfl (Ka (v:=.int _ _) rfl) <| Wo rfl (Ka (v:=v) rfl) ?_
      refine Wo rfl (Ko Tryz.underlying23 rfl h) <| Wo rfl (Ks rfl rfl) <| Kd <| Kg rfl (fun h5=>?_) (fun h5=>?_);refine Kt ?_;refine Ke <| Kr <| Ke ?_
      refine Kc rfl <| Wo rfl (Kb (v:=.int _ _) rfl) <| Kd <| Kr ?_;rotate_left;(exfalso;omega)
     refine Jh [6,9,38,39,40,41,42,43,44,45,46,47,48,49,50,51,52,53,54,55,56,57,58,59,60,61,62] (fun (j,M)=>[(9,.int .i64 (j:Nat)),(6,.int .i64 (M:Nat))]) (fun (j,M) w'=>w'=w5∧j≤p.length∧M < 2 ^ p.length∧(∀ j,st p i n j→M.testBit j=true)∧(∀ j,M.testBit j=true→Rch p i j)∧(∀ k',k' < k→st p i n k'→∀ j ∈ arr p k',M.testBit j=true)∧∀ j',j' < j→st p i n k→j' ∈ arr p k→M.testBit j'=true) (fun x=>p.length - x.1) (0,M) (by repeat (first | exact trivial | refine And.intro rfl ?_)) ?_ ?_
     ·exact ⟨rfl,Nat.zero_le _,hM,hC,hS,hK,fun j' hj'=>by omega⟩
     clear hM hC hS hK
     rintro ⟨j,M⟩ ρl w6 ⟨rfl,hj,hM,hC,hS,hK,hJ⟩
     by_cases hjl:j < p.length
     ·have hgd:=getD_lt (l:=p[k]) (i:=j) (d:=0) (by omega)
      have hsm:=shr_mod M k
      have hsl:=shl_le (g:=1) (k:=j) (by omega) (by omega)
      have hsl0:(0:Int)≤((1 <<< j:Nat):Int):=Int.natCast_nonneg _
      have hma:=mem_arr (j:=j) hp hkl
      have hbit:bit p k j=p[k][j]:=by unfold bit;rw [getD_lt hkl,hgd]
      rw [hbit] at hma
      focus
       have szE3:=E3.size;have szE2:=E2.size;have szE1:=E1.size;refine Ke <| Ke <| Kc rfl <| Wo rfl (Ka (v:=.int _ _) rfl) <| Wo rfl (Ka (v:=v) rfl) ?_
       refine Wo rfl (Ko Tryz.underlying23 rfl h) <| Wo rfl (Ks rfl rfl) <| Kd <| Kg rfl (fun h6=>?_) (fun h6=>?_);refine Kt ?_;refine Ke <| Kr <| Ke ?_
       refine Kc rfl <| Wo rfl (Ka (v:=.int _ _) rfl) <| Wo rfl (Ka (v:=.int _ _) rfl) <| Wo rfl (opv_shr rfl rfl (by omega)) ?_
       refine Wo rfl (opv_rem rfl rfl ⟨Int.natCast_nonneg _,by omega⟩) ?_;refine Wo rfl (Kx rfl rfl) <| Kv rfl (Ka (v:=.bool _) rfl) (fun h7=>?_) (fun h7=>?_);refine Wo rfl (Ka (v:=v) rfl) ?_
       refine Wo rfl (Ka (v:=.int _ _) rfl) <| Ji Tryz.underlying23 Tryz.sizeOf88 Tryz.isAgg88 rfl (fun _=>rfl) rfl h ((E1.trans E2).trans E3) rfl (by first | omega | (simp <;> omega)) ?_;rintro _ u1 hu1
       refine Wo rfl (Ka (v:=.int _ _) rfl) <| Ji Tryz.underlying88 Tryz.sizeOf3 Tryz.isAgg3 rfl (fun _=>rfl) rfl hu1 ((E1.trans E2).trans E3) rfl (by first | omega | (simp <;> omega)) ?_;rintro _ _ rfl
       refine Wo rfl (Kx rfl rfl) <| Wo rfl (Kz (v:=.bool _) rfl rfl) <| Kd <| Kg rfl (fun h8=>?_) (fun h8=>?_);refine Kc rfl <| Wo rfl (Ka (v:=.int _ _) rfl) ?_
       refine Wo rfl (Ka (v:=.int _ _) rfl) <| Wo rfl (opv_shl rfl rfl (by omega)) ?_
       refine Wo rfl (opv_or rfl rfl ⟨Int.natCast_nonneg _,by omega,Int.natCast_nonneg _,Int.le_trans (Int.ofNat_le.2 (show _≤4096 by assumption)) (by decide)⟩) ?_;refine Wo rfl (Kb (v:=.int _ _) rfl) <| Kd ?_
       refine Kc rfl <| Wo rfl (Ka (v:=.int _ _) rfl) <| Wo rfl (Kw rfl rfl (by omega)) ?_;refine Wo rfl (Kb (v:=.int _ _) rfl) <| Kd ?_;rotate_left;refine Kt ?_
       refine Kc rfl <| Wo rfl (Ka (v:=.int _ _) rfl) <| Wo rfl (Kw rfl rfl (by omega)) ?_;refine Wo rfl (Kb (v:=.int _ _) rfl) <| Kd ?_;rotate_left;refine Ki rfl ?_
       refine Ki rfl <| Ki rfl <| Ki rfl <| Ki rfl <| Ki rfl <| Ki rfl <| Ki rfl <| Wo rfl (Kn (v:=.bool _) rfl rfl) <| Kd ?_
       refine Ky rfl ?_;refine Kt ?_;refine Kc rfl <| Wo rfl (Ka (v:=.int _ _) rfl) <| Wo rfl (Kw rfl rfl (by omega)) ?_;refine Wo rfl (Kb (v:=.int _ _) rfl) ?_
       refine Kd ?_;rotate_left;(exfalso;omega)
      ·have h9:((M >>> k:Nat):Int) % 2=1:=by assumption
       have hb:p[k][j]=1:=by assumption
       have hMk:M.testBit k=true:=by
        cases hc:M.testBit k with
        | true=>rfl
        | false=>rw [hc,if_neg Bool.false_ne_true] at hsm;omega
       have hor : ∀ x,(M ||| 1 <<< j).testBit x=(M.testBit x || decide (j=x)):=fun x=>by rw [Nat.testBit_or,h1b]
       refine ⟨((j+1,M ||| 1 <<< j)),by repeat (first | exact trivial | refine And.intro rfl ?_),by repeat (first | with_reducible exact Same.refl | refine Same.upd rfl ?_ | refine Same.upds rfl ?_ | refine Same.mix rfl ?_),?_,?_⟩
       ·refine ⟨rfl,by omega,Nat.or_lt_two_pow hM (h1p j hjl),fun x hx=>by rw [hor,hC x hx];rfl,fun x hx=>?_,fun k' hk' hs x hx=>by rw [hor,hK k' hk' hs x hx];rfl,fun x hx hs hm=>?_⟩
        ·rw [hor] at hx
         by_cases e:j=x
         ·subst e;exact (hS k hMk).step (hma.2 ⟨hjl,hb⟩)
         ·rw [decide_eq_false e,Bool.or_false] at hx;exact hS x hx
        ·rw [hor]
         by_cases e:j=x
         ·rw [decide_eq_true e];simp
         ·rw [hJ x (by omega) hs hm];rfl
       ·simp only;omega
      ·have hb : ¬p[k][j]=1:=by assumption
       refine ⟨((j+1,M)),by repeat (first | exact trivial | refine And.intro rfl ?_),by repeat (first | with_reducible exact Same.refl | refine Same.upd rfl ?_ | refine Same.upds rfl ?_ | refine Same.mix rfl ?_),?_,?_⟩
       ·refine ⟨rfl,by omega,hM,hC,hS,hK,fun x hx hs hm=>?_⟩
        by_cases e:j=x
        ·subst e;exact absurd (hma.1 hm).2 hb
        ·exact hJ x (by omega) hs hm
       ·simp only;omega
      ·have h9 : ¬((M >>> k:Nat):Int) % 2=1:=by assumption
       have hMk : ¬M.testBit k=true:=fun hc=>by
        rw [hc,if_pos rfl] at hsm;omega
       refine ⟨((j+1,M)),by repeat (first | exact trivial | refine And.intro rfl ?_),by repeat (first | with_reducible exact Same.refl | refine Same.upd rfl ?_ | refine Same.upds rfl ?_ | refine Same.mix rfl ?_),?_,?_⟩
       ·refine ⟨rfl,by omega,hM,hC,hS,hK,fun x hx hs hm=>absurd (hC k hs) hMk⟩
       ·simp only;omega
     ·obtain rfl:j=p.length:=by omega
      focus
       have szE3:=E3.size;have szE2:=E2.size;have szE1:=E1.size;refine Ke <| Ke <| Kc rfl <| Wo rfl (Ka (v:=.int _ _) rfl) <| Wo rfl (Ka (v:=v) rfl) ?_
       refine Wo rfl (Ko Tryz.underlying23 rfl h) <| Wo rfl (Ks rfl rfl) <| Kd <| Kg rfl (fun h6=>?_) (fun h6=>?_);(exfalso;omega);refine Jg ?_;refine exitX_same ?_
       refine Kc rfl <| Wo rfl (Ka (v:=.int _ _) rfl) <| Wo rfl (Kw rfl rfl (by omega)) ?_;refine Wo rfl (Kb (v:=.int _ _) rfl) <| Kd ?_
      refine ⟨((k+1,M)),by repeat (first | exact trivial | refine And.intro rfl ?_),by repeat (first | with_reducible exact Same.refl | refine Same.upd rfl ?_ | refine Same.upds rfl ?_ | refine Same.mix rfl ?_),?_,?_⟩
      ·refine ⟨rfl,by omega,hM,hC,hS,fun k' hk' hs x hx=>?_⟩
       by_cases e:k'=k
       ·subst e;exact hJ x ((mem_arr hp hkl).1 hx).1 hs hx
       ·exact hK k' (by omega) hs x hx
      ·simp only;omega
    ·obtain rfl:k=p.length:=by omega
     focus
      have szE3:=E3.size;have szE2:=E2.size;have szE1:=E1.size;refine Ke <| Ke <| Kc rfl <| Wo rfl (Ka (v:=.int _ _) rfl) <| Wo rfl (Ka (v:=v) rfl) ?_
      refine Wo rfl (Ko Tryz.underlying23 rfl h) <| Wo rfl (Ks rfl rfl) <| Kd <| Kg rfl (fun h5=>?_) (fun h5=>?_);(exfalso;omega);refine Jg ?_;refine exitX_same ?_
      refine Kc rfl <| Wo rfl (Ka (v:=.int _ _) rfl) <| Wo rfl (Kw rfl rfl (by omega)) ?_;refine Wo rfl (Kb (v:=.int _ _) rfl) <| Kd ?_
     refine ⟨((n+1,M)),by repeat (first | exact trivial | refine And.intro rfl ?_),by repeat (first | with_reducible exact Same.refl | refine Same.upd rfl ?_ | refine Same.upds rfl ?_ | refine Same.mix rfl ?_),?_,?_⟩
     ·refine ⟨rfl,by omega,hM,fun x hx=>?_,hS⟩
      rcases hx with hx | ⟨k',h9,h10⟩
      ·exact hC x hx
      ·exact hK k' ((st_rch h9).lt hp hi) h9 x h10
     ·simp only;omega
   ·obtain rfl:n=p.length:=by omega
    have hb : ∀ k,M.testBit k=rch p i k:=fun k=>by
     cases hc:rch p i k with
     | true=>exact hC k (rch_st hp hi (rch_iff.1 hc))
     | false => cases hd : M.testBit k with
       | true => rw [rch_iff.2 (hS k hd)] at hc; cases hc
       | false => rfl
    clear hC hS
    focus
     have szE3:=E3.size;have szE2:=E2.size;have szE1:=E1.size;refine Ke <| Ke <| Kc rfl <| Wo rfl (Ka (v:=.int _ _) rfl) <| Wo rfl (Ka (v:=v) rfl) ?_
     refine Wo rfl (Ko Tryz.underlying23 rfl h) <| Wo rfl (Ks rfl rfl) <| Kd <| Kg rfl (fun h4=>?_) (fun h4=>?_);(exfalso;omega);refine Jg ?_;refine exitX_same ?_;refine Ke ?_
     refine Ke <| Kc rfl <| Wo rfl (Kb (v:=.int _ _) rfl) <| Kd <| Kr ?_
    refine Jh [5,10,63,64,65,66,67,68,69,70,71,72,73,74,75,76,77] (fun (k,u)=>[(10,.int .i64 (k:Nat)),(5,u)]) (fun (k,u) w'=>Ext w w'∧k≤p.length∧Owned w.heap.size XI w' u (ints ((List.range k).filter (rch p i)))) (fun x=>p.length - x.1) (0,.slice (some ⟨b1,0,none⟩) 0 0) (by repeat (first | exact trivial | refine And.intro rfl ?_)) ?_ ?_
    ·exact ⟨(E1.trans E2).trans E3,Nat.zero_le _,by simpa [ints] using hO1.ext (E2.trans E3)⟩
    rintro ⟨k,u⟩ ρk w5 ⟨E5,hk,hO5⟩
    have hll:(ints ((List.range k).filter (rch p i))).length≤k:=by
     rw [ints_len];exact Nat.le_trans (List.length_filter_le _ _) (by simp)
    have hfs:=filter_range_succ (rch p i) k
    have hsm:=shr_mod M k
    by_cases hlt:k < p.length
    ·rw [hb k] at hsm
     focus
      have szE5:=E5.size;have szE3:=E3.size;have szE2:=E2.size;have szE1:=E1.size;refine Ke <| Ke <| Kc rfl <| Wo rfl (Ka (v:=.int _ _) rfl) ?_
      refine Wo rfl (Ka (v:=v) rfl) <| Wo rfl (Ko Tryz.underlying23 rfl h) <| Wo rfl (Ks rfl rfl) <| Kd <| Kg rfl (fun h5=>?_) (fun h5=>?_);refine Kt ?_
      refine Ke <| Kr <| Ke <| Kc rfl <| Wo rfl (Ka (v:=.int _ _) rfl) <| Wo rfl (Ka (v:=.int _ _) rfl) <| Wo rfl (opv_shr rfl rfl (by omega)) ?_
      refine Wo rfl (opv_rem rfl rfl ⟨Int.natCast_nonneg _,by omega⟩) ?_;refine Wo rfl (Kx rfl rfl) <| Kd <| Kg rfl (fun h6=>?_) (fun h6=>?_);refine Kc rfl ?_
      refine Wo rfl (Ka (v:=u) rfl) <| Wo rfl (Ka (v:=.int _ _) rfl) <| Ju (ps:=[(0,.int _ _)]) (cs:=[_]) rfl Tryz.underlying88 Tryz.sizeOf3 Tryz.zeroValue3 rfl rfl rfl rfl ?_
      rintro b2 w3 hb2 E4 hB1;have hlb2:=hB1.lt;have hs4:=E4.size
      refine Jv rfl el88 rfl rfl hB1 (hO5.toB.ext E4) Owned.int (Nat.le_refl _) (by first | omega | (simp <;> omega)) (by omega) (by omega) (E5.trans E4) (by omega) ?_;have hT1:=(hO5.toB.ext E4);rintro v1 w6 hO5 E6 M1
      have hB1:=hB1.moves M1 hT1 (by omega);have hs5:=E6.size;refine Wo rfl (Kb (v:=v1) rfl) <| Kd <| Kc rfl <| Wo rfl (Ka (v:=.int _ _) rfl) ?_
      refine Wo rfl (Kw rfl rfl (by omega)) ?_;refine Wo rfl (Kb (v:=.int _ _) rfl) <| Kd ?_;rotate_left;refine Kt ?_;refine Kc rfl <| Wo rfl (Ka (v:=.int _ _) rfl) ?_
      refine Wo rfl (Kw rfl rfl (by omega)) ?_;refine Wo rfl (Kb (v:=.int _ _) rfl) <| Kd ?_;rotate_left;(exfalso;omega)
     ·have h1:((M >>> k:Nat):Int) % 2=1:=by assumption
      have hf:rch p i k=true:=by
       cases hc:rch p i k with
       | true=>rfl
       | false=>rw [hc,if_neg Bool.false_ne_true] at hsm;omega
      refine ⟨((k+1,v1)),by repeat (first | exact trivial | refine And.intro rfl ?_),by repeat (first | with_reducible exact Same.refl | refine Same.upd rfl ?_ | refine Same.upds rfl ?_ | refine Same.mix rfl ?_),?_,?_⟩
      ·refine ⟨by assumption,by omega,?_⟩
       rw [hfs,if_pos hf,ints_append]
       assumption
      ·simp only;omega
     ·have h1 : ¬((M >>> k:Nat):Int) % 2=1:=by assumption
      have hf:rch p i k=false:=by
       cases hc:rch p i k with
       | false=>rfl
       | true=>rw [hc,if_pos rfl] at hsm;omega
      refine ⟨((k+1,u)),by repeat (first | exact trivial | refine And.intro rfl ?_),by repeat (first | with_reducible exact Same.refl | refine Same.upd rfl ?_ | refine Same.upds rfl ?_ | refine Same.mix rfl ?_),?_,?_⟩
      ·refine ⟨by assumption,by omega,?_⟩
       rw [hfs,if_neg (by rw [hf];exact Bool.false_ne_true),List.append_nil]
       assumption
      ·simp only;omega
    ·obtain rfl:k=p.length:=by omega
     focus
      have szE5:=E5.size;have szE3:=E3.size;have szE2:=E2.size;have szE1:=E1.size;refine Ke <| Ke <| Kc rfl <| Wo rfl (Ka (v:=.int _ _) rfl) ?_
      refine Wo rfl (Ka (v:=v) rfl) <| Wo rfl (Ko Tryz.underlying23 rfl h) <| Wo rfl (Ks rfl rfl) <| Kd <| Kg rfl (fun h5=>?_) (fun h5=>?_);contradiction;refine Jg ?_
      refine exitX_same ?_;refine Ke <| Kc rfl <| Wo rfl (Ka (v:=u) rfl) <| Wo rfl (Kb (v:=u) rfl) <| Kd <| Ja ?_;exact ⟨E5,hO5.toB.o.mono (by omega)⟩
  ·have hV:rfV p z=[]:=if_neg (fun h=>hz h.2)
   rw [hV]
   refine Jc Tryz.func161 rfl Tryz.results161 Tryz.ntmps161 rfl ?_
   focus
    refine Ke <| Kc rfl <| Wo rfl (Kb (v:=.slice _ _ _) rfl) <| Kd <| Ke <| Kc rfl <| Js XInt rfl el88 Tryz.sizeOf3 ?_;rintro b1 w1 hb1 b1lt E1 hO1
    have hs1:=E1.size;refine Wo rfl (Kb (v:=.slice _ _ _) rfl) <| Kd <| Ke <| Ke <| Kc rfl <| Wo rfl (Ka (v:=v) rfl) ?_
    refine Kj rfl (Jk (a:=v) Tryz.call115 rfl) (hpic _ _ ((Mono.mono E1 h))) ?_;rintro _ w2 ⟨rfl,E2⟩;have hs2:=E2.size;refine Wo rfl (Jf rfl) ?_
    refine Jy rfl (Ka (v:=.bool _) rfl) (fun h1=>?_) (fun h1=>?_);contradiction;refine Wo rfl (Ka (v:=.int _ _) rfl) <| Wo rfl (Ka (v:=v) rfl) ?_
    refine Wo rfl (Ko Tryz.underlying23 rfl h) <| Wo rfl (opv_sub rfl rfl (by omega)) ?_;refine Kj rfl (opc3 (a:=.int _ _) (b:=.int _ _) (c:=.int _ _) Tryz.call116 rfl rfl rfl) (l1In_ok _ _ _ _) ?_
    rintro _ w3 ⟨rfl,E3⟩;have hs3:=E3.size;refine Wo rfl (Jf rfl) <| Wo rfl (Kn (v:=.bool _) rfl rfl) <| Kd <| Jj rfl (fun h2=>?_) (fun h2=>?_);refine Ke ?_
    refine Kc rfl <| Wo rfl (Ka (v:=.slice _ _ _) rfl) <| Wo rfl (Kb (v:=.slice _ _ _) rfl) <| Kd <| Ja ?_
    exact ⟨((E1.trans E2).trans E3),(hO1.toB.ext (E2.trans E3)).o.mono (by omega)⟩;(exfalso;omega)
 ·have hpic : ∀ (w:World) (pv:Value),ESl Ints w pv p→Does Tryz.prog 115 [pv] w (Ret w (.bool false)):=fun w pv h=>by
   have:=PictureOk_ok w pv p h
   rw [decide_eq_false hp] at this;exact this
  have hV:rfV p z=[]:=if_neg (fun h=>hp h.1)
  rw [hV]
  refine Jc Tryz.func161 rfl Tryz.results161 Tryz.ntmps161 rfl ?_
  focus
   refine Ke <| Kc rfl <| Wo rfl (Kb (v:=.slice _ _ _) rfl) <| Kd <| Ke <| Kc rfl <| Js XInt rfl el88 Tryz.sizeOf3 ?_;rintro b1 w1 hb1 b1lt E1 hO1
   have hs1:=E1.size;refine Wo rfl (Kb (v:=.slice _ _ _) rfl) <| Kd <| Ke <| Ke <| Kc rfl <| Wo rfl (Ka (v:=v) rfl) ?_
   refine Kj rfl (Jk (a:=v) Tryz.call115 rfl) (hpic _ _ ((Mono.mono E1 h))) ?_;rintro _ w2 ⟨rfl,E2⟩;have hs2:=E2.size;refine Wo rfl (Jf rfl) ?_
   refine Jy rfl (Ka (v:=.bool _) rfl) (fun h1=>?_) (fun h1=>?_);refine Ki rfl <| Ki rfl <| Ki rfl <| Ki rfl <| Ki rfl <| Ki rfl ?_
   refine Wo rfl (Kz (v:=.bool _) rfl rfl) <| Kd <| Ga rfl ?_;refine Ke <| Kc rfl <| Wo rfl (Ka (v:=.slice _ _ _) rfl) ?_
   refine Wo rfl (Kb (v:=.slice _ _ _) rfl) <| Kd <| Ja ?_;exact ⟨(E1.trans E2),(hO1.toB.ext E2).o.mono (by omega)⟩;contradiction
end Go.Proofs.YtbgpppaljpngmaaGreatDoor
