/- Lemmas for FnDeskLine. -/
import Derived.Tactics
import Derived.OwnWalk
import Derived.Deep.Quiet
import Derived.Below
import Derived.WalkKit
import Derived.WalkLawsBesides
import Derived.WalkSpells
import Derived.ProofKit
import Derived.OpenShut
import Derived.ShutString
import Derived.Deep.Slices
import Derived.OrdersHeld
import Derived.HandedShaped
import Derived.LaidMore
import Derived.Lay
import Derived.Stop.Joined
import Derived.Laws.AppendOwn
import Derived.Laws.OwnMore
import Derived.Laws.MakeOwn
namespace Go.Hs
open Go.RowKit (Below)
abbrev Env:=Nat→Value
def upd (ρ : Env) (d:Nat) (v:Value):Env:=fun i=>bif Nat.beq i d then v else ρ i
def evalE (ρ : Env):Operand→Value
 | .tmp t=>ρ t
 | .const v=>v
 | .global g=>.pointer (some ⟨g,0,none⟩)
 | .func f=>.func (.func f) #[] #[]
structure Rep (n:Nat) (ρ : Env) (a:Act):Prop where
 defers:a.defers=[]
 size:a.tmps.size=n
 get : ∀ i,a.tmps.getD i undef = ρ i
theorem Rep.eval {n:Nat} {ρ : Env} {a:Act} (h:Rep n ρ a):a.eval=evalE ρ:=by
 funext x;cases x <;> simp [Act.eval,evalE,h.get]
theorem Rep.put {n:Nat} {ρ : Env} {a:Act} (h:Rep n ρ a) {d:Nat} (hd:Nat.blt d n=true) (v:Value):Rep n (upd ρ d v) (a.put (some d) v):=by
 have hd':d < n:=by simpa using hd
 refine ⟨h.defers,by simp [Act.put,h.size],fun i=>?_⟩
 show (a.tmps.setIfInBounds d v).getD i undef=_
 unfold upd
 by_cases hi:i=d
 ·subst hi
  simp [Array.getD_eq_getD_getElem?,h.size,hd']
 ·have:Nat.beq i d=false:=by
   cases hb:Nat.beq i d
   ·rfl
   ·exact absurd (Nat.eq_of_beq_eq_true hb) hi
  rw [this]
  simp only [cond_false]
  rw [← h.get i]
  simp [Array.getD_eq_getD_getElem?,Array.getElem?_setIfInBounds_ne (Ne.symm hi)]
theorem Rep.put_none {n:Nat} {ρ : Env} {a:Act} (h:Rep n ρ a) (v:Value):Rep n ρ (a.put none v):=h
def yieldedE (ops:Array Oper) (ρ : Env) (j:Nat):Option Bool :=
 match (ops[j]?).bind (·.dst) with
 | some d => match ρ d with
   | .bool b => some b
   | _ => none
 | none=>none
def wantedE (ops:Array Oper) (o:Oper) (ρ : Env):Bool :=
 match o.guard with
 | none=>true
 | some (j, want) => match yieldedE ops ρ j with
   | some b => bif b then want else !want
   | none => false
def dstsLt (n:Nat):List Oper→Bool
 | []=>true
 | o::l=>(match o.dst with | some d=>Nat.blt d n | none=>true) && dstsLt n l
theorem Sy {n:Nat} {l:List Oper} (h:dstsLt n l=true) (o:Oper) (ho:o ∈ l) (d:Nat) (hd:o.dst=some d):Nat.blt d n=true:=by
 induction l with
 | nil=>cases ho
 | cons x l ih =>
   simp only [dstsLt, Bool.and_eq_true] at h
   rcases List.mem_cons.1 ho with he | ho
   · have h1 := h.1
     rw [← he, hd] at h1
     exact h1
   · exact ih h.2 ho
theorem Td {n:Nat} {ops:Array Oper} {ρ : Env} {a:Act} (h:Rep n ρ a) (hl:dstsLt n ops.toList=true) (o:Oper) :
  Region.wanted o (yielded ops a.tmps)=wantedE ops o ρ:=by
 unfold Region.wanted wantedE
 cases o.guard with
 | none=>rfl
 | some p =>
   obtain ⟨j, want⟩ := p
   have key : yielded ops a.tmps j = yieldedE ops ρ j := by
     unfold yielded yieldedE
     cases hj : ops[j]? with
     | none => simp
     | some oj =>
       cases hd : oj.dst with
       | none => simp [hd]
       | some d =>
         have hm : oj ∈ ops.toList := by
           have := Array.mem_of_getElem? hj
           exact Array.mem_toList_iff.2 this
         have hlt : d < n := by simpa using Sy hl oj hm d hd
         have hs := h.size
         have : a.tmps[d]? = some (ρ d) := by
           rw [← h.get d, Array.getD_eq_getD_getElem?, Array.getElem?_eq_getElem (show d < a.tmps.size by rw [h.size]; exact hlt)]
           rfl
         simp only [hd, Option.bind_some, this]
         cases ρ d <;> rfl
   simp only [key]
   cases yieldedE ops ρ j with
   | none => rfl
   | some b => cases b <;> cases want <;> rfl
def post (n:Nat) (N:Env→World→Prop) (X:Nat→Env→World→Prop) (R:Env→World→Prop):Exit→Act→World→Prop
 | .normal,a,w=>∃ ρ,Rep n ρ a∧N ρ w
 | .exit i,a,w=>∃ ρ,Rep n ρ a∧X i ρ w
 | .ret,a,w=>∃ ρ,Rep n ρ a∧R ρ w
 | _,_,_=>False
def W (P:Program) (n:Nat) (c:Code) (N:Env→World→Prop) (X:Nat→Env→World→Prop) (R:Env→World→Prop) (ρ : Env) (w:World):Prop :=
 ∀ a,Rep n ρ a→c.wp P (post n N X R) a w
section
variable {P:Program} {n:Nat} {N:Env→World→Prop} {X:Nat→Env→World→Prop} {R:Env→World→Prop} {ρ : Env} {w:World}
theorem Vw (h:N ρ w):W P n .skip N X R ρ w:=fun _ ha=>wp_skip ⟨ρ,ha,h⟩
theorem Vy (h:R ρ w):W P n .ret N X R ρ w:=fun _ ha=>wp_ret ⟨ρ,ha,h⟩
theorem Xm {i:Nat} (h:X i ρ w):W P n (.exit i) N X R ρ w:=fun _ ha=>wp_exit ⟨ρ,ha,h⟩
theorem Vt {x y:Code} (h:W P n x (fun ρ w=>W P n y N X R ρ w) X R ρ w):W P n (.seq x y) N X R ρ w :=
 fun a ha=>wp_seq (Go.wp_mono (h a ha) fun e a w q=>by
  cases e with
  | normal=>obtain ⟨ρ,h1,h2⟩:=q;exact h2 a h1
  | exit i=>exact q
  | ret=>exact q
  | goto l=>exact q
  | panic ch=>exact q
  | outgrown=>exact q)
def exitX (id:Nat) (N:Env→World→Prop) (X:Nat→Env→World→Prop):Nat→Env→World→Prop :=
 fun i=>bif Nat.beq i id then N else X i
theorem Yn {id:Nat} (h:N ρ w):exitX id N X id ρ w:=by
 unfold exitX;rw [Nat.beq_refl];exact h
theorem exitX_other {id i:Nat} (hi:Nat.beq i id=false) (h:X i ρ w):exitX id N X i ρ w:=by
 unfold exitX;rw [hi];exact h
theorem Yb {id:Nat} {c:Code} (h:W P n c N (exitX id N X) R ρ w):W P n (.block id c) N X R ρ w :=
 fun a ha=>wp_block (Go.wp_mono (h a ha) fun e a w q=>by
  cases e with
  | normal=>exact q
  | exit i =>
    obtain ⟨ρ, h1, h2⟩ := q
    unfold exitX at h2
    show (if i = id then _ else _)
    by_cases hi : i = id
    · subst hi; rw [Nat.beq_refl] at h2; rw [if_pos rfl]; exact ⟨ρ, h1, h2⟩
    · rw [if_neg hi]
      have : Nat.beq i id = false := by
        cases hb : Nat.beq i id
        · rfl
        · exact absurd (Nat.eq_of_beq_eq_true hb) hi
      rw [this] at h2
      exact ⟨ρ, h1, h2⟩
  | ret=>exact q
  | goto l=>exact q
  | panic ch=>exact q
  | outgrown=>exact q)
theorem Up {c:Operand} {x y:Code} {b:Bool} (hc:evalE ρ c=.bool b) (ht:b=true→W P n x N X R ρ w) (hf:b=false→W P n y N X R ρ w) :
  W P n (.cond c x y) N X R ρ w:=fun a ha =>
 wp_cond_split (by rw [ha.eval];exact hc) (fun h=>ht h a ha) (fun h=>hf h a ha)
theorem Vu {c:Operand} {x y:Code} {p:Prop} [Decidable p] (hc:evalE ρ c=.bool (decide p)) (ht:p→W P n x N X R ρ w) (hf : ¬p→W P n y N X R ρ w) :
  W P n (.cond c x y) N X R ρ w:=Up hc (fun h=>ht (of_decide_eq_true h)) (fun h=>hf (of_decide_eq_false h))
theorem Xn {c:Operand} {x y:Code} {p:Prop} [Decidable p] (hc:evalE ρ c=.bool (!decide p)) (ht : ¬p→W P n x N X R ρ w) (hf:p→W P n y N X R ρ w) :
  W P n (.cond c x y) N X R ρ w:=Up hc (fun h=>ht (by simpa using h)) (fun h=>hf (by simpa using h))
theorem Xe {c:Operand} {x y:Code} (hc:evalE ρ c=.bool true) (ht:W P n x N X R ρ w):W P n (.cond c x y) N X R ρ w :=
 Up hc (fun _=>ht) (fun h=>by cases h)
theorem Vx {c:Operand} {x y:Code} (hc:evalE ρ c=.bool false) (hf:W P n y N X R ρ w):W P n (.cond c x y) N X R ρ w :=
 Up hc (fun h=>by cases h) (fun _=>hf)
def Slots (ρ : Env):List (Nat × Value)→Prop
 | []=>True
 | p::l=>ρ p.1=p.2∧Slots ρ l
def upds (ρ : Env):List (Nat × Value)→Env
 | []=>ρ
 | p::l=>upd (upds ρ l) p.1 p.2
theorem upd_self {d:Nat} {v:Value} (h : ρ d=v):upd ρ d v = ρ:=by
 funext i
 unfold upd
 cases hb:Nat.beq i d
 ·rfl
 ·rw [Nat.eq_of_beq_eq_true hb];exact h.symm
theorem upds_self : ∀ {l:List (Nat × Value)},Slots ρ l→upds ρ l = ρ
 | [],_=>rfl
 | p::l,h=>by unfold upds;rw [upds_self h.2];exact upd_self h.1
def elemN (D:List Nat) (i:Nat):Bool:=match D with
 | []=>false
 | d::D=>bif Nat.beq i d then true else elemN D i
def mix (D:List Nat) (ρj ρ : Env):Env:=fun i=>bif elemN D i then ρj i else ρ i
def Same (D:List Nat) (ρ0 ρ : Env):Prop:=∀ i,elemN D i=false→ρ i = ρ0 i
theorem Same.refl {D:List Nat} {ρ : Env} : Same D ρ ρ:=fun _ _=>rfl
theorem Same.upd {D:List Nat} {ρ0 ρ : Env} {d:Nat} {v:Value} (hd:elemN D d=true) (h:Same D ρ0 ρ):Same D ρ0 (upd ρ d v):=fun i hi=>by
 unfold Hs.upd
 cases hb:Nat.beq i d
 ·exact h i hi
 ·rw [Nat.eq_of_beq_eq_true hb,hd] at hi;cases hi
def keysIn (D:List Nat):List (Nat × Value)→Bool
 | []=>true
 | p::l=>elemN D p.1 && keysIn D l
theorem Same.upds {D:List Nat} {ρ0 ρ : Env} : ∀ {l:List (Nat × Value)},keysIn D l=true→Same D ρ0 ρ→Same D ρ0 (upds ρ l)
 | [],_,h=>h
 | p :: l, hk, h => by
   simp only [keysIn, Bool.and_eq_true] at hk
   exact Same.upd hk.1 (Same.upds hk.2 h)
def allIn (D:List Nat):List Nat→Bool
 | []=>true
 | d::l=>elemN D d && allIn D l
theorem allIn_elem {D:List Nat} : ∀ {l:List Nat},allIn D l=true→∀ i,elemN l i=true→elemN D i=true
 | d :: l, h, i, hi => by
   simp only [allIn, Bool.and_eq_true] at h
   unfold elemN at hi
   cases hb : Nat.beq i d
   · rw [hb] at hi; exact allIn_elem h.2 i hi
   · rw [Nat.eq_of_beq_eq_true hb]; exact h.1
theorem Same.mix {D D':List Nat} {ρ0 ρj ρ : Env} (hD:allIn D D'=true) (h:Same D ρ0 ρ):Same D ρ0 (mix D' ρj ρ):=fun i hi=>by
 unfold Hs.mix
 cases hb:elemN D' i
 ·exact h i hi
 ·rw [allIn_elem hD i hb] at hi;cases hi
theorem mix_same {D:List Nat} {ρ0 ρ : Env} (h:Same D ρ0 ρ):mix D ρ ρ0 = ρ:=by
 funext i
 unfold mix
 cases hb:elemN D i
 ·exact (h i hb).symm
 ·rfl
theorem Xt {α : Type} {c:Code} (D:List Nat) (S : α→List (Nat × Value)) (I : α→World→Prop) (μ : α→Nat) (x0 : α) (h0:Slots ρ (S x0)) (hI:I x0 w)
  (round : ∀ (x : α) (ρj:Env) (w:World),I x w→W P n c (fun ρ' w'=>∃ x',Slots ρ' (S x')∧Same D ρ ρ'∧I x' w'∧μ x' < μ x) X R (upds (mix D ρj ρ) (S x)) w) :
  W P n (.loop c) N X R ρ w:=by
 intro a ha
 have key : ∀ (m:Nat) (x : α) (ρ1:Env) (a:Act) (w:World),μ x=m→Slots ρ1 (S x)→Same D ρ ρ1→I x w→Rep n ρ1 a →
   (∀ b k cs,∃ e a' w',post n N X R e a' w'∧Arrives P (lone (b.at a (.code c :: .inLoop c::k)) cs w) b k cs e a' w'):=by
  intro m
  induction m using Nat.strongRecOn with
  | _ m ih =>
    intro x ρ1 a w hm hS hD hI hR b k cs
    have hr := round x ρ1 w hI
    rw [mix_same hD, upds_self hS] at hr
    obtain ⟨e, a₁, w₁, hq, harr⟩ := hr a hR b (.inLoop c :: k) cs
    cases e with
    | normal =>
      obtain ⟨ρ', hR', x', hS', hD', hI', hlt⟩ := hq
      obtain ⟨e₂, a₂, w₂, hq₂, harr₂⟩ := ih (μ x') (hm ▸ hlt) x' ρ' a₁ w₁ rfl hS' hD' hI' hR' b k cs
      exact ⟨e₂, a₂, w₂, hq₂, .of_steps (Steps.trans harr (.one step_inLoop)) harr₂⟩
    | exit id =>
      obtain ⟨r, r1, r2⟩ := hq
      exact ⟨.exit id, a₁, w₁, ⟨r, r1, r2⟩, .pass (x := .inLoop c) rfl (fun _ _ => .inl (by simp)) harr⟩
    | ret =>
      obtain ⟨r, r1, r2⟩ := hq
      exact ⟨.ret, a₁, w₁, ⟨r, r1, r2⟩, .pass (x := .inLoop c) rfl (fun _ _ => .inl (by simp)) harr⟩
    | goto l => exact hq.elim
    | panic ch => exact hq.elim
    | outgrown => exact hq.elim
 intro b k cs
 obtain ⟨e,a',w',hq,harr⟩:=key _ x0 ρ a w rfl h0 Same.refl hI ha b k cs
 exact ⟨e,a',w',hq,.of_steps (.one step_loop) harr⟩
def Wops (P:Program) (n:Nat) (all:Array Oper) (l:List Oper) (N:Env→World→Prop) (ρ : Env) (w:World):Prop :=
 dstsLt n all.toList=true→(∀ o ∈ l,o ∈ all.toList)→∀ a,Rep n ρ a→∀ Q:Exit→Act→World→Prop,(∀ a' ρ' w',Rep n ρ' a'→N ρ' w'→Q .normal a' w')→wpList P all Q l a w
theorem W_region {id:Nat} {ops:List Oper} (hd:dstsLt n ops=true) (h:Wops P n ops.toArray ops N ρ w):W P n (.region id ops.toArray false) N X R ρ w :=
 fun a ha=>wp_region_lit (h (by simpa using hd) (by simp) a ha _ fun a' ρ' w' h1 h2=>⟨ρ',h1,h2⟩)
variable {all:Array Oper} {rest:List Oper}
theorem Vp (h:N ρ w):Wops P n all [] N ρ w:=fun _ _ _ ha _ hQ=>wpList_nil (hQ _ _ _ ha h)
def OpV (P:Program) (op:Op) (ty:TypeId) (ρ : Env) (w:World) (v:Value):Prop :=
 (execOp (evalE ρ) ⟨none, op, ty, "", #[], none⟩).run P w = .ok (.value v) w
variable {d:Nat} {op:Op} {ty:TypeId} {pos:String} {after:Array Edge} {g:Option (Nat × Bool)}
theorem Wo {v:Value} (hw:wantedE all ⟨some d,op,ty,pos,after,g⟩ ρ = true) (hv:OpV P op ty ρ w v) (hk:Wops P n all rest N (upd ρ d v) w) :
  Wops P n all (⟨some d,op,ty,pos,after,g⟩::rest) N ρ w:=by
 intro hd hm a ha Q hQ
 refine wpList_step fun K hK=>?_
 rw [Td ha hd,if_pos hw]
 unfold Oper.wp
 rw [ha.eval]
 have : (execOp (evalE ρ) ⟨some d, op, ty, pos, after, g⟩) = (execOp (evalE ρ) ⟨none, op, ty, "", #[], none⟩) := by cases op <;> rfl
 rw [this,hv]
 exact hK _ _ (hk hd (fun o ho=>hm o (List.mem_cons_of_mem _ ho)) _ (ha.put (Sy hd _ (hm _ (List.mem_cons_self ..)) d rfl) v) Q hQ)
theorem Vq (hw:wantedE all ⟨some d,op,ty,pos,after,g⟩ ρ = false) (hk:Wops P n all rest N (upd ρ d undef) w) :
  Wops P n all (⟨some d,op,ty,pos,after,g⟩::rest) N ρ w:=by
 intro hd hm a ha Q hQ
 refine wpList_step fun K hK=>?_
 rw [Td ha hd,if_neg (by rw [hw];simp)]
 exact hK _ _ (hk hd (fun o ho=>hm o (List.mem_cons_of_mem _ ho)) _ (ha.put (Sy hd _ (hm _ (List.mem_cons_self ..)) d rfl) undef) Q hQ)
theorem Uf {b:Bool} (hw:wantedE all ⟨some d,op,ty,pos,after,g⟩ ρ = true) (hv:OpV P op ty ρ w (.bool b))
  (ht:b=true→Wops P n all rest N (upd ρ d (.bool true)) w) (hf:b=false→Wops P n all rest N (upd ρ d (.bool false)) w) :
  Wops P n all (⟨some d,op,ty,pos,after,g⟩::rest) N ρ w:=by
 refine Wo hw hv ?_
 cases b
 ·exact hf rfl
 ·exact ht rfl
theorem Wo_split_dec {p:Prop} [Decidable p] (hw:wantedE all ⟨some d,op,ty,pos,after,g⟩ ρ = true) (hv:OpV P op ty ρ w (.bool (decide p)))
  (ht:p→Wops P n all rest N (upd ρ d (.bool true)) w) (hf : ¬p→Wops P n all rest N (upd ρ d (.bool false)) w) :
  Wops P n all (⟨some d,op,ty,pos,after,g⟩::rest) N ρ w :=
 Uf hw hv (fun h=>ht (of_decide_eq_true h)) (fun h=>hf (of_decide_eq_false h))
theorem Wo_split_ndec {p:Prop} [Decidable p] (hw:wantedE all ⟨some d,op,ty,pos,after,g⟩ ρ = true) (hv:OpV P op ty ρ w (.bool (!decide p)))
  (ht : ¬p→Wops P n all rest N (upd ρ d (.bool true)) w) (hf:p→Wops P n all rest N (upd ρ d (.bool false)) w) :
  Wops P n all (⟨some d,op,ty,pos,after,g⟩::rest) N ρ w :=
 Uf hw hv (fun h=>ht (by simpa using h)) (fun h=>hf (by simpa using h))
def OpW (P:Program) (op:Op) (ty:TypeId) (ρ : Env) (w:World) (v:Value) (w':World):Prop :=
 (execOp (evalE ρ) ⟨none, op, ty, "", #[], none⟩).run P w = .ok (.value v) w'
def OpS (P:Program) (op:Op) (ty:TypeId) (ρ : Env) (w w':World):Prop :=
 (execOp (evalE ρ) ⟨none, op, ty, "", #[], none⟩).run P w = .ok .skip w'
theorem Wo_w {v:Value} {w':World} (hw:wantedE all ⟨some d,op,ty,pos,after,g⟩ ρ = true) (hv:OpW P op ty ρ w v w') (hk:Wops P n all rest N (upd ρ d v) w') :
  Wops P n all (⟨some d,op,ty,pos,after,g⟩::rest) N ρ w:=by
 intro hd hm a ha Q hQ
 refine wpList_step fun K hK=>?_
 rw [Td ha hd,if_pos hw]
 unfold Oper.wp
 rw [ha.eval]
 have : (execOp (evalE ρ) ⟨some d, op, ty, pos, after, g⟩) = (execOp (evalE ρ) ⟨none, op, ty, "", #[], none⟩) := by cases op <;> rfl
 rw [this,hv]
 exact hK _ _ (hk hd (fun o ho=>hm o (List.mem_cons_of_mem _ ho)) _ (ha.put (Sy hd _ (hm _ (List.mem_cons_self ..)) d rfl) v) Q hQ)
theorem Lc {w':World} (hw:wantedE all ⟨none,op,ty,pos,after,g⟩ ρ = true) (hv:OpS P op ty ρ w w') (hk:Wops P n all rest N ρ w') :
  Wops P n all (⟨none,op,ty,pos,after,g⟩::rest) N ρ w:=by
 intro hd hm a ha Q hQ
 refine wpList_step fun K hK=>?_
 rw [Td ha hd,if_pos hw]
 unfold Oper.wp
 rw [ha.eval]
 have : (execOp (evalE ρ) ⟨none, op, ty, pos, after, g⟩) = (execOp (evalE ρ) ⟨none, op, ty, "", #[], none⟩) := by cases op <;> rfl
 rw [this,hv]
 exact hK _ _ (hk hd (fun o ho=>hm o (List.mem_cons_of_mem _ ho)) _ ha Q hQ)
def Does (P:Program) (f:FuncId) (args:List Value) (w:World) (S:Value→World→Prop):Prop :=
 Calls P f args.toArray w fun e w'=>∃ v,e=.returned v∧S v w'
theorem Does.mono {f:FuncId} {args:List Value} {S S':Value→World→Prop} (h:Does P f args w S) (hs : ∀ v w',S v w'→S' v w'):Does P f args w S' :=
 Calls.mono h fun _ _ ⟨v,he,hv⟩=>⟨v,he,hs _ _ hv⟩
def OpC (P:Program) (op:Op) (ty:TypeId) (ρ : Env) (w:World) (f:FuncId) (args:List Value):Prop :=
 (execOp (evalE ρ) ⟨none, op, ty, "", #[], none⟩).run P w = .ok (.enter f args.toArray) w
theorem Vs {f:FuncId} {args:List Value} {S:Value→World→Prop} (hw:wantedE all ⟨some d,op,ty,pos,after,g⟩ ρ = true) (hv:OpC P op ty ρ w f args)
  (hf:Does P f args w S) (hk : ∀ v w',S v w'→Wops P n all rest N (upd ρ d v) w') :
  Wops P n all (⟨some d,op,ty,pos,after,g⟩::rest) N ρ w:=by
 intro hd hm a ha Q hQ
 refine wpList_step fun K hK=>?_
 rw [Td ha hd,if_pos hw]
 unfold Oper.wp
 rw [ha.eval]
 have : (execOp (evalE ρ) ⟨some d, op, ty, pos, after, g⟩) = (execOp (evalE ρ) ⟨none, op, ty, "", #[], none⟩) := by cases op <;> rfl
 rw [this,hv]
 refine Calls.mono hf ?_
 rintro e w' ⟨v,rfl,hs⟩
 exact hK _ _ (hk v w' hs hd (fun o ho=>hm o (List.mem_cons_of_mem _ ho)) _ (ha.put (Sy hd _ (hm _ (List.mem_cons_self ..)) d rfl) v) Q hQ)
theorem opc_func {f:FuncId} {args:Array Operand} {ts:Array TypeId} {vs:List Value} (hc : ∀ args w,Sem.run P (callFunc f args) w=.ok (.enter f args) w) (ha:args.toList.map (evalE ρ)=vs) :
  OpC P (.call { callee:=.value (.func f),args:=args,argTypes:=ts }) ty ρ w f vs:=by
 subst ha
 unfold OpC execOp
 simp only [resolve,evalE,Deferred.ofValue]
 show Sem.run P (callFunc f (#[]++args.map (evalE ρ)++#[])) w=_
 rw [hc]
 congr 2
 apply Array.ext'
 simp
theorem opc0 {fid:FuncId} {ts:Array TypeId} (hc : ∀ args w,Sem.run P (callFunc fid args) w=.ok (.enter fid args) w)  :
  OpC P (.call { callee:=.value (.func fid),args:=#[],argTypes:=ts }) ty ρ w fid []:=opc_func hc (by simp)
theorem Xh {fid:FuncId} {ts:Array TypeId} {x0:Operand} {a:Value} (hc : ∀ args w,Sem.run P (callFunc fid args) w=.ok (.enter fid args) w) (h0:evalE ρ x0=a) :
  OpC P (.call { callee:=.value (.func fid),args:=#[x0],argTypes:=ts }) ty ρ w fid [a]:=opc_func hc (by simp [h0])
theorem Xa {fid:FuncId} {ts:Array TypeId} {x0 x1:Operand} {a b:Value} (hc : ∀ args w,Sem.run P (callFunc fid args) w=.ok (.enter fid args) w) (h0:evalE ρ x0=a) (h1:evalE ρ x1=b) :
  OpC P (.call { callee:=.value (.func fid),args:=#[x0,x1],argTypes:=ts }) ty ρ w fid [a,b]:=opc_func hc (by simp [h0,h1])
theorem Qq {fid:FuncId} {ts:Array TypeId} {x0 x1 x2:Operand} {a b c:Value} (hc : ∀ args w,Sem.run P (callFunc fid args) w=.ok (.enter fid args) w) (h0:evalE ρ x0=a) (h1:evalE ρ x1=b) (h2:evalE ρ x2=c) :
  OpC P (.call { callee:=.value (.func fid),args:=#[x0,x1,x2],argTypes:=ts }) ty ρ w fid [a,b,c]:=opc_func hc (by simp [h0,h1,h2])
theorem Ss {fid:FuncId} {ts:Array TypeId} {x0 x1 x2 x3:Operand} {a b c d:Value} (hc : ∀ args w,Sem.run P (callFunc fid args) w=.ok (.enter fid args) w) (h0:evalE ρ x0=a) (h1:evalE ρ x1=b) (h2:evalE ρ x2=c) (h3:evalE ρ x3=d) :
  OpC P (.call { callee:=.value (.func fid),args:=#[x0,x1,x2,x3],argTypes:=ts }) ty ρ w fid [a,b,c,d]:=opc_func hc (by simp [h0,h1,h2,h3])
def envOf (args:List Value):Env:=fun i=>args.getD i undef
theorem Rep.start (args:List Value) (n:Nat) (h:Nat.ble args.length n=true) :
  Rep n (envOf args) { tmps:=args.toArray++Array.replicate (n - args.toArray.size) undef,defers:=[] }:=by
 have h':args.length≤n:=by simpa using h
 refine ⟨rfl,by simp;omega,fun i=>?_⟩
 show (args.toArray++Array.replicate (n - args.toArray.size) undef).getD i undef=args.getD i undef
 rw [Array.getD_eq_getD_getElem?,List.getD_eq_getElem?_getD]
 by_cases hi:i < args.length
 ·rw [Array.getElem?_append_left (by simpa using hi)];simp
 ·rw [Array.getElem?_append_right (by simpa using Nat.le_of_not_lt hi),List.getElem?_eq_none (Nat.le_of_not_lt hi)]
  rw [Array.getElem?_replicate]
  split <;> rfl
theorem Yr {f:FuncId} {fn:Func} {c:Code} {args:List Value} {S:Value→World→Prop} {t:Nat} (hf:P.funcs[f]? = some fn) (hb:fn.body=some c)
  (hr:fn.results=#[.tmp t]) {n:Nat} (hn:fn.ntmps=n) (hl:Nat.ble args.length n=true)
  (h:W P n c (fun ρ w'=>S (ρ t) w') (fun _ _ _=>False) (fun ρ w'=>S (ρ t) w') (envOf args) w):Does P f args w S:=by
 subst hn
 refine calls_of_wp hf hb (Go.wp_mono (h _ (Rep.start args _ hl)) fun e a w q=>?_)
 cases e with
 | normal =>
   obtain ⟨ρ, h1, h2⟩ := q
   exact ⟨h1.defers, ρ t, by rw [results_tmp hr, h1.get], _, rfl, h2⟩
 | ret =>
   obtain ⟨ρ, h1, h2⟩ := q
   exact ⟨h1.defers, ρ t, by rw [results_tmp hr, h1.get], _, rfl, h2⟩
 | exit i=>obtain ⟨ρ,h1,h2⟩:=q;exact h2.elim
 | goto l=>exact q.elim
 | panic ch=>exact q.elim
 | outgrown=>exact q.elim
theorem Uy {f:FuncId} {fn:Func} {c:Code} {args:List Value} {S:Value→World→Prop} {t u:Nat} (hf:P.funcs[f]? = some fn) (hb:fn.body=some c)
  (hr:fn.results=#[.tmp t,.tmp u]) {n:Nat} (hn:fn.ntmps=n) (hl:Nat.ble args.length n=true)
  (h:W P n c (fun ρ w'=>S (.tuple #[ρ t,ρ u]) w') (fun _ _ _=>False) (fun ρ w'=>S (.tuple #[ρ t,ρ u]) w') (envOf args) w):Does P f args w S:=by
 subst hn
 refine calls_of_wp hf hb (Go.wp_mono (h _ (Rep.start args _ hl)) fun e a w q=>?_)
 cases e with
 | normal =>
   obtain ⟨ρ, h1, h2⟩ := q
   exact ⟨h1.defers, _, by rw [results_tmp2 hr, h1.get, h1.get], _, rfl, h2⟩
 | ret =>
   obtain ⟨ρ, h1, h2⟩ := q
   exact ⟨h1.defers, _, by rw [results_tmp2 hr, h1.get, h1.get], _, rfl, h2⟩
 | exit i=>obtain ⟨ρ,h1,h2⟩:=q;exact h2.elim
 | goto l=>exact q.elim
 | panic ch=>exact q.elim
 | outgrown=>exact q.elim
end
def Ext (w w':World):Prop:=Below w.heap.size w w'
theorem Ext.refl (w:World):Ext w w:=Below.refl _ _
theorem Ext.trans {a b c:World} (h:Ext a b) (k:Ext b c):Ext a c:=Below.trans h (Below.mono k h.size)
theorem Ext.K {a b c:World} (h:Ext a b) (k:Ext b c):Ext a c:=h.trans k
theorem Ext.size {a b:World} (h:Ext a b):a.heap.size≤b.heap.size:=Below.size h
theorem Ext.drawn {a b:World} (h:Ext a b) (n:Nat):Ext a { b with drawn:=n }:=⟨h.os,h.tape,h.output,h.size,h.block⟩
theorem Ext.alloc {a b:World} (h:Ext a b) (o:Obj):Ext a (b.alloc o):=Below.alloc h h.size o
theorem Ext.cell {w w':World} (h:Ext w w') {a:Addr} {v:Value} (hc:w.cell? a=some v):w'.cell? a=some v:=by
 rw [Below.cell h (World.block_lt_of_cell? _ _ hc)];exact hc
theorem Ext.setCell {a b:World} (h:Ext a b) {p:Addr} (hp:a.heap.size≤p.block) (u:Value):Ext a (b.setCell p u):=Below.setCell h hp u
def Ret (w:World) (r:Value):Value→World→Prop:=fun v w'=>v=r∧Ext w w'
theorem Yh {S:Value→World→Prop} {u v:Value} {w:World} (h:u=v) (hs:S v w):S u w:=h ▸ hs
def Wq (P:Program) (n:Nat) (all:Array Oper) (w:World) (l:List Oper) (N:Env→Prop) (ρ : Env):Prop :=
 dstsLt n all.toList=true→(∀ o ∈ l,o ∈ all.toList)→∀ a,Rep n ρ a→∀ Q:Act→Prop,(∀ a' ρ',Rep n ρ' a'→N ρ'→Q a')→wpQuiet P all (Ext w) Q l a
section
variable {P:Program} {n:Nat} {N:Env→World→Prop} {X:Nat→Env→World→Prop} {R:Env→World→Prop} {M:Env→Prop} {ρ : Env} {w w0:World} {all:Array Oper} {rest:List Oper}
 {d d2:Nat} {op:Op} {ty ty2 t el tl:TypeId} {pos pos2:String} {after after2:Array Edge} {g g2:Option (Nat × Bool)} {x y:Operand} {k:Nat}
theorem Qe {id:Nat} {ops:List Oper} (hm:P.follows .mixedOrders=true) (hB:Region.lexB .any ops.toArray=true) (hd:dstsLt n ops=true)
  (h:Wq P n ops.toArray w ops (fun ρ'=>∀ w',Ext w w'→N ρ' w') ρ):W P n (.region id ops.toArray true) N X R ρ w :=
 fun a ha=>wp_region_quiet (C:=Ext w) hm hB ((Ext.refl w).drawn _) (by
  have:=h (by simpa using hd) (by simp) a ha (fun a'=>∀ w',Ext w w'→post n N X R .normal a' w') (fun a' ρ' h1 h2 w' hw'=>⟨ρ',h1,h2 w' hw'⟩)
  simpa using this)
theorem Ux (h:M ρ):Wq P n all w [] M ρ:=fun _ _ _ ha _ hQ=>wpQuiet_nil (hQ _ _ ha h)
theorem Uq {v:Value} (hw:wantedE all ⟨some d,op,ty,pos,after,g⟩ ρ = true) (hv : ∀ w',Ext w w'→OpV P op ty ρ w' v) (hk:Wq P n all w rest M (upd ρ d v)) :
  Wq P n all w (⟨some d,op,ty,pos,after,g⟩::rest) M ρ:=by
 intro hd hm a ha Q hQ
 refine wpQuiet_step fun K hK=>?_
 rw [Td ha hd,if_pos hw]
 refine ⟨v,fun w' hw'=>?_,hK _ (hk hd (fun o ho=>hm o (List.mem_cons_of_mem _ ho)) _ (ha.put (Sy hd _ (hm _ (List.mem_cons_self ..)) d rfl) v) Q hQ)⟩
 unfold Oper.quietAt
 rw [ha.eval]
 have : (execOp (evalE ρ) ⟨some d, op, ty, pos, after, g⟩) = (execOp (evalE ρ) ⟨none, op, ty, "", #[], none⟩) := by cases op <;> rfl
 rw [this,hv w' hw']
 exact ⟨rfl,rfl⟩
theorem Yd (hw:wantedE all ⟨some d,op,ty,pos,after,g⟩ ρ = false) (hk:Wq P n all w rest M (upd ρ d undef)) :
  Wq P n all w (⟨some d,op,ty,pos,after,g⟩::rest) M ρ:=by
 intro hd hm a ha Q hQ
 refine wpQuiet_step fun K hK=>?_
 rw [Td ha hd,if_neg (by rw [hw];simp)]
 exact hK _ (hk hd (fun o ho=>hm o (List.mem_cons_of_mem _ ho)) _ (ha.put (Sy hd _ (hm _ (List.mem_cons_self ..)) d rfl) undef) Q hQ)
theorem Sp {b:Bool} (hw:wantedE all ⟨some d,op,ty,pos,after,g⟩ ρ = true) (hv : ∀ w',Ext w w'→OpV P op ty ρ w' (.bool b))
  (ht:b=true→Wq P n all w rest M (upd ρ d (.bool true))) (hf:b=false→Wq P n all w rest M (upd ρ d (.bool false))) :
  Wq P n all w (⟨some d,op,ty,pos,after,g⟩::rest) M ρ:=by
 refine Uq hw hv ?_
 cases b
 ·exact hf rfl
 ·exact ht rfl
theorem Wq_split_dec {p:Prop} [Decidable p] (hw:wantedE all ⟨some d,op,ty,pos,after,g⟩ ρ = true) (hv : ∀ w',Ext w w'→OpV P op ty ρ w' (.bool (decide p)))
  (ht:p→Wq P n all w rest M (upd ρ d (.bool true))) (hf : ¬p→Wq P n all w rest M (upd ρ d (.bool false))) :
  Wq P n all w (⟨some d,op,ty,pos,after,g⟩::rest) M ρ :=
 Sp hw hv (fun h=>ht (of_decide_eq_true h)) (fun h=>hf (of_decide_eq_false h))
theorem Rb {f:FuncId} {args:List Value} {r:Value} (hw:wantedE all ⟨some d,op,ty,pos,after,g⟩ ρ = true) (hv : ∀ w',Ext w w'→OpC P op ty ρ w' f args)
  (hf : ∀ w',Ext w w'→Does P f args w' (Ret w' r)) (hk:Wq P n all w rest M (upd ρ d r)) :
  Wq P n all w (⟨some d,op,ty,pos,after,g⟩::rest) M ρ:=by
 intro hd hm a ha Q hQ
 refine wpQuiet_step fun K hK=>?_
 rw [Td ha hd,if_pos hw]
 refine ⟨r,fun w' hw'=>?_,hK _ (hk hd (fun o ho=>hm o (List.mem_cons_of_mem _ ho)) _ (ha.put (Sy hd _ (hm _ (List.mem_cons_self ..)) d rfl) r) Q hQ)⟩
 unfold Oper.quietAt
 rw [ha.eval]
 have : (execOp (evalE ρ) ⟨some d, op, ty, pos, after, g⟩) = (execOp (evalE ρ) ⟨none, op, ty, "", #[], none⟩) := by cases op <;> rfl
 rw [this,hv w' hw']
 exact ⟨rfl,Calls.mono (hf w' hw') fun e w'' ⟨v,he,hv',hx'⟩=>⟨by rw [he,hv'],hw'.trans hx'⟩⟩
end
attribute [irreducible] Does W Wops Wq OpV OpW OpS OpC
open Go.IntWalk
variable {P:Program} {ρ : Env} {w:World} {ty t t' e:TypeId} {x y z c:Operand}
abbrev str (l:List UInt8):Value:=.string ⟨l.toArray⟩
theorem Qt {d:TypeDesc} (h:P.underlying t=some d):(underlying t).run P w=.ok d w:=by simp [underlying,program,Sem.run,h]
theorem Xj {v:Value} (h:evalE ρ x=v):OpV P (.move x) ty ρ w v:=by simp [OpV,execOp,h]
theorem Re {v:Value} (h:evalE ρ x=v):OpV P (.assign x) ty ρ w v:=by simp [OpV,execOp,h]
theorem opv_pick_t {v:Value} (hc:evalE ρ c=.bool true) (h:evalE ρ x=v):OpV P (.pick c x y) ty ρ w v:=by simp [OpV,execOp,hc,h,asBool]
theorem opv_pick_f {v:Value} (hc:evalE ρ c=.bool false) (h:evalE ρ y=v):OpV P (.pick c x y) ty ρ w v:=by simp [OpV,execOp,hc,h,asBool]
theorem opv_not {b:Bool} (h:evalE ρ x=.bool b):OpV P (.unOp .not t x) ty ρ w (.bool (!b)):=by simp [OpV,execOp,h,Op.unary]
section ints
variable {k:IntKind} {a b:Int}
theorem Qj (hx:evalE ρ x=.int .i64 a) (hy:evalE ρ y=.int .i64 b) (h : -9223372036854775808≤a+b∧a+b≤9223372036854775807) :
  OpV P (.binOp .add t x y t') ty ρ w (.int .i64 (a+b)):=by simp [OpV,execOp,hx,hy,eqGuard,binOp,Op.intArith];exact i64_in _ h
theorem Ll (hx:evalE ρ x=.int .i64 a) (hy:evalE ρ y=.int .i64 b) (h : -9223372036854775808≤a - b∧a - b≤9223372036854775807) :
  OpV P (.binOp .sub t x y t') ty ρ w (.int .i64 (a - b)):=by simp [OpV,execOp,hx,hy,eqGuard,binOp,Op.intArith];exact i64_in _ h
theorem Qz (hx:evalE ρ x=.int .i64 a) (hy:evalE ρ y=.int .i64 b) (h : -9223372036854775808≤a*b∧a*b≤9223372036854775807) :
  OpV P (.binOp .mul t x y t') ty ρ w (.int .i64 (a*b)):=by simp [OpV,execOp,hx,hy,eqGuard,binOp,Op.intArith];exact i64_in _ h
theorem Rd (hx:evalE ρ x=.int .i64 a) (hy:evalE ρ y=.int .i64 b) (h:0≤a∧a≤9223372036854775807∧1≤b) :
  OpV P (.binOp .quo t x y t') ty ρ w (.int .i64 (a / b)):=by
 have h0 : ¬b=0:=by omega
 simp [OpV,execOp,hx,hy,eqGuard,binOp,Op.intDiv,h0];exact i64_quo _ _ h
theorem Li (hx:evalE ρ x=.int .i64 a) (hy:evalE ρ y=.int .i64 b) (h:0≤a∧1≤b) :
  OpV P (.binOp .rem t x y t') ty ρ w (.int .i64 (a % b)):=by
 have h0 : ¬b=0:=by omega
 simp [OpV,execOp,hx,hy,eqGuard,binOp,Op.intDiv,h0];exact rem_in _ _ h.1
theorem opv_lss (hx:evalE ρ x=.int k a) (hy:evalE ρ y=.int k b):OpV P (.binOp .lss t x y t') ty ρ w (.bool (decide (a < b))):=by simp [OpV,execOp,hx,hy,eqGuard,binOp,Op.intCmp]
theorem opv_leq (hx:evalE ρ x=.int k a) (hy:evalE ρ y=.int k b):OpV P (.binOp .leq t x y t') ty ρ w (.bool (decide (a≤b))):=by simp [OpV,execOp,hx,hy,eqGuard,binOp,Op.intCmp]
theorem opv_gtr (hx:evalE ρ x=.int k a) (hy:evalE ρ y=.int k b):OpV P (.binOp .gtr t x y t') ty ρ w (.bool (decide (b < a))):=by simp [OpV,execOp,hx,hy,eqGuard,binOp,Op.intCmp]
theorem opv_geq (hx:evalE ρ x=.int k a) (hy:evalE ρ y=.int k b):OpV P (.binOp .geq t x y t') ty ρ w (.bool (decide (b≤a))):=by simp [OpV,execOp,hx,hy,eqGuard,binOp,Op.intCmp]
theorem opv_eql (hx:evalE ρ x=.int k a) (hy:evalE ρ y=.int k b):OpV P (.binOp .eql t x y t') ty ρ w (.bool (decide (a=b))):=by
 simp [OpV,execOp,hx,hy,eqGuard,binOp,Op.intCmp]
 by_cases h:a=b
 ·simp [h]
 ·rw [decide_eq_false h];simpa using h
theorem opv_neq (hx:evalE ρ x=.int k a) (hy:evalE ρ y=.int k b):OpV P (.binOp .neq t x y t') ty ρ w (.bool (!decide (a=b))):=by
 simp [OpV,execOp,hx,hy,eqGuard,binOp,Op.intCmp]
 by_cases h:a=b
 ·simp [h]
 ·simp [h]
theorem opv_max (hx:evalE ρ x=.int k a) (hy:evalE ρ y=.int k b) {ts:Array TypeId} : OpV P (.call { callee:=.builtin .max,args:=#[x,y],argTypes:=ts }) ty ρ w (.int k (max a b)):=by
 simp [OpV,execOp,resolve,hx,hy,invoke,builtin,Builtin.max_,Builtin.max2]
 split <;> omega
end ints
section bools
variable {a b:Bool}
end bools
section strings
variable {a b:List UInt8}
theorem Xo {ts:TypeId} (ht:P.underlying ts=some .string) (hx:evalE ρ x=.string ⟨a.toArray⟩) :
  OpV P (.call { callee:=.builtin .len,args:=#[x],argTypes:=#[ts] }) ty ρ w (.int .i64 (a.length:Int)):=by
 simp [OpV,execOp,resolve,hx,invoke,builtin,Builtin.len_,Qt ht,goInt];try rfl
theorem Yq {ts:TypeId} {k:Nat} (ht:P.underlying ts=some .string) (hx:evalE ρ x=.string ⟨a.toArray⟩) (hy:evalE ρ y=.int .i64 (k:Int)) (hk:k < a.length) :
  OpV P (.index ts x y) ty ρ w (.int .u8 ((a.getD k 0).toNat:Int)):=by
 have:(⟨a.toArray⟩:ByteArray)[k]? = some (a.getD k 0):=by
  show (if h:k < (⟨a.toArray⟩:ByteArray).size then _ else _)=_
  have hs:k < (⟨a.toArray⟩:ByteArray).size:=by show k < a.toArray.size;simpa using hk
  rw [dif_pos hs]
  simp [List.getD_eq_getElem?_getD,hk]
  rfl
 simp [OpV,execOp,hx,hy,Instr.index,asIntOf,Qt ht,this]
theorem size_mk (l:List UInt8):(⟨l.toArray⟩:ByteArray).size=l.length:=rfl
theorem Yi (hx:evalE ρ x=.string ⟨a.toArray⟩) (hy:evalE ρ y=.string ⟨b.toArray⟩):OpV P (.binOp .eql t x y t') ty ρ w (.bool (decide (a=b))):=by
 simp [OpV,execOp,hx,hy,eqGuard,binOp,Op.stringOp]
 by_cases h:a=b
 ·simp [h]
 ·rw [decide_eq_false h];simpa using h
theorem Uo (hx:evalE ρ x=.string ⟨a.toArray⟩) (hy:evalE ρ y=.string ⟨b.toArray⟩):OpV P (.binOp .neq t x y t') ty ρ w (.bool (!decide (a=b))):=by
 simp [OpV,execOp,hx,hy,eqGuard,binOp,Op.stringOp]
 by_cases h:a=b
 ·simp [h]
 ·simp [h]
theorem opv_lss_str (hx:evalE ρ x=.string ⟨a.toArray⟩) (hy:evalE ρ y=.string ⟨b.toArray⟩):OpV P (.binOp .lss t x y t') ty ρ w (.bool (Op.bytesLess a b)):=by
 simp [OpV,execOp,hx,hy,eqGuard,binOp,Op.stringOp]
theorem append_mk (a b:List UInt8):(⟨a.toArray⟩:ByteArray)++⟨b.toArray⟩=⟨(a++b).toArray⟩:=by
 apply ByteArray.ext;simp [ByteArray.data_append]
theorem Yz (hx:evalE ρ x=.string ⟨a.toArray⟩) (hy:evalE ρ y=.string ⟨b.toArray⟩) (h:a.length+b.length≤9223372036854775807) :
  OpV P (.binOp .add t x y t') ty ρ w (.string ⟨(a++b).toArray⟩):=by
 have h' : ¬((a.length+b.length:Nat):Int) > IntKind.i64.max:=by show ¬((a.length+b.length:Nat):Int) > 9223372036854775807;omega
 simp only [OpV,execOp,hx,hy,eqGuard,binOp,Op.stringOp,size_mk,append_mk,h',if_false]
 simp
theorem extract_mk (a:List UInt8) (l h:Nat):(⟨a.toArray⟩:ByteArray).extract l h=⟨((a.drop l).take (h - l)).toArray⟩:=by
 apply ByteArray.ext
 simp [ByteArray.data_extract,List.extract_eq_take_drop]
theorem Nm {ts:TypeId} {lo hi:Operand} {l h:Nat} (ht:P.underlying ts=some .string) (hx:evalE ρ x=.string ⟨a.toArray⟩) (hl:evalE ρ lo=.int .i64 (l:Int)) (hh:evalE ρ hi=.int .i64 (h:Int))
  (hb:l≤h∧h≤a.length):OpV P (.slice ts x (some lo) (some hi) none) ty ρ w (.string ⟨((a.drop l).take (h - l)).toArray⟩):=by
 have h1:=hb.1
 have h2:=hb.2
 simp [OpV,execOp,hx,hl,hh,Instr.sliceAt,Instr.slice,Qt ht,Instr.sliceBounds,Instr.sliceBound,asIntOf,size_mk,h1,h2,extract_mk]
theorem Ue {ts:TypeId} {lo:Operand} {l:Nat} (ht:P.underlying ts=some .string) (hx:evalE ρ x=.string ⟨a.toArray⟩) (hl:evalE ρ lo=.int .i64 (l:Int))
  (hb:l≤a.length):OpV P (.slice ts x (some lo) none none) ty ρ w (.string ⟨(a.drop l).toArray⟩):=by
 have e:(a.drop l).take (a.length - l)=a.drop l:=List.take_of_length_le (by simp)
 simp [OpV,execOp,hx,hl,Instr.sliceAt,Instr.slice,Qt ht,Instr.sliceBounds,Instr.sliceBound,asIntOf,size_mk,hb,extract_mk,e]
theorem Le {ts:TypeId} {hi:Operand} {h:Nat} (ht:P.underlying ts=some .string) (hx:evalE ρ x=.string ⟨a.toArray⟩) (hh:evalE ρ hi=.int .i64 (h:Int))
  (hb:h≤a.length):OpV P (.slice ts x none (some hi) none) ty ρ w (.string ⟨(a.take h).toArray⟩):=by
 simp [OpV,execOp,hx,hh,Instr.sliceAt,Instr.slice,Qt ht,Instr.sliceBounds,Instr.sliceBound,asIntOf,size_mk,hb,extract_mk]
theorem Sx {z:Int} (h:0≤z):((z.toNat:Nat):Int)=z:=Int.toNat_of_nonneg h
theorem opv_slice_str_z {ts:TypeId} {lo hi:Operand} {l h:Int} (ht:P.underlying ts=some .string) (hx:evalE ρ x=.string ⟨a.toArray⟩) (hl:evalE ρ lo=.int .i64 l) (hh:evalE ρ hi=.int .i64 h)
  (hb:0≤l∧l≤h∧h≤a.length):OpV P (.slice ts x (some lo) (some hi) none) ty ρ w (.string ⟨((a.drop l.toNat).take (h.toNat - l.toNat)).toArray⟩) :=
 Nm ht hx (by rw [hl,Sx hb.1]) (by rw [hh,Sx (by omega)]) (by omega)
theorem Rr {ts:TypeId} {hi:Operand} {h:Int} (ht:P.underlying ts=some .string) (hx:evalE ρ x=.string ⟨a.toArray⟩) (hh:evalE ρ hi=.int .i64 h)
  (hb:0≤h∧h≤a.length):OpV P (.slice ts x none (some hi) none) ty ρ w (.string ⟨(a.take h.toNat).toArray⟩) :=
 Le ht hx (by rw [hh,Sx hb.1]) (by omega)
end strings
section slices
variable {a:Option Addr} {len cap k:Nat} {ts el:TypeId}
theorem Mt (ht:P.underlying ts=some (.slice el)) (hx:evalE ρ x=.slice a len cap) :
  OpV P (.call { callee:=.builtin .len,args:=#[x],argTypes:=#[ts] }) ty ρ w (.int .i64 (len:Int)):=by
 simp [OpV,execOp,resolve,hx,invoke,builtin,Builtin.len_,Qt ht,goInt]
theorem Yk {b o:Nat} (ht:P.underlying ts=some (.slice el)) (hs : ∀ w,(sizeOf el).run P w=.ok 1 w) (hx:evalE ρ x=.slice (some ⟨b,o,none⟩) len cap) (hy:evalE ρ y=.int .i64 (k:Int)) (hk:k < len) :
  OpV P (.indexAddr ts x y) ty ρ w (.pointer (some ⟨b,o+k,none⟩)):=by
 simp [OpV,execOp,hx,hy,Instr.indexAt,asIntOf,Qt ht,hs,hk]
 unfold Addr.add;split
 ·simp_all
 ·rfl
theorem Xd {ad:Addr} {v:Value} {tl:TypeId} (ht : ∀ w,(isAgg tl).run P w=.ok false w) (hx:evalE ρ x=.pointer (some ad)) (hc:w.cell? ad=some v) :
  OpV P (.load tl x) ty ρ w v:=by
 simp [OpV,execOp,hx,Instr.loadAt,Instr.sureAddr,loadVar,ht,hc]
def isCell:Value→Bool
 | .agg _=>false
 | .tuple _=>false
 | _=>true
theorem Sz {v:Value} (h:isCell v=true):v.cells=#[v]:=by cases v <;> first | rfl | cases h
theorem Si {ad:Addr} {v v0:Value} (h1:isCell v=true) (hc:w.cell? ad=some v0) (hf:w.frozen? ad=false) (m:Mode):(store ad v m).run P w=.ok () (w.setCell ad v):=by
 cases v <;> first | (simp [store,Sem.run,hc,hf];done) | (exact absurd h1 (by simp [isCell]))
theorem ops_store {ad:Addr} {v v0:Value} {tl:TypeId} (ht : ∀ w,(sizeOf tl).run P w=.ok 1 w) (hx:evalE ρ x=.pointer (some ad)) (hy:evalE ρ y=v) (h1:isCell v=true) (hc:w.cell? ad=some v0) (hf:w.frozen? ad=false) :
  OpS P (.store tl x y) ty ρ w (w.setCell ad v):=by
 have h2:=Sz h1
 simp [OpS,execOp,hx,hy,Instr.storeAt,Instr.sureAddr,storeVar,ht,h2,storeCells,Addr.add,Si h1 hc hf]
theorem Ud {ad:Addr} (hx:evalE ρ x=.pointer (some ad)):OpV P (.nilCheck x) ty ρ w (.pointer (some ad)):=by
 simp [OpV,execOp,hx]
theorem Mv {s:TypeId} {fs:Array Field} {f:Field} {i b o m:Nat} (ht:P.underlying s=some (.struct fs)) (hf:fs[i]? = some f) (hfi:f.offset=i) (hs : ∀ w,(sizeOf f.type).run P w=.ok (m+1) w) (hx:evalE ρ x=.pointer (some ⟨b,o,none⟩)) :
  OpV P (.fieldAddr s x i) ty ρ w (.pointer (some ⟨b,o+i,none⟩)):=by
 simp [OpV,execOp,hx,Instr.fieldAt,Qt ht,Instr.sureAddr,hf,fieldPlace,hs,hfi]
 unfold Addr.add;split
 ·simp_all
 ·rfl
theorem Rt {fn:Fn} {first cap:Array Operand} {v1 v2:List Value} (h1:first.toList.map (evalE ρ)=v1) (h2:cap.toList.map (evalE ρ)=v2):OpV P (.makeFunc fn first cap) ty ρ w (.func fn v1.toArray v2.toArray):=by
 subst h1;subst h2
 simp [OpV,execOp,Instr.makeFunc]
 constructor <;> (apply Array.ext';simp)
theorem Rx {vs:List Value} {i:Nat} {v:Value} (hx:evalE ρ x=.tuple vs.toArray) (hv:vs[i]? = some v):OpV P (.extract x i) ty ρ w v:=by
 simp [OpV,execOp,hx,Instr.extract,hv]
end slices
end Go.Hs
namespace Go.Hs
def lim:Nat:=140737488355328
section
variable {α : Type} {E:World→Value→α→Prop} {w w':World} {a:Option Addr} {xs:List α} {v:Value}
def RSl (E:World→Value→α→Prop) (w:World) (a:Option Addr) (xs:List α):Prop :=
 xs.length≤9223372036854775807∧(xs=[]∨∃ b o,a=some ⟨b,o,none⟩∧∀ i (h:i < xs.length),∃ u,w.cell? ⟨b,o+i,none⟩=some u∧E w u xs[i])
def ESl (E:World→Value→α→Prop) (w:World) (v:Value) (xs:List α):Prop:=∃ a c,v=.slice a xs.length c∧RSl E w a xs
class Mono {α : Type} (E:World→Value→α→Prop):Prop where
 mono : ∀ {w w':World} {v:Value} {x : α},Ext w w'→E w v x→E w' v x
theorem RSl.mono [hE:Mono E] (he:Ext w w') (h:RSl E w a xs):RSl E w' a xs:=by
 refine ⟨h.1,h.2.imp id ?_⟩
 rintro ⟨b,o,ha,hc⟩
 refine ⟨b,o,ha,fun i hi=>?_⟩
 obtain ⟨u,h1,h2⟩:=hc i hi
 exact ⟨u,he.cell h1,hE.mono he h2⟩
instance mono_ESl [Mono E]:Mono (ESl E):=⟨by
 rintro w w' v xs he ⟨a,c,rfl,h⟩
 exact ⟨a,c,rfl,h.mono he⟩⟩
theorem ESl.le (h:ESl E w v xs):xs.length≤9223372036854775807:=by obtain ⟨_,_,_,h⟩:=h;exact h.1
theorem RSl.at (h:RSl E w a xs) {i:Nat} (hi:i < xs.length) : ∃ b o u,a=some ⟨b,o,none⟩∧w.cell? ⟨b,o+i,none⟩=some u∧E w u xs[i]:=by
 rcases h.2 with rfl | ⟨b,o,ha,hc⟩
 ·cases hi
 ·obtain ⟨u,h1,h2⟩:=hc i hi
  exact ⟨b,o,u,ha,h1,h2⟩
theorem RSl.nil:RSl E w a []:=⟨Nat.zero_le _,.inl rfl⟩
end
def EInt:World→Value→Int→Prop:=fun _ v x=>v=.int .i64 x
def EByte:World→Value→UInt8→Prop:=fun _ v x=>v=.int .u8 (x.toNat:Int)
def EBool:World→Value→Bool→Prop:=fun _ v x=>v=.bool x
def EStr:World→Value→List UInt8→Prop:=fun _ v x=>v=.string ⟨x.toArray⟩∧x.length≤9223372036854775807
abbrev Ints:=ESl EInt
abbrev Bytes:=ESl EByte
abbrev Strs:=ESl EStr
instance mono_EInt:Mono EInt:=⟨fun _ h=>h⟩
instance mono_EByte:Mono EByte:=⟨fun _ h=>h⟩
instance mono_EBool:Mono EBool:=⟨fun _ h=>h⟩
instance mono_EStr:Mono EStr:=⟨fun _ h=>h⟩
section
variable {P:Program} {ρ : Env} {w w0:World} {ty ts el:TypeId} {x:Operand} {α : Type} {E:World→Value→α→Prop} {xs:List α} {v:Value}
theorem Rw (ht:P.underlying ts=some (.slice el)) (hx:evalE ρ x=v) (h:ESl E w0 v xs) :
  OpV P (.call { callee:=.builtin .len,args:=#[x],argTypes:=#[ts] }) ty ρ w (.int .i64 (xs.length:Int)):=by
 obtain ⟨a,c,rfl,_⟩:=h
 exact Mt ht hx
end
section
variable {P:Program} {n:Nat} {N:Env→World→Prop} {ρ : Env} {w w0:World} {all:Array Oper} {rest:List Oper}
 {d d2:Nat} {ty ty2 t el tl:TypeId} {pos pos2:String} {after after2:Array Edge} {g g2:Option (Nat × Bool)} {x y:Operand} {k:Nat}
theorem Xv {α : Type} {E:World→Value→α→Prop} {xs:List α} (ht:P.underlying t=some (.slice el)) (hs : ∀ w,(sizeOf el).run P w=.ok 1 w) (hta : ∀ w,(isAgg tl).run P w=.ok false w)
  (hw:wantedE all ⟨some d,.indexAddr t x y,ty,pos,after,g⟩ ρ = true)
  (hw2 : ∀ v,wantedE all ⟨some d2,.load tl (.tmp d),ty2,pos2,after2,g2⟩ (upd ρ d v)=true)
  {v:Value} (hx:evalE ρ x=v) (hR:ESl E w0 v xs) (hE:Ext w0 w) (hy:evalE ρ y=.int .i64 (k:Int)) (hk:k < xs.length)
  (hk' : ∀ ad u,E w0 u xs[k]→Wops P n all rest N (upd (upd ρ d (.pointer (some ad))) d2 u) w) :
  Wops P n all (⟨some d,.indexAddr t x y,ty,pos,after,g⟩::⟨some d2,.load tl (.tmp d),ty2,pos2,after2,g2⟩::rest) N ρ w:=by
 obtain ⟨a,c,rfl,hR⟩:=hR
 obtain ⟨b,o,u,rfl,hc,hu⟩:=hR.at hk
 refine Wo hw (Yk ht hs hx hy hk) ?_
 refine Wo (hw2 _) (Xd hta ?_ (hE.cell hc)) (hk' _ u hu)
 show upd ρ d _ d=_
 unfold upd;rw [Nat.beq_refl];rfl
theorem Ry {α : Type} {E:World→Value→α→Prop} {xs:List α} (ht:P.underlying t=some (.slice el)) (hs : ∀ w,(sizeOf el).run P w=.ok 1 w) (hta : ∀ w,(isAgg tl).run P w=.ok false w)
  (hw:wantedE all ⟨some d,.indexAddr t x y,ty,pos,after,g⟩ ρ = true)
  (hw2 : ∀ v,wantedE all ⟨some d2,.load tl (.tmp d),ty2,pos2,after2,g2⟩ (upd ρ d v)=true)
  {v:Value} (hx:evalE ρ x=v) (hR:ESl E w0 v xs) (hE:Ext w0 w) {z:Int} (hy:evalE ρ y=.int .i64 z) (hk:0≤z∧z.toNat < xs.length)
  (hk' : ∀ ad u,E w0 u xs[z.toNat]→Wops P n all rest N (upd (upd ρ d (.pointer (some ad))) d2 u) w) :
  Wops P n all (⟨some d,.indexAddr t x y,ty,pos,after,g⟩::⟨some d2,.load tl (.tmp d),ty2,pos2,after2,g2⟩::rest) N ρ w :=
 Xv ht hs hta hw hw2 hx hR hE (by rw [hy,Sx hk.1]) hk.2 hk'
end
section
variable {P:Program} {n:Nat} {N:Env→World→Prop} {X:Nat→Env→World→Prop} {R:Env→World→Prop} {M:Env→Prop} {ρ : Env} {w w0:World} {all:Array Oper} {rest:List Oper}
 {d d2:Nat} {op:Op} {ty ty2 t el tl:TypeId} {pos pos2:String} {after after2:Array Edge} {g g2:Option (Nat × Bool)} {x y:Operand} {k:Nat}
theorem Qf {α : Type} {E:World→Value→α→Prop} {xs:List α} (ht:P.underlying t=some (.slice el)) (hs : ∀ w,(sizeOf el).run P w=.ok 1 w) (hta : ∀ w,(isAgg tl).run P w=.ok false w)
  (hw:wantedE all ⟨some d,.indexAddr t x y,ty,pos,after,g⟩ ρ = true)
  (hw2 : ∀ v,wantedE all ⟨some d2,.load tl (.tmp d),ty2,pos2,after2,g2⟩ (upd ρ d v)=true)
  {v:Value} (hx:evalE ρ x=v) (hR:ESl E w0 v xs) (hE:Ext w0 w) (hy:evalE ρ y=.int .i64 (k:Int)) (hk:k < xs.length)
  (hk' : ∀ ad u,E w0 u xs[k]→Wq P n all w rest M (upd (upd ρ d (.pointer (some ad))) d2 u)) :
  Wq P n all w (⟨some d,.indexAddr t x y,ty,pos,after,g⟩::⟨some d2,.load tl (.tmp d),ty2,pos2,after2,g2⟩::rest) M ρ:=by
 obtain ⟨a,c,rfl,hR⟩:=hR
 obtain ⟨b,o,u,rfl,hc,hu⟩:=hR.at hk
 refine Uq hw (fun _ _=>Yk ht hs hx hy hk) ?_
 refine Uq (hw2 _) (fun w' hw'=>Xd hta ?_ ((hE.trans hw').cell hc)) (hk' _ u hu)
 show upd ρ d _ d=_
 unfold upd;rw [Nat.beq_refl];rfl
theorem Nc {α : Type} {E:World→Value→α→Prop} {xs:List α} (ht:P.underlying t=some (.slice el)) (hs : ∀ w,(sizeOf el).run P w=.ok 1 w) (hta : ∀ w,(isAgg tl).run P w=.ok false w)
  (hw:wantedE all ⟨some d,.indexAddr t x y,ty,pos,after,g⟩ ρ = true)
  (hw2 : ∀ v,wantedE all ⟨some d2,.load tl (.tmp d),ty2,pos2,after2,g2⟩ (upd ρ d v)=true)
  {v:Value} (hx:evalE ρ x=v) (hR:ESl E w0 v xs) (hE:Ext w0 w) {z:Int} (hy:evalE ρ y=.int .i64 z) (hk:0≤z∧z.toNat < xs.length)
  (hk' : ∀ ad u,E w0 u xs[z.toNat]→Wq P n all w rest M (upd (upd ρ d (.pointer (some ad))) d2 u)) :
  Wq P n all w (⟨some d,.indexAddr t x y,ty,pos,after,g⟩::⟨some d2,.load tl (.tmp d),ty2,pos2,after2,g2⟩::rest) M ρ :=
 Qf ht hs hta hw hw2 hx hR hE (by rw [hy,Sx hk.1]) hk.2 hk'
end
def Blk (w:World) (b:Nat) (cs:List Value):Prop:=∃ t,w.heap[b]? = some (.cells cs.toArray t (0,0))
def Keep (lo:Nat) (w w':World):Prop:=∀ k,lo≤k→k < w.heap.size→w'.heap[k]? = w.heap[k]?
section
variable {w w' w0:World} {b b' i lo:Nat} {cs cs':List Value} {v:Value}
theorem Blk.lt (h:Blk w b cs):b < w.heap.size:=by
 obtain ⟨t,h⟩:=h
 rcases Nat.lt_or_ge b w.heap.size with h1 | h1
 ·exact h1
 ·rw [Array.getElem?_eq_none h1] at h;cases h
theorem Blk.cell (h:Blk w b cs) (hi:cs[i]? = some v):w.cell? ⟨b,i,none⟩=some v:=by
 obtain ⟨t,h⟩:=h
 simp [World.cell?,h,hi]
theorem Blk.frozen (h:Blk w b cs):w.frozen? ⟨b,i,none⟩=false:=by
 obtain ⟨t,h⟩:=h
 simp [World.frozen?,h]
theorem Blk.Y (h:Blk w b cs) (e:w'.heap[b]? = w.heap[b]?):Blk w' b cs:=by
 obtain ⟨t,h⟩:=h
 exact ⟨t,by rw [e,h]⟩
theorem Blk.J (h:Blk w b cs) (e:Ext w w'):Blk w' b cs:=h.Y (e.block b h.lt)
theorem Blk.keep (h:Blk w b cs) (k:Keep lo w w') (hb:lo≤b):Blk w' b cs:=h.Y (k b hb h.lt)
theorem Blk.set (h:Blk w b cs) (v:Value):Blk (w.setCell ⟨b,i,none⟩ v) b (cs.set i v):=by
 obtain ⟨t,h⟩:=h
 refine ⟨t,?_⟩
 simp [World.setCell,Array.getElem?_modify,h]
theorem heap_setCell_other {p:Addr} (v:Value) (hb:b≠p.block):(w.setCell p v).heap[b]? = w.heap[b]?:=Go.RowKit.Below.heap_setCell _ _ _ _ hb
theorem Blk.new (w:World) (cs:List Value) (t:TypeId):Blk (w.alloc (.cells cs.toArray t)) w.heap.size cs:=⟨t,heap_alloc_new w _⟩
theorem Keep.refl:Keep lo w w:=fun _ _ _=>rfl
theorem Keep.mono {lo':Nat} (h:Keep lo w w') (hl:lo≤lo'):Keep lo' w w':=fun k h1 h2=>h k (Nat.le_trans hl h1) h2
theorem Ext.keep (h:Ext w w'):Keep lo w w':=fun k _ h2=>h.block k h2
theorem Keep.trans {w'':World} (h:Keep lo w w') (hs:w.heap.size≤w'.heap.size) (k:Keep lo w' w''):Keep lo w w'':=fun i h1 h2=>(k i h1 (by omega)).trans (h i h1 h2)
theorem size_setCell (p:Addr) (v:Value):(w.setCell p v).heap.size=w.heap.size:=by simp [World.setCell]
end
def Above {α : Type} (lo:Nat) (E:World→Value→α→Prop) (w:World) (v:Value) (x : α):Prop :=
 ∀ w1,Keep lo w w1→w.heap.size≤w1.heap.size→E w1 v x
section
variable {α : Type} {E:World→Value→α→Prop} {lo:Nat} {w w':World} {v:Value} {x : α}
theorem Above.here (h:Above lo E w v x):E w v x:=h w Keep.refl (Nat.le_refl _)
theorem Above.keep (h:Above lo E w v x) (k:Keep lo w w') (hs:w.heap.size≤w'.heap.size):Above lo E w' v x:=fun w1 k1 h1=>h w1 (k.trans hs k1) (Nat.le_trans hs h1)
theorem Above.mono {lo':Nat} (h:Above lo E w v x) (hl:lo'≤lo):Above lo' E w v x:=fun w1 k h1=>h w1 (k.mono hl) h1
theorem Above.J (h:Above lo E w v x) (k:Ext w w'):Above lo E w' v x:=h.keep k.keep k.size
instance mono_Above:Mono (Above lo E):=⟨fun e h=>h.J e⟩
end
def RetX {β : Type} (w:World) (val : β→Value) (p : β→World→Prop):Value→World→Prop:=fun v w'=>Ext w w'∧∃ y,v=val y∧p y w'
theorem Blk.cast {w:World} {b:Nat} {cs cs':List Value} (h:Blk w b cs) (e:cs=cs'):Blk w b cs':=e ▸ h
theorem Blk.slice {α : Type} {E:World→Value→α→Prop} {w:World} {b c:Nat} {cs:List Value} {xs:List α} (h:Blk w b cs) (hl:cs.length=xs.length) (hm:xs.length≤9223372036854775807)
  (hE : ∀ (i:Nat) (h1:i < cs.length) (h2:i < xs.length),E w cs[i] xs[i]):ESl E w (.slice (some ⟨b,0,none⟩) xs.length c) xs:=by
 refine ⟨_,_,rfl,hm,.inr ⟨b,0,rfl,fun i hi=>⟨cs[i],?_,hE i (by omega) hi⟩⟩⟩
 rw [Nat.zero_add]
 exact h.cell (List.getElem?_eq_getElem (by omega))
def EVal:World→Value→Value→Prop:=fun _ v x=>v=x
instance mono_EVal:Mono EVal:=⟨fun _ h=>h⟩
theorem Blk.vals {w:World} {b c:Nat} {cs:List Value} (h:Blk w b cs) (hm:cs.length≤9223372036854775807):ESl EVal w (.slice (some ⟨b,0,none⟩) cs.length c) cs :=
 h.slice rfl hm (fun _ _ _=>rfl)
def Flat (P:Program) (t:TypeId) (zs:List Value):Prop:=∃ fs:Array Field,P.underlying t=some (.struct fs)∧(∀ w,(zeroValue t).run P w=.ok (.agg zs.toArray) w) ∧
 ∀ w,(fs.mapM fun (f:Field)=>(do pure (f.offset,← sizeOf f.type):Sem (Nat × Nat))).run P w=.ok ((List.range zs.length).map fun i=>(i,1)).toArray w
def fillF:List Value→List (Nat × Value)→Option (List Value)
 | cs,[]=>some cs
 | cs,(i,v)::rest=>bif isCell v && Nat.blt i cs.length then fillF (cs.set i v) rest else none
theorem fill_eq {k:Nat} {place:Nat→Option (Nat × Nat)} (hpl : ∀ i,i < k→place i=some (i,1)) : ∀ (ps:List (Nat × Value)) (cs out:List Value),cs.length=k→fillF cs ps=some out →
  Instr.fill place cs.toArray ps=some out.toArray
 | [],cs,out,_,h=>by simp [fillF] at h;subst h;rfl
 | (i, v) :: rest, cs, out, hk, h => by
   unfold fillF at h
   cases hc : (isCell v && Nat.blt i cs.length)
   · rw [hc] at h; cases h
   · rw [hc] at h
     simp only [cond_true] at h
     simp only [Bool.and_eq_true] at hc
     have hi : i < cs.length := by simpa using hc.2
     unfold Instr.fill
     rw [hpl i (by omega)]
     have e1 : v.cells = #[v] := Sz hc.1
     simp only [e1, List.size_toArray, List.length_cons, List.length_nil]
     rw [if_neg (by simp; omega)]
     have := fill_eq hpl rest (cs.set i v) out (by simpa using hk) h
     simpa using this
section
variable {P:Program} {n:Nat} {N:Env→World→Prop} {ρ : Env} {w w0:World} {all:Array Oper} {rest:List Oper}
 {d:Nat} {ty t el:TypeId} {pos:String} {after:Array Edge} {g:Option (Nat × Bool)} {x y:Operand} {v:Value} {zs cs:List Value} {ps:List (Nat × Value)} {b i:Nat}
theorem Yu {parts:Array (Nat × Operand)} (hF:Flat P t zs) (hp:parts.toList.map (fun p=>(p.1,evalE ρ p.2))=ps) (hc:fillF zs ps=some cs) :
  OpV P (.build t parts) ty ρ w (.agg cs.toArray):=by
 obtain ⟨fs,hund,hzero,hplaces⟩:=hF
 have e:(Array.map (fun x=>match x with | (i,x)=>(i,evalE ρ x)) parts).toList=ps:=by rw [← hp];simp
 have hz:(Value.agg zs.toArray).cells=zs.toArray:=rfl
 have hf:=fill_eq (k:=zs.length) (place:=fun i=>(((List.range zs.length).map fun i=>(i,1)).toArray)[i]?) (fun i hi=>by simp [hi]) ps zs cs rfl hc
 simp only [OpV,execOp,Instr.build,Sem.run_bind,hzero,Result.andThen_ok,Qt hund,hplaces,hz,e,hf,Sem.run_pure]
theorem Xu (hw:wantedE all ⟨some d,.box t x,ty,pos,after,g⟩ ρ = true) (hx:evalE ρ x=v) (hcs:v.cells=cs.toArray)
  (hk : ∀ b w1,w.heap.size≤b→Ext w w1→Blk w1 b cs→Wops P n all rest N (upd ρ d (.pointer (some ⟨b,0,none⟩))) w1) :
  Wops P n all (⟨some d,.box t x,ty,pos,after,g⟩::rest) N ρ w :=
 Wo_w hw (show OpW P (.box t x) ty ρ w (.pointer (some ⟨w.heap.size,0,none⟩)) (w.alloc (.cells cs.toArray t)) by
  simp [OpW,execOp,hx,Instr.box,newVar,newRow,hcs]) (hk _ _ (Nat.le_refl _) ((Ext.refl w).alloc _) (Blk.new w cs t))
theorem Xc {k:Nat} {parts:Array (Nat × Operand)} {z:Value} (hw:wantedE all ⟨some d,.buildSlice t k parts,ty,pos,after,g⟩ ρ = true) (ht:P.underlying t=some (.slice el)) (hs : ∀ w,(sizeOf el).run P w=.ok 1 w)
  (hz : ∀ w,(zeroValue el).run P w=.ok z w) (h1:isCell z=true) (hb:(Nat.ble 1 k && Nat.ble k 1000)=true) (hp:parts.toList.map (fun p=>(p.1,evalE ρ p.2))=ps) (hc:fillF (List.replicate k z) ps=some cs)
  (hk : ∀ b w1,w.heap.size≤b→Ext w w1→Blk w1 b cs→Wops P n all rest N (upd ρ d (.slice (some ⟨b,0,none⟩) k k)) w1) :
  Wops P n all (⟨some d,.buildSlice t k parts,ty,pos,after,g⟩::rest) N ρ w:=by
 have hb':1≤k∧k≤1000:=by simpa using hb
 have e:(Array.map (fun x=>match x with | (i,x)=>(i,evalE ρ x)) parts).toList=ps:=by rw [← hp];simp
 have hr:(Array.map (fun i=>(#[z]:Array Value)[i % (#[z]:Array Value).size]!) (Array.range k))=(List.replicate k z).toArray:=by
  apply Array.ext'
  simp only [Array.toList_map,Array.toList_range]
  apply List.ext_getElem
  ·simp
  ·intro i h1 h2;simp [Nat.mod_one]
 have hf:=fill_eq (k:=k) (place:=fun i=>some (i*1,1)) (fun i hi=>by simp) ps (List.replicate k z) cs (by simp) hc
 have hz0:z.cells=#[z]:=Sz h1
 refine Wo_w hw (show OpW P (.buildSlice t k parts) ty ρ w (.slice (some ⟨w.heap.size,0,none⟩) k k) (w.alloc (.cells cs.toArray el)) from ?_) (hk _ _ (Nat.le_refl _) ((Ext.refl w).alloc _) (Blk.new w cs el))
 simp only [OpW,execOp,Instr.buildSlice,Sem.run_bind,Result.andThen_ok,Qt ht,hs,Nat.mul_one]
 rw [if_neg (by omega),if_neg (by omega)]
 simp only [Sem.run_bind,hz,Result.andThen_ok,Sem.run_pure,hz0,e]
 rw [hr]
 simp only [Nat.mul_one] at hf
 rw [hf]
 simp [newRow]
theorem Um (hw:wantedE all ⟨none,.store t x y,ty,pos,after,g⟩ ρ = true) (ht : ∀ w,(sizeOf t).run P w=.ok 1 w) (hx:evalE ρ x=.pointer (some ⟨b,i,none⟩)) (hy:evalE ρ y=v) (hc:isCell v=true)
  (hb:Blk w b cs) (hi:i < cs.length) (h0:w0.heap.size≤b) (hE:Ext w0 w)
  (hk : ∀ w1,Ext w0 w1→Blk w1 b (cs.set i v)→(∀ k,k≠b→w1.heap[k]? = w.heap[k]?)→w1.heap.size=w.heap.size→Wops P n all rest N ρ w1) :
  Wops P n all (⟨none,.store t x y,ty,pos,after,g⟩::rest) N ρ w :=
 Lc hw (ops_store ht hx hy hc (hb.cell (List.getElem?_eq_getElem hi)) hb.frozen)
  (hk _ (hE.setCell h0 v) (hb.set v) (fun _ h=>heap_setCell_other v h) (size_setCell _ _))
theorem run_eq_ptr_nil {a:Option Addr} (ht:P.underlying t=some (.pointer el)):(Op.equal t (.pointer a) (.pointer none)).run P w=.ok a.isNone w:=by
 have key : ∀ k,(Op.equalIn (k+1) t (.pointer a) (.pointer none)).run P w=.ok a.isNone w:=by
  intro k
  cases a <;> simp [Op.equalIn,Qt ht]
 exact key 9999
theorem eqGuard_ptr {op:BinOp} {a b:Option Addr} : (eqGuard op t x y (.pointer a) (.pointer b)).run P w=.ok () w:=by
 unfold eqGuard;split <;> simp
theorem opv_eql_ptr {a:Option Addr} (ht:P.underlying t=some (.pointer el)) (hx:evalE ρ x=.pointer a) (hy:evalE ρ y=.pointer none) {t':TypeId} :
  OpV P (.binOp .eql t x y t') ty ρ w (.bool a.isNone):=by
 simp [OpV,execOp,hx,hy,eqGuard_ptr,binOp,run_eq_ptr_nil ht]
theorem opv_neq_ptr {a:Option Addr} (ht:P.underlying t=some (.pointer el)) (hx:evalE ρ x=.pointer a) (hy:evalE ρ y=.pointer none) {t':TypeId} :
  OpV P (.binOp .neq t x y t') ty ρ w (.bool (!a.isNone)):=by
 simp [OpV,execOp,hx,hy,eqGuard_ptr,binOp,run_eq_ptr_nil ht]
theorem Tw {t':TypeId} (ht:P.underlying t=some (.pointer el)) (hx:evalE ρ x=.pointer none) (hy:evalE ρ y=.pointer none):OpV P (.binOp .eql t x y t') ty ρ w (.bool true):=opv_eql_ptr ht hx hy
theorem Qp {t':TypeId} {ad:Addr} (ht:P.underlying t=some (.pointer el)) (hx:evalE ρ x=.pointer (some ad)) (hy:evalE ρ y=.pointer none):OpV P (.binOp .eql t x y t') ty ρ w (.bool false):=opv_eql_ptr ht hx hy
theorem opv_neq_nil {t':TypeId} (ht:P.underlying t=some (.pointer el)) (hx:evalE ρ x=.pointer none) (hy:evalE ρ y=.pointer none):OpV P (.binOp .neq t x y t') ty ρ w (.bool false):=opv_neq_ptr ht hx hy
theorem opv_neq_some {t':TypeId} {ad:Addr} (ht:P.underlying t=some (.pointer el)) (hx:evalE ρ x=.pointer (some ad)) (hy:evalE ρ y=.pointer none):OpV P (.binOp .neq t x y t') ty ρ w (.bool true):=opv_neq_ptr ht hx hy
end
open Go.ChangeShapes Go.WideShapes Go.ChangeAt Go.RowKit Go.Deep
open Go.ChangeMaps (open_string shut_string)
section
variable {P:Program}
def Reads {α : Type} (P:Program) (t:TypeId) (E:World→Value→α→Prop):Prop :=
 ∀ (H:Type) (enc:TypeId × Value→H) (w:World) (base:Nat) (sp:Nat→Bool) (held:Bool) (fuel:Nat) (cs:List Value) (x:DataW H × List MemPlace),
  DataW.trod enc P w base sp held fuel t cs=some x→∃ v y,cs=[v]∧E w v y
theorem reads_byte {t:TypeId} (ht:P.underlying t=some (.int .u8)):Reads P t EByte:=by
 intro H enc w base sp held fuel cs x h
 obtain ⟨n,rfl,_,hw⟩:=DataW.trod_int ht h
 have hb:=bounds_u8 hw
 refine ⟨_,UInt8.ofNat n.toNat,rfl,?_⟩
 show Value.int .u8 n=_
 have:((UInt8.ofNat n.toNat).toNat:Int)=n:=by
  rw [UInt8.toNat_ofNat']
  have:n.toNat % 2 ^ 8=n.toNat:=Nat.mod_eq_of_lt (by omega)
  rw [this]
  omega
 rw [this]
theorem spot_none {w:World} {a:Addr} {v:Value} (h:w.cell? a=some v):a.spot=none:=by
 unfold World.cell? at h
 split at h
 ·split at h
  ·cases h
  ·rename_i hs;simpa using hs
 ·cases h
theorem reads_slice {α : Type} [Inhabited α] {E:World→Value→α→Prop} {t e:TypeId} (ht:P.underlying t=some (.slice e)) (ce:P.cellsOf e=1) (hE:Reads P e E):Reads P t (ESl E):=by
 intro H enc w base sp held fuel cs x h
 rcases open_slice ht h with ⟨rfl,_⟩ | ⟨a,len,cap,m,n,D,Pl,rfl,hb,hl,hm,hmm,_,hx⟩
 ·exact ⟨_,[],rfl,none,0,rfl,RSl.nil⟩
 ·have hlm:len≤m:=by rw [hmm];split <;> omega
  have each : ∀ i,i < len→∃ p:Value × α,w.cell? (a.add i)=some p.1∧E w p.1 p.2:=by
   intro i hi
   obtain ⟨cs',h1,h2⟩:=hx i (by omega)
   rw [ce] at h1
   obtain ⟨v,y,rfl,hv⟩:=hE _ _ _ _ _ _ _ _ _ h2
   refine ⟨(v,y),?_,hv⟩
   simp only [World.cells?,Nat.mul_one] at h1
   split at h1
   ·simp only [List.range_succ,List.range_zero,List.nil_append,List.mapM_cons,List.mapM_nil,Option.pure_def,Option.bind_eq_bind] at h1
    have e0:(a.add i).add 0=a.add i:=by simp [Addr.add]
    rw [e0] at h1
    cases hc:w.cell? (a.add i) with
    | none=>rw [hc] at h1;cases h1
    | some u=>rw [hc] at h1;simp at h1;rw [h1]
   ·cases h1
  classical
  let f:Nat→Value × α:=fun i=>if hi:i < len then (each i hi).choose else (undef,default)
  have hf : ∀ i,i < len→w.cell? (a.add i)=some (f i).1∧E w (f i).1 (f i).2:=by
   intro i hi
   have:f i=(each i hi).choose:=dif_pos hi
   rw [this]
   exact (each i hi).choose_spec
  refine ⟨.slice (some a) len cap,(List.range len).map fun i=>(f i).2,rfl,some a,cap,by simp,?_⟩
  refine ⟨by simp;unfold maxLen at hm;omega,?_⟩
  by_cases h0:len=0
  ·left;subst h0;rfl
  ·right
   have hs:a.spot=none:=by
    have:=spot_none (hf 0 (by omega)).1
    simpa [Addr.add] using this
   obtain ⟨b,o,sp'⟩:=a
   simp only at hs
   subst hs
   refine ⟨b,o,rfl,fun i hi=>?_⟩
   simp only [List.length_map,List.length_range] at hi
   have e1:(⟨b,o,none⟩:Addr).add i=⟨b,o+i,none⟩:=by
    unfold Addr.add;split
    ·simp_all
    ·rfl
   refine ⟨(f i).1,?_,?_⟩
   ·rw [← e1];exact (hf i hi).1
   ·simp only [List.getElem_map,List.getElem_range];exact (hf i hi).2
theorem read_slice {α : Type} {E:World→Value→α→Prop} {t e:TypeId} {H:Type} {enc:TypeId × Value→H} {w:World} {r:Reach} {b0 base:Nat} {sp:Nat→Bool} {held:Bool} {v:Value} {d:DataW H} {ps:List MemPlace}
  (ht:P.underlying t=some (.slice e)) (hE:Reads P t (ESl E)) (hval:Value.okWide P w r b0 t v) (hd:DataW.Trod enc P w base sp held t v d ps) : ∃ xs,ESl E w v xs:=by
 obtain ⟨a,len,cap,rfl⟩:=okWide_slice ht hval
 obtain ⟨fuel,hf⟩:=hd
 obtain ⟨u,xs,hu,h⟩:=hE _ _ _ _ _ _ _ _ _ hf
 simp [Value.cells] at hu
 subst hu
 exact ⟨xs,h⟩
end
def Wh (P:Program) (n:Nat) (all:Array Oper) (S:World→Prop) (fuel:Nat) (listed:Array Bool) (N:Env→World→Prop) (ρ : Env) (w:World):Prop :=
 dstsLt n all.toList=true→Region.noSelect all=true→∀ a,Rep n ρ a→∀ Q:Exit→Act→World→Prop,(∀ c a w,¬Q (.panic c) a w)→(∀ a' ρ' w',Rep n ρ' a'→N ρ' w'→Q .normal a' w') →
  wpAnyH P .any all Q S fuel listed a w
def WhAll (P:Program) (n:Nat) (all:Array Oper) (S:World→Prop) (fuel:Nat) (listed:Array Bool) (N:Env→World→Prop) (ρ : Env) (w:World):List Nat→Prop
 | []=>True
 | i::r=>(∃ o,all[i]? = some o∧Wops P n all [o] (fun ρ' w'=>S w'∧Wh P n all S fuel (listed.setIfInBounds i true) N ρ' w') ρ w)∧WhAll P n all S fuel listed N ρ w r
section
variable {P:Program} {n:Nat} {N:Env→World→Prop} {X:Nat→Env→World→Prop} {R:Env→World→Prop} {ρ : Env} {w:World} {all:Array Oper} {S:World→Prop} {fuel:Nat} {listed:Array Bool}
 {d:Nat} {op:Op} {ty:TypeId} {pos:String} {after:Array Edge} {g:Option (Nat × Bool)} {i:Nat}
theorem Rm {id:Nat} {ops:List Oper} (S:World→Prop) (hm:P.follows .mixedOrders=true) (hd:dstsLt n ops=true) (hs:Region.noSelect ops.toArray=true)
  (h : ∀ w1,Ext w w1→(∀ k:Nat,w1.heap[k]? = w.heap[k]?)→w1.heap.size=w.heap.size→Wh P n ops.toArray S ops.length (Array.replicate ops.length false) N ρ w1):W P n (.region id ops.toArray true) N X R ρ w:=by
 unfold W
 intro a ha
 refine wp_region_held (S:=S) hm ?_
 exact h { w with drawn:=w.drawn+1 } ((Ext.refl w).drawn _) (fun _=>rfl) rfl (by simpa using hd) hs a ha (post n N X R) (fun _ _ _ h=>h) (fun a' ρ' w' h1 h2=>⟨ρ',h1,h2⟩)
theorem Yc {v:Value} (i:Nat) (hi:all[i]? = some ⟨some d,op,ty,pos,after,g⟩) (hf:Region.free .any all listed i=true) (hr:(Region.ready .any all listed).contains i=true)
  (hw:wantedE all ⟨some d,op,ty,pos,after,g⟩ ρ = true) (hv : ∀ w',S w'→OpV P op ty ρ w' v) (hS:S w) (hk:Wh P n all S fuel (listed.setIfInBounds i true) N (upd ρ d v) w) :
  Wh P n all S (fuel+1) listed N ρ w:=by
 intro hd hs a ha Q hp hQ
 have hmem:(⟨some d,op,ty,pos,after,g⟩:Oper) ∈ all.toList:=Array.mem_toList_iff.2 (Array.mem_of_getElem? hi)
 refine wpAnyH_take (v:=v) hi hs hf hr (fun c a w h=>absurd h (hp _ _ _)) (.inl ⟨?_,fun w' hw'=>?_⟩) hS (hk hd hs _ (ha.put (Sy hd _ hmem d rfl) v) Q hp hQ)
 ·rw [Td ha hd,hw]
 ·have : (execOp a.eval ⟨some d, op, ty, pos, after, g⟩) = (execOp a.eval ⟨none, op, ty, "", #[], none⟩) := by cases op <;> rfl
  rw [this,ha.eval]
  have:=hv w' hw'
  unfold OpV at this
  exact this
theorem Yp (hr:Region.ready .any all listed=[]) (h:N ρ w):Wh P n all S fuel listed N ρ w :=
 fun _ _ a ha _ _ hQ=>wpAnyH_done hr (hQ a ρ w ha h) _
theorem wpOp_of_list {o:Oper} {a:Act} {K:Act→World→Prop} {Q:Exit→Act→World→Prop} (hi:all[i]? = some o)
  (h:wpList P all (fun e a w=>match e with | .normal=>K a w | e=>Q e a w) [o] a w):wpOp P all Q i K a w:=by
 unfold wpOp
 rw [hi]
 simp only [wpList] at h ⊢
 split
 ·rename_i hw
  simp only [hw,if_true] at h
  rcases h with h | ⟨h1,h2⟩
  ·left
   unfold Oper.wp at *
   generalize (execOp a.eval o).run P w=r at *
   cases r with
   | ok n w' =>
     cases n <;> simp only [Oper.upon] at h ⊢ <;> first | exact h | exact Calls.mono h (fun e w'' he => by cases e <;> exact he) | exact Rows.mono h (fun _ _ he => he)
   | halt x w'=>cases x <;> simp only [Oper.upon] at h ⊢ <;> exact h
  ·exact .inr ⟨h1,h2⟩
 ·rename_i hw
  simp only [hw] at h
  exact h
theorem Wh_all {rs:List Nat} (hr:Region.ready .any all listed=rs) (hne:rs.isEmpty=false) (h:WhAll P n all S fuel listed N ρ w rs):Wh P n all S (fuel+1) listed N ρ w:=by
 intro hd hs a ha Q hp hQ
 refine wpAnyH_all hr (by rintro rfl;cases hne) ?_
 clear hr hne
 induction rs with
 | nil=>intro i hi;cases hi
 | cons j r ih =>
   obtain ⟨⟨o, ho, hW⟩, h2⟩ := h
   intro i hi
   rcases List.mem_cons.1 hi with rfl | hi
   · refine wpOp_of_list ho ?_
     have hmem : o ∈ all.toList := Array.mem_toList_iff.2 (Array.mem_of_getElem? ho)
     unfold Wops at hW
     refine hW hd (fun x hx => by rw [List.mem_singleton.1 hx]; exact hmem) a ha _ ?_
     rintro a' ρ' w' h3 ⟨h4, h5⟩
     exact ⟨h4, h5 hd hs a' h3 Q hp hQ⟩
   · exact ih h2 i hi
theorem WhAll_nil:WhAll P n all S fuel listed N ρ w []:=trivial
theorem Yg {o:Oper} {r:List Nat} (hi:all[i]? = some o) (h:Wops P n all [o] (fun ρ' w'=>S w'∧Wh P n all S fuel (listed.setIfInBounds i true) N ρ' w') ρ w)
  (h2:WhAll P n all S fuel listed N ρ w r):WhAll P n all S fuel listed N ρ w (i::r):=⟨⟨o,hi,h⟩,h2⟩
theorem opv_xor {a b:Int} {x y:Operand} {t t':TypeId} (hx:evalE ρ x=.int .i64 a) (hy:evalE ρ y=.int .i64 b) (h:0≤a∧a≤9223372036854775807∧0≤b∧b≤9223372036854775807) :
  OpV P (.binOp .xor t x y t') ty ρ w (.int .i64 ((a.toNat ^^^ b.toNat:Nat):Int)):=by
 obtain ⟨A,rfl⟩:=Int.eq_ofNat_of_zero_le h.1
 obtain ⟨B,rfl⟩:=Int.eq_ofNat_of_zero_le h.2.2.1
 have hx':A ^^^ B < 2 ^ 63:=Nat.xor_lt_two_pow (by omega) (by omega)
 have key:IntKind.i64.wrap ((BitVec.ofInt 64 (A:Int) ^^^ BitVec.ofInt 64 (B:Int)).toNat:Int)=((A ^^^ B:Nat):Int):=by
  have e1:(BitVec.ofInt 64 (A:Int)).toNat=A:=by simp;omega
  have e2:(BitVec.ofInt 64 (B:Int)).toNat=B:=by simp;omega
  rw [BitVec.toNat_xor,e1,e2,IntKind.wrap_i64]
  omega
 simp [OpV,execOp,hx,hy,eqGuard,binOp,Op.intBits]
 exact key
theorem Rv {s t:TypeId} {x:Operand} {k:IntKind} {a:Int} {T:TypeDesc} (hs:P.underlying s=some T) (ht:P.underlying t=some (.int .i64)) (hx:evalE ρ x=.int k a) (h : -9223372036854775808≤a∧a≤9223372036854775807) :
  OpV P (.convert s t x) ty ρ w (.int .i64 a):=by
 have e:IntKind.i64.wrap a=a:=by rw [IntKind.wrap_i64];omega
 have:(convert s t (.int k a)).run P w=.ok (.int .i64 a) w:=by simp [convert,Qt hs,Qt ht,Conv.intToInt,e]
 simp [OpV,execOp,hx,this]
end
section
variable {P:Program} {ρ : Env} {w:World} {ty ts el:TypeId} {x:Operand} {len cap b o:Nat}
theorem So {hi:Operand} {h:Int} (ht:P.underlying ts=some (.slice el)) (hs : ∀ w,(sizeOf el).run P w=.ok 1 w) (hx:evalE ρ x=.slice (some ⟨b,o,none⟩) len cap) (hh:evalE ρ hi=.int .i64 h)
  (hb:0≤h∧h≤(cap:Int)):OpV P (.slice ts x none (some hi) none) ty ρ w (.slice (some ⟨b,o,none⟩) h.toNat cap):=by
 obtain ⟨H,rfl⟩:=Int.eq_ofNat_of_zero_le hb.1
 have h1:H≤cap:=by omega
 have e:(⟨b,o,none⟩:Addr).add 0=⟨b,o,none⟩:=by simp [Addr.add]
 simp [OpV,execOp,hx,hh,Instr.sliceAt,Instr.slice,Qt ht,Instr.sliceBounds,Instr.sliceBound,asIntOf,h1,hs,e]
theorem Se {lo:Operand} {l:Int} (ht:P.underlying ts=some (.slice el)) (hs : ∀ w,(sizeOf el).run P w=.ok 1 w) (hx:evalE ρ x=.slice (some ⟨b,o,none⟩) len cap) (hl:evalE ρ lo=.int .i64 l)
  (hb:0≤l∧l≤(len:Int)∧l < (cap:Int)):OpV P (.slice ts x (some lo) none none) ty ρ w (.slice (some ⟨b,o+l.toNat,none⟩) (len - l.toNat) (cap - l.toNat)):=by
 obtain ⟨L,rfl⟩:=Int.eq_ofNat_of_zero_le hb.1
 have h1:L≤len:=by omega
 have h2 : ¬cap=L:=by omega
 have e:(⟨b,o,none⟩:Addr).add L=⟨b,o+L,none⟩:=by
  unfold Addr.add;split
  ·simp_all
  ·rfl
 simp [OpV,execOp,hx,hl,Instr.sliceAt,Instr.slice,Qt ht,Instr.sliceBounds,Instr.sliceBound,asIntOf,h1,hs,e,h2]
end
def CapOk (v:Value):Prop:=∃ a l c,v=.slice a l c∧l≤c
section
open Go.ChangeShapes Go.WideShapes Go.ChangeAt Go.RowKit Go.Deep
theorem read_cap {P:Program} {t e:TypeId} {H:Type} {enc:TypeId × Value→H} {w:World} {r:Reach} {b0 base:Nat} {sp:Nat→Bool} {held:Bool} {v:Value} {d:DataW H} {ps:List MemPlace}
  (ht:P.underlying t=some (.slice e)) (hval:Value.okWide P w r b0 t v) (hd:DataW.Trod enc P w base sp held t v d ps):CapOk v:=by
 obtain ⟨a,len,cap,rfl⟩:=okWide_slice ht hval
 obtain ⟨fuel,hf⟩:=hd
 refine ⟨a,len,cap,rfl,?_⟩
 rcases open_slice ht hf with ⟨h1,_⟩ | ⟨a',len',cap',m,n,D,Pl,h1,hb,hl,hm,hmm,_,hx⟩
 ·simp [Value.cells] at h1;omega
 ·simp [Value.cells] at h1;omega
end
theorem ESl.take {α : Type} {E:World→Value→α→Prop} {w:World} {b o len cap cap':Nat} {xs:List α} (h:ESl E w (.slice (some ⟨b,o,none⟩) len cap) xs) (k:Nat) (hk:k≤len) :
  ESl E w (.slice (some ⟨b,o,none⟩) k cap') (xs.take k):=by
 obtain ⟨a,c,e,hm,hc⟩:=h
 obtain ⟨rfl,rfl,rfl⟩:some (⟨b,o,none⟩:Addr)=a∧len=xs.length∧cap=c:=by simpa using e
 refine ⟨_,_,by rw [List.length_take,Nat.min_eq_left hk],by simp;omega,?_⟩
 rcases hc with rfl | ⟨b',o',e,hc⟩
 ·left;simp
 ·right
  cases e
  refine ⟨b,o,rfl,fun i hi=>?_⟩
  obtain ⟨u,h1,h2⟩:=hc i (by simp at hi;omega)
  exact ⟨u,h1,by simpa using h2⟩
def Texts (m:Nat):List Value→Prop
 | []=>True
 | v::l=>(∃ s:List UInt8,v=str s∧m≤s.length∧s.length≤8)∧Texts m l
theorem Texts.at {m:Nat} : ∀ {cs:List Value} {i:Nat},Texts m cs→i < cs.length→∃ s:List UInt8,cs[i]? = some (str s)∧m≤s.length∧s.length≤8
 | v::l,0,h,_=>by obtain ⟨⟨s,rfl,hs⟩,_⟩:=h;exact ⟨s,rfl,hs⟩
 | v :: l, i + 1, h, hi => by
   obtain ⟨s, h1, h2⟩ := Texts.at h.2 (by simpa using hi)
   exact ⟨s, by simpa using h1, h2⟩
section
variable {P:Program} {n:Nat} {N:Env→World→Prop} {ρ : Env} {w w0:World} {all:Array Oper} {rest:List Oper}
 {d:Nat} {ty tl:TypeId} {pos:String} {after:Array Edge} {g:Option (Nat × Bool)} {x:Operand} {b i:Nat} {cs:List Value}
theorem Ub (m:Nat) (hta : ∀ w,(isAgg tl).run P w=.ok false w) (hw:wantedE all ⟨some d,.load tl x,ty,pos,after,g⟩ ρ = true) (hx:evalE ρ x=.pointer (some ⟨b,i,none⟩))
  (hB:Blk w b cs) (hT:Texts m cs) (hi:i < cs.length) (hk : ∀ s:List UInt8,m≤s.length∧s.length≤8→Wops P n all rest N (upd ρ d (str s)) w) :
  Wops P n all (⟨some d,.load tl x,ty,pos,after,g⟩::rest) N ρ w:=by
 obtain ⟨s,h1,h2⟩:=hT.at hi
 exact Wo hw (Xd hta hx (hB.cell h1)) (hk s h2)
end
section
variable {w w' w0:World} {br b lo m m':Nat} {cs:List Value}
def Rdr (w0 w:World) (br m:Nat):Prop:=Ext w0 w∧w0.heap.size≤br∧br < w.heap.size∧∃ vb bs p,Bytes w0 vb bs∧bs.length≤2000∧Blk w br [vb,.int .i64 (p:Nat)]∧p≤m
theorem Rdr.le (h:Rdr w0 w br m) (hm:m≤m'):Rdr w0 w br m':=by
 obtain ⟨h1,h2,h3,vb,bs,p,h4,h5,h6,h7⟩:=h
 exact ⟨h1,h2,h3,vb,bs,p,h4,h5,h6,by omega⟩
theorem Rdr.lt (h:Rdr w0 w br m):br < w.heap.size:=h.2.2.1
theorem Rdr.ge (h:Rdr w0 w br m):w0.heap.size≤br:=h.2.1
theorem Rdr.old (h:Rdr w0 w br m):Ext w0 w:=h.1
theorem Rdr.J (h:Rdr w0 w br m) (e:Ext w w'):Rdr w0 w' br m:=by
 obtain ⟨h1,h2,h3,vb,bs,p,h4,h5,h6,h7⟩:=h
 exact ⟨h1.trans e,h2,Nat.lt_of_lt_of_le h3 e.size,vb,bs,p,h4,h5,h6.J e,h7⟩
theorem Rdr.W (h:Rdr w0 w br m) (e:Ext w0 w') (k:w'.heap[br]? = w.heap[br]?) (hs:w'.heap.size=w.heap.size):Rdr w0 w' br m:=by
 obtain ⟨h1,h2,h3,vb,bs,p,h4,h5,h6,h7⟩:=h
 exact ⟨e,h2,by rw [hs];exact h3,vb,bs,p,h4,h5,h6.Y k,h7⟩
theorem Blk.G {row:Option Nat} (h:Blk w b cs) (g:w.grownBy w' row) (hne:some b≠row):Blk w' b cs:=h.Y (g.block b h.lt hne)
theorem Ru (w:World) (row:Option Nat):w.grownBy w row:=⟨rfl,rfl,rfl,Nat.le_refl _,fun _ _ _=>rfl⟩
theorem Ye {w1 w2 w3:World} {row:Option Nat} (h:w1.grownBy w2 row) (k:w2.grownBy w3 row):w1.grownBy w3 row :=
 ⟨k.os.trans h.os,k.tape.trans h.tape,k.output.trans h.output,Nat.le_trans h.size k.size,fun i hi hr=>(k.block i (Nat.lt_of_lt_of_le hi h.size) hr).trans (h.block i hi hr)⟩
theorem Ext.grownBy (e:Ext w w') (row:Option Nat):w.grownBy w' row:=⟨e.os,e.tape,e.output,e.size,fun i hi _=>e.block i hi⟩
theorem Yf {w1:World} {row:Option Nat} (h:w1.grownBy w row) (e:Ext w w'):w1.grownBy w' row:=Ye h (e.grownBy row)
theorem Keep.ofGrown (g:w.grownBy w' (some br)) (h:br < lo):Keep lo w w':=fun k h1 h2=>g.block k h2 (by simp;omega)
theorem Above.G {α : Type} {E:World→Value→α→Prop} {v:Value} {x : α} (h:Above lo E w v x) (g:w.grownBy w' (some br)) (hl:br < lo):Above lo E w' v x:=h.keep (Keep.ofGrown g hl) g.size
theorem Yw {w1:World} {row:Option Nat} (h:w1.grownBy w row) (e0:Ext w0 w) (e:Ext w0 w') (K : ∀ k,k≠b→w'.heap[k]? = w.heap[k]?) (hz:w'.heap.size=w.heap.size) (hb:w1.heap.size≤b∨row=some b):w1.grownBy w' row :=
 ⟨by rw [e.os,← e0.os,h.os],by rw [e.tape,← e0.tape,h.tape],by rw [e.output,← e0.output,h.output],by rw [hz];exact h.size,fun k hk hr=>by
  have hkb:k≠b:=by
   rintro rfl
   rcases hb with hb | hb
   ·omega
   ·exact hr hb.symm
  rw [K k hkb];exact h.block k hk hr⟩
def RetD {β : Type} (w0 w:World) (br m:Nat) (val : β→Value) (p : β→World→Prop):Value→World→Prop:=fun v w'=>∃ y,v=val y∧w.grownBy w' (some br)∧Rdr w0 w' br m∧p y w'
end
section
variable {P:Program} {n:Nat} {N:Env→World→Prop} {ρ : Env} {w w0:World} {all:Array Oper} {rest:List Oper} {M:Env→Prop}
 {d d2:Nat} {ty ty2 t el tl:TypeId} {pos pos2:String} {after after2:Array Edge} {g g2:Option (Nat × Bool)} {x y:Operand} {k:Nat} {xs:List UInt8}
theorem Wo_getB_z (ht:P.underlying t=some (.slice el)) (hs : ∀ w,(sizeOf el).run P w=.ok 1 w) (hta : ∀ w,(isAgg tl).run P w=.ok false w)
  (hw:wantedE all ⟨some d,.indexAddr t x y,ty,pos,after,g⟩ ρ = true)
  (hw2 : ∀ v,wantedE all ⟨some d2,.load tl (.tmp d),ty2,pos2,after2,g2⟩ (upd ρ d v)=true)
  {v:Value} (hx:evalE ρ x=v) (hR:Bytes w0 v xs) (hE:Ext w0 w) {z:Int} (hy:evalE ρ y=.int .i64 z) (hk:0≤z∧z.toNat < xs.length)
  (hk' : ∀ ad (u:Nat),u=xs[z.toNat].toNat→u < 256→Wops P n all rest N (upd (upd ρ d (.pointer (some ad))) d2 (.int .u8 (u:Int))) w) :
  Wops P n all (⟨some d,.indexAddr t x y,ty,pos,after,g⟩::⟨some d2,.load tl (.tmp d),ty2,pos2,after2,g2⟩::rest) N ρ w :=
 Ry ht hs hta hw hw2 hx hR hE hy hk (fun ad u hu=>by obtain rfl:=hu;exact hk' ad _ rfl (UInt8.toNat_lt _))
theorem Wq_getB_z (ht:P.underlying t=some (.slice el)) (hs : ∀ w,(sizeOf el).run P w=.ok 1 w) (hta : ∀ w,(isAgg tl).run P w=.ok false w)
  (hw:wantedE all ⟨some d,.indexAddr t x y,ty,pos,after,g⟩ ρ = true)
  (hw2 : ∀ v,wantedE all ⟨some d2,.load tl (.tmp d),ty2,pos2,after2,g2⟩ (upd ρ d v)=true)
  {v:Value} (hx:evalE ρ x=v) (hR:Bytes w0 v xs) (hE:Ext w0 w) {z:Int} (hy:evalE ρ y=.int .i64 z) (hk:0≤z∧z.toNat < xs.length)
  (hk' : ∀ ad (u:Nat),u=xs[z.toNat].toNat→u < 256→Wq P n all w rest M (upd (upd ρ d (.pointer (some ad))) d2 (.int .u8 (u:Int)))) :
  Wq P n all w (⟨some d,.indexAddr t x y,ty,pos,after,g⟩::⟨some d2,.load tl (.tmp d),ty2,pos2,after2,g2⟩::rest) M ρ :=
 Nc ht hs hta hw hw2 hx hR hE hy hk (fun ad u hu=>by obtain rfl:=hu;exact hk' ad _ rfl (UInt8.toNat_lt _))
end
attribute [irreducible] Wh
end Go.Hs
set_option linter.unusedVariables false
namespace Go
variable {H:Type} {enc:TypeId × Value→H}
end Go
set_option linter.unusedVariables false
namespace Go.Hs
open Go.RowKit (Below)
structure Only (fp:List Nat) (w w':World):Prop where
 os:w'.os=w.os
 tape:w'.tape=w.tape
 output:w'.output=w.output
 size:w.heap.size≤w'.heap.size
 block : ∀ k,k ∉ fp→k < w.heap.size→w'.heap[k]? = w.heap[k]?
section
variable {w w' w'' w0:World} {fp fq:List Nat} {lo:Nat}
theorem Only.refl:Only fp w w:=⟨rfl,rfl,rfl,Nat.le_refl _,fun _ _ _=>rfl⟩
theorem Only.trans (h:Only fp w w') (k:Only fp w' w''):Only fp w w'' :=
 ⟨k.os.trans h.os,k.tape.trans h.tape,k.output.trans h.output,Nat.le_trans h.size k.size,fun i h1 h2=>(k.block i h1 (Nat.lt_of_lt_of_le h2 h.size)).trans (h.block i h1 h2)⟩
theorem Only.J (h:Only fp w w') (e:Ext w0 w) (hf : ∀ k ∈ fp,w0.heap.size≤k):Ext w0 w' :=
 ⟨h.os.trans e.os,h.tape.trans e.tape,h.output.trans e.output,Nat.le_trans e.size h.size,fun k hk=>(h.block k (fun hm=>by have:=hf k hm;omega) (Nat.lt_of_lt_of_le hk e.size)).trans (e.block k hk)⟩
theorem Only.grownBy {ob:Option Nat} (h:w.grownBy w' ob) (hf : ∀ k,ob=some k→k ∈ fp):Only fp w w' :=
 ⟨h.os,h.tape,h.output,h.size,fun k h1 h2=>h.block k h2 (fun e=>h1 (hf k e.symm))⟩
theorem Only.setCell {b:Nat} {i:Nat} {v:Value} (hb:b ∈ fp):Only fp w (w.setCell ⟨b,i,none⟩ v) :=
 ⟨rfl,rfl,rfl,by rw [size_setCell];exact Nat.le_refl _,fun k h1 _=>heap_setCell_other v (fun e=>h1 (by simp only at e;rw [e];exact hb))⟩
end
theorem add_mk (b o j:Nat):(⟨b,o,none⟩:Addr).add j=⟨b,o+j,none⟩:=by
 unfold Addr.add;split
 ·simp_all
 ·rfl
class Loc {α : Type} (X:World→List Nat→Value→α→Prop):Prop where
 loc : ∀ {w w':World} {fp:List Nat} {v:Value} {x : α},(∀ k ∈ fp,w'.heap[k]? = w.heap[k]?)→X w fp v x→X w' fp v x
 lt : ∀ {w:World} {fp:List Nat} {v:Value} {x : α},X w fp v x→∀ k ∈ fp,k < w.heap.size
 cell : ∀ {w:World} {fp:List Nat} {v:Value} {x : α},X w fp v x→isCell v=true
class Shows {α : Type} (X:World→List Nat→Value→α→Prop) (E:outParam (World→Value→α→Prop)):Prop where
 shows : ∀ {w:World} {fp:List Nat} {v:Value} {x : α},X w fp v x→E w v x
def XInt:World→List Nat→Value→Int→Prop:=fun _ fp v x=>fp=[]∧v=.int .i64 x
def XBool:World→List Nat→Value→Bool→Prop:=fun _ fp v x=>fp=[]∧v=.bool x
def XStr:World→List Nat→Value→List UInt8→Prop:=fun _ fp v x=>fp=[]∧v=.string ⟨x.toArray⟩∧x.length≤9223372036854775807
instance:Loc XInt:=⟨fun _ h=>h,(fun h k hk=>by rw [h.1] at hk;cases hk),fun h=>by rw [h.2];rfl⟩
instance:Loc XBool:=⟨fun _ h=>h,(fun h k hk=>by rw [h.1] at hk;cases hk),fun h=>by rw [h.2];rfl⟩
instance:Loc XStr:=⟨fun _ h=>h,(fun h k hk=>by rw [h.1] at hk;cases hk),fun h=>by rw [h.2.1];rfl⟩
instance:Shows XInt EInt:=⟨fun h=>h.2⟩
instance:Shows XBool EBool:=⟨fun h=>h.2⟩
instance:Shows XStr EStr:=⟨fun h=>h.2⟩
def XAll {α : Type} (X:World→List Nat→Value→α→Prop) (w:World):List (List Nat)→List Value→List α→Prop
 | [],[],[]=>True
 | f::fs,c::cs,x::xs=>X w f c x∧XAll X w fs cs xs
 | _,_,_=>False
section
variable {α : Type} {X:World→List Nat→Value→α→Prop} {w w':World} {fs fs':List (List Nat)} {cs cs':List Value} {xs xs':List α}
theorem XAll.len : ∀ {fs:List (List Nat)} {cs:List Value} {xs:List α},XAll X w fs cs xs→fs.length=xs.length∧cs.length=xs.length
 | [],[],[],_=>⟨rfl,rfl⟩
 | f::fs,c::cs,x::xs,h=>by have:=XAll.len h.2;simp;omega
 | [],_::_,_,h=>h.elim
 | [],[],_::_,h=>h.elim
 | _::_,[],_,h=>h.elim
 | _::_,_::_,[],h=>h.elim
theorem XAll.append : ∀ {fs:List (List Nat)} {cs:List Value} {xs:List α},XAll X w fs cs xs→XAll X w fs' cs' xs'→XAll X w (fs++fs') (cs++cs') (xs++xs')
 | [],[],[],_,k=>k
 | f::fs,c::cs,x::xs,h,k=>⟨h.1,XAll.append h.2 k⟩
 | [],_::_,_,h,_=>h.elim
 | [],[],_::_,h,_=>h.elim
 | _::_,[],_,h,_=>h.elim
 | _::_,_::_,[],h,_=>h.elim
theorem XAll.at : ∀ {fs:List (List Nat)} {cs:List Value} {xs:List α} {i:Nat},XAll X w fs cs xs→(hi:i < xs.length)→∃ f c,fs[i]? = some f∧cs[i]? = some c∧X w f c xs[i]
 | f::fs,c::cs,x::xs,0,h,_=>⟨f,c,rfl,rfl,h.1⟩
 | f :: fs, c :: cs, x :: xs, i + 1, h, hi => by
   obtain ⟨f', c', h1, h2, h3⟩ := XAll.at h.2 (i := i) (by simpa using hi)
   exact ⟨f', c', by simpa using h1, by simpa using h2, by simpa using h3⟩
 | [],[],[],_,_,hi=>by simp at hi
 | [],_::_,_,_,h,_=>h.elim
 | [],[],_::_,_,h,_=>h.elim
 | _::_,[],_,_,h,_=>h.elim
 | _::_,_::_,[],_,h,_=>h.elim
theorem XAll.loc [Loc X] : ∀ {fs:List (List Nat)} {cs:List Value} {xs:List α},(∀ k ∈ fs.flatten,w'.heap[k]? = w.heap[k]?)→XAll X w fs cs xs→XAll X w' fs cs xs
 | [],[],[],_,_=>trivial
 | f::fs,c::cs,x::xs,hk,h=>⟨Loc.loc (fun k hm=>hk k (by simp [hm])) h.1,XAll.loc (fun k hm=>hk k (by simp only [List.flatten_cons,List.mem_append];exact .inr hm)) h.2⟩
 | [],_::_,_,_,h=>h.elim
 | [],[],_::_,_,h=>h.elim
 | _::_,[],_,_,h=>h.elim
 | _::_,_::_,[],_,h=>h.elim
theorem XAll.lt [Loc X] : ∀ {fs:List (List Nat)} {cs:List Value} {xs:List α},XAll X w fs cs xs→∀ k ∈ fs.flatten,k < w.heap.size
 | [],[],[],_,k,hk=>by cases hk
 | f :: fs, c :: cs, x :: xs, h, k, hk => by
   simp only [List.flatten_cons, List.mem_append] at hk
   rcases hk with hk | hk
   · exact Loc.lt h.1 k hk
   · exact XAll.lt h.2 k hk
 | [],_::_,_,h,_,_=>h.elim
 | [],[],_::_,h,_,_=>h.elim
 | _::_,[],_,h,_,_=>h.elim
 | _::_,_::_,[],h,_,_=>h.elim
theorem XAll.cells [Loc X] : ∀ {fs:List (List Nat)} {cs:List Value} {xs:List α},XAll X w fs cs xs→∀ u ∈ cs,isCell u=true
 | [],[],[],_,u,hu=>by cases hu
 | f :: fs, c :: cs, x :: xs, h, u, hu => by
   rcases List.mem_cons.1 hu with rfl | hu
   · exact Loc.cell h.1
   · exact XAll.cells h.2 u hu
 | [],_::_,_,h,_,_=>h.elim
 | [],[],_::_,h,_,_=>h.elim
 | _::_,[],_,h,_,_=>h.elim
 | _::_,_::_,[],h,_,_=>h.elim
theorem XAll.turned [Loc X] : ∀ {fs:List (List Nat)} {cs:List Value} {xs:List α} {i:Nat} {f:List Nat} {u:Value} {x : α},XAll X w fs cs xs→i < xs.length→X w' f u x →
  (∀ (j:Nat) g,j≠i→fs[j]? = some g→∀ k ∈ g,w'.heap[k]? = w.heap[k]?)→XAll X w' (fs.set i f) (cs.set i u) (xs.set i x)
 | g :: fs, c :: cs, x :: xs, 0, f, u, y, h, _, hx, hk => by
   refine ⟨hx, XAll.loc (fun k hm => ?_) h.2⟩
   obtain ⟨g', hg, hm⟩ := List.mem_flatten.1 hm
   obtain ⟨j, hj, rfl⟩ := List.mem_iff_getElem.1 hg
   exact hk (j + 1) _ (by omega) (by simp [hj]) k hm
 | g :: fs, c :: cs, x :: xs, i + 1, f, u, y, h, hi, hx, hk =>
   ⟨Loc.loc (hk 0 g (by omega) rfl) h.1, XAll.turned h.2 (by simpa using hi) hx (fun j g' hj hg => hk (j + 1) g' (by omega) (by simpa using hg))⟩
 | [],[],[],_,_,_,_,_,hi,_,_=>by simp at hi
 | [],_::_,_,_,_,_,_,h,_,_,_=>h.elim
 | [],[],_::_,_,_,_,_,h,_,_,_=>h.elim
 | _::_,[],_,_,_,_,_,h,_,_,_=>h.elim
 | _::_,_::_,[],_,_,_,_,h,_,_,_=>h.elim
end
def XSl {α : Type} (e:TypeId) (X:World→List Nat→Value→α→Prop) (w:World) (fp:List Nat) (v:Value) (xs:List α):Prop :=
 ∃ cs fps,w.ownsRow 0 e 1 v xs.length cs∧fp=v.ownBlock.toList++fps.flatten∧XAll X w fps cs xs
section
variable {α : Type} {X:World→List Nat→Value→α→Prop} {w w':World} {fp:List Nat} {v:Value} {xs:List α} {e:TypeId}
theorem Nt {n:Nat} {cs:List Value} (hk : ∀ k,v.ownBlock=some k→w'.heap[k]? = w.heap[k]?) (h:w.ownsRow 0 e 1 v n cs):w'.ownsRow 0 e 1 v n cs:=by
 refine ⟨h.1,?_⟩
 rcases h.2 with hn | ⟨g,cap,cur,rfl,hb,hg,rest⟩
 ·exact .inl hn
 ·exact .inr ⟨g,cap,cur,rfl,hb,by rw [hk g rfl];exact hg,rest⟩
instance loc_XSl [Loc X]:Loc (XSl e X):=⟨by
  rintro w w' fp v xs hk ⟨cs,fps,h1,rfl,h3⟩
  exact ⟨cs,fps,Nt (fun k e=>hk k (by simp [e])) h1,rfl,h3.loc (fun k hm=>hk k (by simp only [List.mem_append];exact .inr hm))⟩,by
  rintro w fp v xs ⟨cs,fps,h1,rfl,h3⟩ k hk
  rcases List.mem_append.1 hk with hk | hk
  ·exact (h1.lt k (by simpa using hk)).2
  ·exact h3.lt k hk,by
  rintro w fp v xs ⟨cs,fps,h1,rfl,h3⟩
  rcases h1.2 with ⟨rfl,_⟩ | ⟨g,cap,cur,rfl,_⟩ <;> rfl⟩
instance shows_XSl {E:World→Value→α→Prop} [Shows X E]:Shows (XSl e X) (ESl E):=⟨by
  rintro w fp v xs ⟨cs,fps,h1,rfl,h3⟩
  have hl:=h3.len
  rcases h1.2 with ⟨rfl,h0⟩ | ⟨g,cap,cur,rfl,hb,hg,hnc,hcm,hcs,ht⟩
  ·have:xs=[]:=List.eq_nil_of_length_eq_zero h0
   subst this
   exact ⟨none,0,rfl,RSl.nil⟩
  ·refine ⟨_,_,rfl,by unfold maxLen at hcm;omega,.inr ⟨g,0,rfl,fun i hi=>?_⟩⟩
   obtain ⟨f,c,h4,h5,h6⟩:=h3.at hi
   refine ⟨c,?_,Shows.shows h6⟩
   have:=h1.cells (g:=g) rfl i c h5
   rw [add_mk] at this
   exact this⟩
end
def Owned {α : Type} (lo:Nat) (X:World→List Nat→Value→α→Prop) (w:World) (v:Value) (x : α):Prop :=
 ∃ fp:List Nat,fp.Nodup∧(∀ k ∈ fp,lo≤k)∧X w fp v x
def OwnedB {α : Type} (lo hi:Nat) (X:World→List Nat→Value→α→Prop) (w:World) (v:Value) (x : α):Prop :=
 ∃ fp:List Nat,fp.Nodup∧(∀ k ∈ fp,lo≤k∧k < hi)∧X w fp v x
def RetO {α : Type} (w:World) (X:World→List Nat→Value→α→Prop) (x : α):Value→World→Prop:=fun v w'=>Ext w w'∧Owned w.heap.size X w' v x
section
variable {α : Type} {X:World→List Nat→Value→α→Prop} {E:World→Value→α→Prop} {w w' w0 wb:World} {fp:List Nat} {v u:Value} {x y : α} {xs ys:List α} {e:TypeId} {lo lo':Nat}
theorem Owned.keep [Loc X] (h:Owned lo X w v x) (k:Keep lo w w'):Owned lo X w' v x:=by
 obtain ⟨fp,h1,h2,h3⟩:=h
 exact ⟨fp,h1,h2,Loc.loc (fun i hi=>k i (h2 i hi) (Loc.lt h3 i hi)) h3⟩
theorem Owned.J [Loc X] (h:Owned lo X w v x) (k:Ext w w'):Owned lo X w' v x:=h.keep k.keep
theorem Owned.mono (h:Owned lo X w v x) (hl:lo'≤lo):Owned lo' X w v x:=by
 obtain ⟨fp,h1,h2,h3⟩:=h
 exact ⟨fp,h1,fun k hk=>Nat.le_trans hl (h2 k hk),h3⟩
theorem Owned.above [Loc X] [Shows X E] (h:Owned lo X w v x):Above lo E w v x:=fun w1 k _=>by
 obtain ⟨fp,h1,h2,h3⟩:=h.keep k
 exact Shows.shows h3
theorem Owned.O [Loc X] [Shows X E] (h:Owned lo X w v x):E w v x:=h.above.here
theorem Owned.toB [Loc X] (h:Owned lo X w v x):OwnedB lo w.heap.size X w v x:=by
 obtain ⟨fp,h1,h2,h3⟩:=h
 exact ⟨fp,h1,fun k hk=>⟨h2 k hk,Loc.lt h3 k hk⟩,h3⟩
theorem OwnedB.o {hi:Nat} (h:OwnedB lo hi X w v x):Owned lo X w v x:=by
 obtain ⟨fp,h1,h2,h3⟩:=h
 exact ⟨fp,h1,fun k hk=>(h2 k hk).1,h3⟩
theorem OwnedB.J [Loc X] {hi:Nat} (h:OwnedB lo hi X w v x) (e:Ext w w'):OwnedB lo hi X w' v x:=by
 obtain ⟨fp,h1,h2,h3⟩:=h
 exact ⟨fp,h1,h2,Loc.loc (fun k hk=>e.block k (Loc.lt h3 k hk)) h3⟩
theorem OwnedB.W [Loc X] {hi b:Nat} (h:OwnedB lo hi X w v x) (K : ∀ k,k≠b→w'.heap[k]? = w.heap[k]?) (hb:b < lo∨hi≤b):OwnedB lo hi X w' v x:=by
 obtain ⟨fp,h1,h2,h3⟩:=h
 exact ⟨fp,h1,h2,Loc.loc (fun k hk=>K k (by have:=h2 k hk;omega)) h3⟩
theorem OwnedB.O [Loc X] [Shows X E] {hi:Nat} (h:OwnedB lo hi X w v x):E w v x:=h.o.O
theorem OwnedB.above [Loc X] [Shows X E] {hi:Nat} (h:OwnedB lo hi X w v x):Above lo E w v x:=h.o.above
instance mono_OwnedB [Loc X] {hi:Nat} : Mono (OwnedB lo hi X):=⟨fun e h=>h.J e⟩
instance mono_Owned [Loc X]:Mono (Owned lo X):=⟨fun e h=>h.J e⟩
theorem Owned.nil:Owned lo (XSl e X) w (.slice none 0 0) []:=⟨[],List.nodup_nil,(fun _ h=>by cases h),[],[],World.ownsRow_nil w 0 e 1,rfl,trivial⟩
theorem XAll.rep {z:Value} {x : α} (n:Nat) (hx:X w [] z x):XAll X w (List.replicate n []) (List.replicate n z) (List.replicate n x):=by
 induction n with
 | zero=>trivial
 | succ n ih=>exact ⟨hx,ih⟩
theorem ownsRow_block {b:Nat} {cs:List Value} (hb:w.heap[b]? = some (.cells cs.toArray e (0,0))) (hm:cs.length≤maxLen) :
  w.ownsRow 0 e 1 (.slice (some ⟨b,0,none⟩) cs.length cs.length) cs.length cs :=
 ⟨by simp,.inr ⟨b,cs.length,cs.toArray,rfl,Nat.zero_le _,hb,Nat.le_refl _,hm,by simp,by simp⟩⟩
theorem Owned.block {b n:Nat} {cs:List Value} (hb:w.heap[b]? = some (.cells cs.toArray e (0,0))) (hl:lo≤b) (hn:cs.length=n) (hm:n≤maxLen) (hx:XAll X w (List.replicate n []) cs xs) :
  Owned lo (XSl e X) w (.slice (some ⟨b,0,none⟩) n n) xs:=by
 subst hn
 have hlen:=hx.len
 refine ⟨[b],List.nodup_cons.2 ⟨by simp,List.nodup_nil⟩,fun k hk=>by simp at hk;omega,cs,List.replicate cs.length [],?_,?_,hx⟩
 ·rw [← hlen.2];exact ownsRow_block hb hm
 ·have:(List.replicate cs.length ([]:List Nat)).flatten=[]:=by
   generalize cs.length=n
   induction n with
   | zero=>rfl
   | succ n ih=>rw [List.replicate_succ,List.flatten_cons,ih];rfl
  rw [this];rfl
theorem Owned.made {b n:Nat} {z:Value} (hb:w.heap[b]? = some (.cells (List.replicate n z).toArray e (0,0))) (hl:lo≤b) (hm:n≤maxLen) (hx:X w [] z x) :
  Owned lo (XSl e X) w (.slice (some ⟨b,0,none⟩) n n) (List.replicate n x):=by
 exact Owned.block hb hl (by simp) hm (XAll.rep n hx)
end
section
variable {P:Program} {w:World} {lo:Nat} {t ty e:TypeId} {i:TypeInfo} {z:Value} {v:Value} {n:Nat} {cs:List Value}
theorem oneCell_of {u:Value} (h:isCell u=true):u.oneCell'=true:=by cases u <;> first | rfl | cases h
theorem run_app (ht:P.underlying t=some (.slice e)) (hi:P.info? e=some i) (hz:i.zero=some z) (hs:i.size=1) (hby:i.bytes≤64) (hz1:isCell z=true)
  (hown:w.ownsRow lo e 1 v n cs) (a:Addr) (m c:Nat) (news:List Value) (hl:news.length=m) (hnews : ∀ j u,news[j]? = some u→w.cell? (a.add j)=some u) (h1 : ∀ u ∈ news,isCell u=true)
  (hbig:n+m≤1099511627776) (hlo:lo≤w.heap.size) :
  ∃ v' w',(Builtin.append_ #[t,t] ty #[v,.slice (some a) m c]).run P w=.ok v' w'∧w'.ownsRow lo e 1 v' (n+m) (cs++news)∧w.grownBy w' v.ownBlock ∧
   (v'.ownBlock=v.ownBlock∨∃ g,v'.ownBlock=some g∧w.heap.size≤g):=by
 have h1' : ∀ u ∈ news,u.oneCell'=true:=fun u hu=>oneCell_of (h1 u hu)
 have hzs:z.cells.size=1:=by rw [Sz hz1];rfl
 have hmul:(n+m)*i.bytes≤140737488355328:=by
  have:=Nat.mul_le_mul hbig hby
  omega
 obtain ⟨v',w',hr,h2,h3,h4⟩:=run_append_own (P:=P) w lo t ty e i z 1 i.bytes ht hi hz hs rfl hzs (by omega) v n cs hown a m c news (by omega) hnews h1' (by unfold maxLen;omega) hmul hlo
 refine ⟨v',w',hr,h2,h3,?_⟩
 have hl':news.length=m*i.size:=by rw [hs];omega
 rcases hown.2 with ⟨rfl,rfl⟩ | ⟨g,cap,cur,rfl,hbg,hg,hnc,hcm,hcs,htake⟩
 ·by_cases hm:m=0
  ·left;rw [h4.2 ⟨rfl,hm⟩]
  ·have hr2:=run_append_nil (P:=P) w t ty e i z ht hi hz a m c news hl' hnews (by omega) (by omega) (by simp only [Nat.zero_add] at hmul;omega)
   rw [hr] at hr2
   injection hr2 with e1 e2
   right;exact ⟨w.heap.size,by rw [e1];rfl,Nat.le_refl _⟩
 ·by_cases hroom:n+m≤cap
  ·obtain ⟨w2,hr2,_⟩:=run_append_fits (P:=P) w lo t ty e i 1 ht hi hs g n cap cs hown a m c news (by omega) hnews h1' hroom
   rw [hr] at hr2
   injection hr2 with e1 e2
   left;rw [e1];rfl
  ·have holds : ∀ j u,cs[j]? = some u→w.cell? ((⟨g,0,none⟩:Addr).add j)=some u:=hown.cells (g:=g) rfl
   have hlc:cs.length=n*i.size:=by rw [hs];exact hown.1
   have hr2:=run_append_grow (P:=P) w t ty e i z ht hi hz ⟨g,0,none⟩ n cap cs hlc holds a m c news hl' hnews (by omega) (by omega) (growslice_fits (by omega) hmul)
   rw [hr] at hr2
   injection hr2 with e1 e2
   right;exact ⟨w.heap.size,by rw [e1];rfl,Nat.le_refl _⟩
end
section
variable {α : Type} {X:World→List Nat→Value→α→Prop} {w wb:World} {v:Value} {xs ys:List α} {e t ty:TypeId} {lo:Nat} {P:Program} {i:TypeInfo} {z:Value}
theorem Owned.app [Loc X] (ht:P.underlying t=some (.slice e)) (hi:P.info? e=some i) (hz:i.zero=some z) (hs:i.size=1) (hby:i.bytes≤64) (hz1:isCell z=true)
  {hi':Nat} (h:OwnedB lo hi' (XSl e X) w v xs) (a:Addr) (m c:Nat) (news:List Value) (fu:List (List Nat)) (hl:news.length=m) (hnews : ∀ j u,news[j]? = some u→w.cell? (a.add j)=some u)
  (hx:XAll X w fu news ys) (hnd:fu.flatten.Nodup) (hlf : ∀ k ∈ fu.flatten,hi'≤k)
  (hbig:xs.length+m≤1099511627776) (hlo:lo≤hi') (hlw:lo≤w.heap.size) :
  ∃ v' w',(Builtin.append_ #[t,t] ty #[v,.slice (some a) m c]).run P w=.ok v' w'∧Owned lo (XSl e X) w' v' (xs++ys)∧w.grownBy w' v.ownBlock ∧
   (v'.ownBlock=v.ownBlock∨∃ g,v'.ownBlock=some g∧w.heap.size≤g):=by
 obtain ⟨fp,hn,hB,hX⟩:=h
 have hge : ∀ k ∈ fp,lo≤k:=fun k hk=>(hB k hk).1
 have hX':=hX
 have hdis' : ∀ k ∈ fu.flatten,k ∉ fp:=fun k hk hm=>by have:=hlf k hk;have:=(hB k hm).2;omega
 obtain ⟨cs,fps,hr,rfl,hA⟩:=hX
 have hys:=hx.len
 obtain ⟨v',w',h1,h2,h3,h4⟩:=run_app (P:=P) (ty:=ty) ht hi hz hs hby hz1 hr a m c news hl hnews hx.cells (by omega) (Nat.zero_le _)
 refine ⟨v',w',h1,?_,h3,h4⟩
 have hlt:=Loc.lt hX'
 have hltu:=hx.lt
 have nin : ∀ k ∈ fps.flatten,some k≠v.ownBlock:=by
  intro k hk e
  have h5:=(List.nodup_append.1 hn).2.2
  exact h5 k (by rw [← e];simp) k hk rfl
 have ninu : ∀ k ∈ fu.flatten,some k≠v.ownBlock:=by
  intro k hk e
  exact hdis' k hk (by rw [← e];simp)
 refine ⟨v'.ownBlock.toList++(fps++fu).flatten,?_,?_,cs++news,fps++fu,?_,rfl,?_⟩
 ·rw [List.flatten_append]
  rw [List.nodup_append] at hn
  have base:(fps.flatten++fu.flatten).Nodup:=List.nodup_append.2 ⟨hn.2.1,hnd,fun a ha b hb hab=>hdis' b hb (by subst hab;exact List.mem_append_right _ ha)⟩
  rcases h4 with h4 | ⟨g,h4,hg⟩
  ·rw [h4]
   refine List.nodup_append.2 ⟨hn.1,base,fun a ha b hb hab=>?_⟩
   subst hab
   rcases List.mem_append.1 hb with hb | hb
   ·exact hn.2.2 a ha a hb rfl
   ·exact hdis' a hb (List.mem_append_left _ ha)
  ·rw [h4]
   refine List.nodup_append.2 ⟨by simp,base,fun a ha b hb hab=>?_⟩
   subst hab
   simp at ha
   subst ha
   rcases List.mem_append.1 hb with hb | hb
   ·have:=hlt a (List.mem_append_right _ hb);omega
   ·have:=hltu a hb;omega
 ·intro k hk
  rw [List.flatten_append] at hk
  rcases List.mem_append.1 hk with hk | hk
  ·rcases h4 with h4 | ⟨g,h4,hg⟩
   ·rw [h4] at hk;exact hge k (List.mem_append_left _ hk)
   ·rw [h4] at hk;simp at hk;omega
  ·rcases List.mem_append.1 hk with hk | hk
   ·exact hge k (List.mem_append_right _ hk)
   ·have:=hlf k hk;omega
 ·have:(xs++ys).length=xs.length+m:=by rw [List.length_append];omega
  rw [this];exact h2
 ·refine XAll.append (hA.loc fun k hk=>?_) (hx.loc fun k hk=>?_)
  ·exact h3.block k (hlt k (List.mem_append_right _ hk)) (nin k hk)
  ·exact h3.block k (hltu k hk) (ninu k hk)
end
class Scal {α : Type} (X:World→List Nat→Value→α→Prop) (E:outParam (World→Value→α→Prop)):Prop where
 give : ∀ {w:World} {v:Value} {x : α},E w v x→X w [] v x
 turn : ∀ {w w':World} {v:Value} {x : α},E w v x→E w' v x
instance:Scal XInt EInt:=⟨fun h=>⟨rfl,h⟩,fun h=>h⟩
instance:Scal XBool EBool:=⟨fun h=>⟨rfl,h⟩,fun h=>h⟩
instance:Scal XStr EStr:=⟨fun h=>⟨rfl,h⟩,fun h=>h⟩
section
variable {α : Type} {X:World→List Nat→Value→α→Prop} {E:World→Value→α→Prop} {w w' w0 wb:World} {v u xv:Value} {x y : α} {xs ys:List α} {e:TypeId} {lo lo':Nat}
theorem Owned.scal [Scal X E] (h:E w v x):Owned lo X w v x:=⟨[],List.nodup_nil,(fun _ h=>by cases h),Scal.give h⟩
theorem Owned.int {n:Int} : Owned lo XInt w (.int .i64 n) n:=Owned.scal (E:=EInt) rfl
theorem Owned.str {s:List UInt8} (h:s.length≤9223372036854775807):Owned lo XStr w (str s) s:=Owned.scal (E:=EStr) ⟨rfl,h⟩
theorem Owned.lt_own (h:Owned lo (XSl e X) w v xs) {k:Nat} (hk:v.ownBlock=some k):lo≤k∧k < w.heap.size:=by
 obtain ⟨fp,h1,h2,cs,fps,h3,rfl,h5⟩:=h
 exact ⟨h2 k (by simp [hk]),(h3.lt k hk).2⟩
theorem Owned.lit (h:Owned lo (XSl e X) w v xs) (hp:0 < xs.length) : ∃ b c,v=.slice (some ⟨b,0,none⟩) xs.length c∧xs.length≤c:=by
 obtain ⟨fp,h1,h2,cs,fps,h3,rfl,h5⟩:=h
 rcases h3.2 with ⟨rfl,h0⟩ | ⟨g,cap,cur,rfl,_,_,hc,_⟩
 ·omega
 ·exact ⟨g,cap,rfl,hc⟩
def Besides {β : Type} (ob:Option Nat) (E:World→Value→β→Prop) (w:World) (v:Value) (x : β):Prop :=
 ∀ w1,(∀ k,ob≠some k→k < w.heap.size→w1.heap[k]? = w.heap[k]?)→w.heap.size≤w1.heap.size→E w1 v x
def Moves (w:World) (v:Value) (w':World) (v':Value):Prop:=w.grownBy w' v.ownBlock∧(v'.ownBlock=v.ownBlock∨∃ g,v'.ownBlock=some g∧w.heap.size≤g)
section
variable {β : Type} {F:World→Value→β→Prop} {z:Value} {q : β} {v':Value}
theorem Besides.here {ob:Option Nat} (h:Besides ob F w z q):F w z q:=h w (fun _ _ _=>rfl) (Nat.le_refl _)
theorem Besides.moves (h:Besides v.ownBlock F w z q) (m:Moves w v w' v'):Besides v'.ownBlock F w' z q:=by
 intro w1 h1 h2
 have hs:=m.1.size
 refine h w1 (fun k hk hlt=>?_) (by omega)
 have e1:w'.heap[k]? = w.heap[k]?:=m.1.block k hlt (fun e=>hk e.symm)
 rw [← e1]
 refine h1 k (fun e=>?_) (by omega)
 rcases m.2 with h4 | ⟨g,h4,hg⟩
 ·rw [h4] at e;exact hk e
 ·rw [h4] at e;cases e;omega
theorem Besides.J {ob:Option Nat} (h:Besides ob F w z q) (e:Ext w w'):Besides ob F w' z q:=fun w1 h1 h2=>by
 have hs:=e.size
 exact h w1 (fun k hk hlt=>by rw [← e.block k hlt];exact h1 k hk (by omega)) (by omega)
theorem OwnedB.moves {γ : Type} {Y:World→List Nat→Value→γ→Prop} [Loc Y] {zs : γ} {lt ht hi:Nat} {e':TypeId} {u:Value} {α':Type} {X':World→List Nat→Value→α'→Prop} {xs':List α'} (h:OwnedB lo hi Y w u zs) (m:Moves w v w' v')
  (k:OwnedB lt ht (XSl e' X') w v xs') (hd:ht≤lo∨hi≤lt):OwnedB lo hi Y w' u zs:=by
 obtain ⟨fp,h1,h2,h3⟩:=h
 refine ⟨fp,h1,h2,Loc.loc (fun i hi'=>m.1.block i (Loc.lt h3 i hi') (fun e=>?_)) h3⟩
 obtain ⟨fq,k1,k2,cs,fps,k3,rfl,k4⟩:=k
 have:=k2 i (by simp [← e])
 have:=h2 i hi'
 omega
theorem Moves.J {lt ht:Nat} {e':TypeId} {α':Type} {X':World→List Nat→Value→α'→Prop} {xs':List α'} (m:Moves w v w' v') (k:OwnedB lt ht (XSl e' X') w v xs') (h:Ext w0 w) (hl:w0.heap.size≤lt):Ext w0 w':=by
 obtain ⟨fq,k1,k2,cs,fps,k3,rfl,k4⟩:=k
 exact ⟨m.1.os.trans h.os,m.1.tape.trans h.tape,m.1.output.trans h.output,Nat.le_trans h.size m.1.size,fun i hi=>(m.1.block i (Nat.lt_of_lt_of_le hi h.size) (fun e=>by have:=k2 i (by simp [← e]);omega)).trans (h.block i hi)⟩
theorem Blk.moves {lt ht b:Nat} {cs:List Value} {e':TypeId} {α':Type} {X':World→List Nat→Value→α'→Prop} {xs':List α'} (h:Blk w b cs) (m:Moves w v w' v') (k:OwnedB lt ht (XSl e' X') w v xs') (hd:ht≤b∨b < lt):Blk w' b cs:=by
 refine h.Y (m.1.block b h.lt (fun e=>?_))
 obtain ⟨fq,k1,k2,cs,fps,k3,rfl,k4⟩:=k
 have:=k2 b (by simp [← e])
 omega
theorem Besides.start (h:Owned lo (XSl e X) wb v xs) (hq:Above wb.heap.size F w z q):Besides v.ownBlock F w z q:=fun w1 h1 h2 =>
 hq w1 (fun k hk hlt=>h1 k (fun e=>by have:=(h.lt_own e).2;omega) hlt) h2
end
end
section
variable {P:Program} {n:Nat} {N:Env→World→Prop} {ρ : Env} {w w0 wb:World} {all:Array Oper} {rest:List Oper}
 {d:Nat} {ty t e:TypeId} {pos:String} {after:Array Edge} {g:Option (Nat × Bool)} {s x y:Operand} {v u xv:Value} {b c lo:Nat} {i:TypeInfo} {z:Value}
 {α : Type} {X:World→List Nat→Value→α→Prop} {E:World→Value→α→Prop} {xs ys:List α} {q : α}
theorem Nz {v : Value} {w' : World} {op : Op} (hw : wantedE all ⟨some d, op, ty, pos, after, g⟩ ρ = true) (hv : (execOp (evalE ρ) ⟨none, op, ty, "", #[], none⟩).run P w = .ok (.value v) w') (hk : Wops P n all rest N (upd ρ d v) w') :
  Wops P n all (⟨some d,op,ty,pos,after,g⟩::rest) N ρ w:=Wo_w hw (by unfold OpW;exact hv) hk
structure El (P:Program) (t e:TypeId) (z:Value):Prop where
 und:P.underlying t=some (.slice e)
 info : ∃ i,P.info? e=some i∧i.zero=some z∧i.size=1∧i.bytes≤64
 zero:isCell z=true
theorem El.of (hu:P.underlying t=some (.slice e)) (h:(P.info? e).map (fun i=>(i.zero,i.size,Nat.ble i.bytes 64))=some (some z,1,true)) (hz:isCell z=true):El P t e z:=by
 refine ⟨hu,?_,hz⟩
 cases hi:P.info? e with
 | none=>rw [hi] at h;cases h
 | some i =>
   rw [hi] at h
   simp only [Option.map_some, Option.some.injEq, Prod.mk.injEq] at h
   exact ⟨i, rfl, h.1, h.2.1, by simpa using h.2.2⟩
theorem Ur [Loc X] (hw:wantedE all ⟨some d,.call { callee:=.builtin .append,args:=#[s,x],argTypes:=#[t,t] },ty,pos,after,g⟩ ρ = true) (hel:El P t e z)
  (hv:evalE ρ s=v) (hx:evalE ρ x=.slice (some ⟨b,0,none⟩) 1 c) (hB:Blk w b [u]) {hi lu:Nat} (h:OwnedB lo hi (XSl e X) w v xs) (hu:Owned lu X w u q) (hlu:hi≤lu)
  (hbig:xs.length+1≤1099511627776) (hlo:lo≤hi) (hlw:lo≤w.heap.size) (h0:Ext w0 w) (hl0:w0.heap.size≤lo)
  (hk : ∀ v' w',Owned lo (XSl e X) w' v' (xs++[q])→Ext w0 w'→Moves w v w' v'→Wops P n all rest N (upd ρ d v') w') :
  Wops P n all (⟨some d,.call { callee:=.builtin .append,args:=#[s,x],argTypes:=#[t,t] },ty,pos,after,g⟩::rest) N ρ w:=by
 obtain ⟨i,hi,hz,hs,hby⟩:=hel.info
 obtain ⟨fu,hn,hge,hX⟩:=hu
 have hcell:w.cell? ⟨b,0,none⟩=some u:=hB.cell rfl
 obtain ⟨v',w',h1,h2,h3,h4⟩:=Owned.app (P:=P) (ty:=ty) (ys:=[q]) hel.und hi hz hs hby hel.zero h ⟨b,0,none⟩ 1 c [u] [fu] rfl (fun j u' hj=>by
  cases j with
  | zero=>simp at hj;subst hj;simpa [Addr.add] using hcell
  | succ j=>simp at hj) ⟨hX,trivial⟩ (by simpa using hn) (by simp only [List.flatten_cons,List.flatten_nil,List.append_nil];intro k hk;exact Nat.le_trans hlu (hge k hk)) hbig hlo hlw
 refine Nz (v:=v') (w':=w') hw ?_ (hk v' w' h2 ((Only.grownBy (fp:=v.ownBlock.toList) h3 (fun k hk=>by simp [hk])).J h0 (fun k hk=>?_)) ⟨h3,h4⟩)
 ·simp only [execOp,resolve,invoke,builtin,Sem.run_bind,Sem.run_pure,Result.andThen_ok,List.map_toArray,List.map_cons,List.map_nil,hv,hx,h1]
 ·have:v.ownBlock=some k:=by simpa using hk
  have:=(h.o.lt_own this).1
  omega
theorem Wo_appS [Loc X] [Scal X E] (hw:wantedE all ⟨some d,.call { callee:=.builtin .append,args:=#[s,x],argTypes:=#[t,t] },ty,pos,after,g⟩ ρ = true) (hel:El P t e z)
  (hv:evalE ρ s=v) (hx:evalE ρ x=xv) (hy:ESl E w xv ys) {hi:Nat} (h:OwnedB lo hi (XSl e X) w v xs)
  (hbig:xs.length+ys.length≤1099511627776) (hlo:lo≤hi) (hlw:lo≤w.heap.size) (h0:Ext w0 w) (hl0:w0.heap.size≤lo)
  (hk : ∀ v' w',Owned lo (XSl e X) w' v' (xs++ys)→Ext w0 w'→Moves w v w' v'→Wops P n all rest N (upd ρ d v') w') :
  Wops P n all (⟨some d,.call { callee:=.builtin .append,args:=#[s,x],argTypes:=#[t,t] },ty,pos,after,g⟩::rest) N ρ w:=by
 obtain ⟨i,hi,hz,hs,hby⟩:=hel.info
 obtain ⟨a,c,rfl,hm,hR⟩:=hy
 have hcells : ∃ ad:Addr,(a=some ad∨(a=none∧ys=[]))∧∃ news:List Value,news.length=ys.length∧(∀ j u,news[j]? = some u→w.cell? (ad.add j)=some u)∧XAll X w (List.replicate ys.length []) news ys:=by
  rcases hR with rfl | ⟨b,o,rfl,hc⟩
  ·cases a with
   | none=>exact ⟨⟨0,0,none⟩,.inr ⟨rfl,rfl⟩,[],rfl,fun j u h=>by simp at h,trivial⟩
   | some ad=>exact ⟨ad,.inl rfl,[],rfl,fun j u h=>by simp at h,trivial⟩
  ·refine ⟨⟨b,o,none⟩,.inl rfl,?_⟩
   clear hk hv hx hm hbig
   induction ys generalizing o with
   | nil=>exact ⟨[],rfl,fun j u h=>by simp at h,trivial⟩
   | cons y ys ih =>
     obtain ⟨u, hu, hE⟩ := hc 0 (by simp)
     obtain ⟨news, h1, h2, h3⟩ := ih (o := o + 1) (fun i hi => by
       obtain ⟨u, h5, h6⟩ := hc (i + 1) (by simpa using hi)
       exact ⟨u, by rw [← h5]; congr 2; omega, by simpa using h6⟩)
     have add := add_mk b
     refine ⟨u :: news, by simp [h1], fun j u' hj => ?_, ⟨Scal.give hE, h3⟩⟩
     cases j with
     | zero => simp at hj; subst hj; rw [add]; simpa using hu
     | succ j =>
       have := h2 j u' (by simpa using hj)
       rw [add] at this ⊢
       rw [← this]; congr 2; omega
 obtain ⟨ad,had,news,hnl,hnews,hXA⟩:=hcells
 have hflat:(List.replicate ys.length ([]:List Nat)).flatten=[]:=by
  generalize ys.length=n
  induction n with
  | zero=>rfl
  | succ n ih=>rw [List.replicate_succ,List.flatten_cons,ih];rfl
 rcases had with rfl | ⟨rfl,rfl⟩
 ·obtain ⟨v',w',h1,h2,h3,h4⟩:=Owned.app (P:=P) (ty:=ty) (ys:=ys) hel.und hi hz hs hby hel.zero h ad ys.length c news (List.replicate ys.length []) hnl hnews hXA (by rw [hflat];exact List.nodup_nil) (by rw [hflat];intro k hk;cases hk) hbig hlo hlw
  refine Nz (v:=v') (w':=w') hw ?_ (hk v' w' h2 ((Only.grownBy (fp:=v.ownBlock.toList) h3 (fun k hk=>by simp [hk])).J h0 (fun k hk=>?_)) ⟨h3,h4⟩)
  ·simp only [execOp,resolve,invoke,builtin,Sem.run_bind,Sem.run_pure,Result.andThen_ok,List.map_toArray,List.map_cons,List.map_nil,hv,hx,h1]
  ·have:v.ownBlock=some k:=by simpa using hk
   have:=(h.o.lt_own this).1
   omega
 ·have h':=h.o
  have hrun:(Builtin.append_ #[t,t] ty #[v,.slice none 0 c]).run P w=.ok v w:=by
   obtain ⟨fp,_,_,cs,fps,h3,_,_⟩:=h'
   rcases h3.2 with ⟨rfl,h0⟩ | ⟨g,cap,cur,rfl,_,_,hnc,_⟩
   ·simp [Builtin.append_,run_underlying hel.und,sizeOf,typeInfo,hi,Builtin.lenOf,Builtin.firstCells]
   ·simp [Builtin.append_,run_underlying hel.und,sizeOf,typeInfo,hi,Builtin.lenOf,Builtin.firstCells,hnc,storeCells]
  refine Nz (v:=v) (w':=w) hw ?_ (hk v w (by simpa using h') h0 ⟨⟨rfl,rfl,rfl,Nat.le_refl _,fun _ _ _=>rfl⟩,.inl rfl⟩)
  simp only [execOp,resolve,invoke,builtin,Sem.run_bind,Sem.run_pure,Result.andThen_ok,List.map_toArray,List.map_cons,List.map_nil,hv,hx,List.length_nil,hrun]
end
set_option linter.unusedVariables false
section
variable {P:Program} {n:Nat} {N:Env→World→Prop} {ρ : Env} {w w0 wb:World} {all:Array Oper} {rest:List Oper}
 {d d2:Nat} {ty ty2 t e e2 tl el':TypeId} {pos pos2:String} {after after2:Array Edge} {g g2:Option (Nat × Bool)} {s x y:Operand} {v u xv:Value} {b c lo i j br cr:Nat} {z:Value} {k:IntKind} {a:Int}
 {α : Type} {X:World→List Nat→Value→α→Prop} {E:World→Value→α→Prop} {xs ys:List α} {q : α}
theorem Wo_make0 (hw:wantedE all ⟨some d,.makeSlice t x x,ty,pos,after,g⟩ ρ = true) (hel:El P t e z) (hx:evalE ρ x=.int k a) (ha:0≤a∧a≤1099511627776)
  (hk : ∀ b w1,w.heap.size≤b→b < w1.heap.size→Ext w w1→w1.heap[b]? = some (.cells (List.replicate a.toNat z).toArray e (0,0))→Wops P n all rest N (upd ρ d (.slice (some ⟨b,0,none⟩) a.toNat a.toNat)) w1) :
  Wops P n all (⟨some d,.makeSlice t x x,ty,pos,after,g⟩::rest) N ρ w:=by
 obtain ⟨i,hi,hz,hs,hby⟩:=hel.info
 have hm:((i.bytes:Int)*a)≤281474976710656:=by
  obtain ⟨A,rfl⟩:=Int.eq_ofNat_of_zero_le ha.1
  have:i.bytes*A≤64*1099511627776:=Nat.mul_le_mul hby (by omega)
  have h2:((i.bytes*A:Nat):Int)≤70368744177664:=by omega
  have h3:((i.bytes*A:Nat):Int)=(i.bytes:Int)*(A:Int):=Int.natCast_mul _ _
  rw [← h3];omega
 have hr:=run_make (P:=P) w t e i z hel.und hi hz k k a a ha.1 (Int.le_refl _) hm (by omega)
 have hc:madeCells z.cells (a.toNat*i.size)=(List.replicate a.toNat z).toArray:=by
  rw [hs,Nat.mul_one,Sz hel.zero]
  apply Array.ext'
  rw [toList_madeCells_one]
 rw [hc] at hr
 refine Nz (v:=.slice (some ⟨w.heap.size,0,none⟩) a.toNat a.toNat) (w':=w.alloc (.cells (List.replicate a.toNat z).toArray e)) hw ?_ (hk _ _ (Nat.le_refl _) (by simp) ((Ext.refl w).alloc _) (heap_alloc_new w _))
 simp only [execOp,Sem.run_bind,Sem.run_pure,Result.andThen_ok,hx,hr]
theorem Wo_make {x0 : α} (hw:wantedE all ⟨some d,.makeSlice t x x,ty,pos,after,g⟩ ρ = true) (hel:El P t e z) {m:Nat} (hx:evalE ρ x=.int k (m:Int)) (ha:m≤1099511627776) (hz : ∀ w,X w [] z x0)
  (hk : ∀ b w1,w.heap.size≤b→b < w1.heap.size→Ext w w1→Owned w.heap.size (XSl e X) w1 (.slice (some ⟨b,0,none⟩) m m) (List.replicate m x0)→Wops P n all rest N (upd ρ d (.slice (some ⟨b,0,none⟩) m m)) w1) :
  Wops P n all (⟨some d,.makeSlice t x x,ty,pos,after,g⟩::rest) N ρ w :=
 Wo_make0 hw hel hx (by omega) fun b w1 h1 h2 h3 h4=>hk b w1 h1 h2 h3 (Owned.made h4 h1 (by unfold maxLen;omega) (hz w1))
theorem Mh (hw:wantedE all ⟨some d,.makeSlice t x x,ty,pos,after,g⟩ ρ = true) (hel:El P t e (.int .i64 0)) {m:Nat} (hx:evalE ρ x=.int k (m:Int)) (ha:m≤1099511627776)
  (hk : ∀ b w1,w.heap.size≤b→b < w1.heap.size→Ext w w1→Owned w.heap.size (XSl e XInt) w1 (.slice (some ⟨b,0,none⟩) m m) (List.replicate m 0)→Wops P n all rest N (upd ρ d (.slice (some ⟨b,0,none⟩) m m)) w1) :
  Wops P n all (⟨some d,.makeSlice t x x,ty,pos,after,g⟩::rest) N ρ w:=Wo_make hw hel hx ha (fun _=>⟨rfl,rfl⟩) hk
theorem int_z {a:Int} (h:0≤a) (hx:evalE ρ x=.int k a):evalE ρ x=.int k (a.toNat:Nat):=by rw [hx,Sx h]
theorem Un (X:World→List Nat→Value→α→Prop) (hw:wantedE all ⟨some d,.buildSlice t 0 #[],ty,pos,after,g⟩ ρ = true) (hel:El P t e z) (hs : ∀ w,(sizeOf e).run P w=.ok 1 w)
  (hk : ∀ b w1,w.heap.size≤b→b < w1.heap.size→Ext w w1→Owned w.heap.size (XSl e X) w1 (.slice (some ⟨b,0,none⟩) 0 0) []→Wops P n all rest N (upd ρ d (.slice (some ⟨b,0,none⟩) 0 0)) w1) :
  Wops P n all (⟨some d,.buildSlice t 0 #[],ty,pos,after,g⟩::rest) N ρ w:=by
 refine Nz (v:=.slice (some ⟨w.heap.size,0,none⟩) 0 0) (w':=w.alloc (.cells [].toArray e)) hw ?_ (hk _ _ (Nat.le_refl _) (by simp) ((Ext.refl w).alloc _)
  (Owned.block (cs:=[]) (xs:=[]) (heap_alloc_new w _) (Nat.le_refl _) rfl (by unfold maxLen;omega) trivial))
 simp [execOp,Instr.buildSlice,Qt hel.und,hs,newRow,show Array.range 0=#[] from rfl,Instr.fill]
theorem flatten_set_nodup {fs:List (List Nat)} {f fi:List Nat} : ∀ {i:Nat},fs.flatten.Nodup→f.Nodup→(∀ k ∈ f,k ∉ fs.flatten)→(fs.set i f).flatten.Nodup∧∀ k ∈ (fs.set i f).flatten,k ∈ f∨k ∈ fs.flatten:=by
 induction fs with
 | nil=>intro i h1 h2 h3;simp
 | cons g fs ih =>
   intro i h1 h2 h3
   rw [List.flatten_cons, List.nodup_append] at h1
   have hf : ∀ k ∈ f, k ∉ fs.flatten := fun k hk hm => h3 k hk (by rw [List.flatten_cons]; exact List.mem_append_right _ hm)
   cases i with
   | zero =>
     simp only [List.set_cons_zero, List.flatten_cons]
     refine ⟨List.nodup_append.2 ⟨h2, h1.2.1, fun a ha b hb hab => hf a ha (by rw [hab]; exact hb)⟩, fun k hk => ?_⟩
     rcases List.mem_append.1 hk with hk | hk
     · exact .inl hk
     · exact .inr (List.mem_append_right _ hk)
   | succ i =>
     obtain ⟨h4, h5⟩ := ih (i := i) h1.2.1 h2 hf
     simp only [List.set_cons_succ, List.flatten_cons]
     refine ⟨List.nodup_append.2 ⟨h1.1, h4, fun a ha b hb hab => ?_⟩, fun k hk => ?_⟩
     · subst hab
       rcases h5 a hb with h6 | h6
       · exact h3 a h6 (by rw [List.flatten_cons]; exact List.mem_append_left _ ha)
       · exact h1.2.2 a ha a h6 rfl
     · rcases List.mem_append.1 hk with hk | hk
       · exact .inr (List.mem_append_left _ hk)
       · rcases h5 k hk with h6 | h6
         · exact .inl h6
         · exact .inr (List.mem_append_right _ h6)
theorem flatten_apart {fs:List (List Nat)} : ∀ {i j k:Nat} {f g:List Nat},fs.flatten.Nodup→fs[i]? = some f→fs[j]? = some g→i≠j→k ∈ f→k ∈ g→False:=by
 induction fs with
 | nil=>intro i j k f g _ h;simp at h
 | cons a fs ih =>
   intro i j k f g hn h1 h2 hne hf hg
   rw [List.flatten_cons, List.nodup_append] at hn
   cases i with
   | zero =>
     cases j with
     | zero => exact hne rfl
     | succ j =>
       simp at h1; subst h1
       exact hn.2.2 k hf k (List.mem_flatten.2 ⟨g, List.mem_of_getElem? (by simpa using h2), hg⟩) rfl
   | succ i =>
     cases j with
     | zero =>
       simp at h2; subst h2
       exact hn.2.2 k hg k (List.mem_flatten.2 ⟨f, List.mem_of_getElem? (by simpa using h1), hf⟩) rfl
     | succ j => exact ih hn.2.1 (by simpa using h1) (by simpa using h2) (by omega) hf hg
theorem Owned.cellAt [Loc X] (h:Owned lo (XSl e X) w (.slice (some ⟨b,0,none⟩) i c) xs) {j:Nat} (hj:j < xs.length) : ∃ u,w.cell? ⟨b,j,none⟩=some u∧w.frozen? ⟨b,j,none⟩=false:=by
 obtain ⟨fp,h1,h2,cs,fps,h3,rfl,h5⟩:=h
 have hl:=h5.len
 have hn:i=xs.length:=by
  rcases h3.2 with ⟨h6,_⟩ | ⟨g,cap,cur,h6,_⟩
  ·cases h6
  ·cases h6;rfl
 subst hn
 refine ⟨cs[j]'(by omega),?_,h3.frozenAt j⟩
 rw [h3.cellAt j (by omega)]
 simp
theorem XInt_flat {w:World} : ∀ {fps:List (List Nat)} {cs:List Value} {xs:List Int},XAll XInt w fps cs xs→fps.flatten=[]
 | [],_,_,_=>rfl
 | f::fs,c::cs,x::xs,h=>by rw [List.flatten_cons,h.1.1,XInt_flat h.2];rfl
 | _::_,[],_,h=>h.elim
 | _::_,_::_,[],h=>h.elim
theorem XI_fp {w:World} {e:TypeId} {fp:List Nat} {v:Value} {xs:List Int} (h:XSl e XInt w fp v xs):fp=v.ownBlock.toList:=by
 obtain ⟨cs,fps,h3,rfl,h5⟩:=h
 rw [XInt_flat h5];simp
theorem OwnedB.set [Loc X] {hi lu:Nat} (h:OwnedB lo hi (XSl e X) w (.slice (some ⟨b,0,none⟩) i c) xs) {j:Nat} (hj:j < xs.length) (hu:Owned lu X w u q) (hlu:hi≤lu) (hlo:lo≤hi) :
  Owned lo (XSl e X) (w.setCell ⟨b,j,none⟩ u) (.slice (some ⟨b,0,none⟩) i c) (xs.set j q):=by
 obtain ⟨fp,h1,hB,hX⟩:=h
 have h2 : ∀ k ∈ fp,lo≤k:=fun k hk=>(hB k hk).1
 have hltb : ∀ k ∈ fp,k < hi:=fun k hk=>(hB k hk).2
 obtain ⟨fu,n1,n2',hXu⟩:=hu
 have n2 : ∀ k ∈ fu,hi≤k:=fun k hk=>Nat.le_trans hlu (n2' k hk)
 obtain ⟨cs,fps,h3,rfl,h5⟩:=hX
 have hl:=h5.len
 have hn:i=xs.length:=by
  rcases h3.2 with ⟨h6,_⟩ | ⟨g,cap,cur,h6,_⟩
  ·cases h6
  ·cases h6;rfl
 subst hn
 have hst:=h3.stored j u
 have h1':(b::fps.flatten).Nodup:=h1
 rw [List.nodup_cons] at h1'
 have hdis : ∀ k ∈ fu,k ∉ fps.flatten:=fun k hk hm=>by
  have:=n2 k hk;have:=hltb k (List.mem_append_right _ hm);omega
 have hbu:b ∉ fu:=fun hm=>by
  have:=n2 b hm;have:=hltb b (by simp [Value.ownBlock]);omega
 obtain ⟨h6,h7⟩:=flatten_set_nodup (i:=j) (fi:=[]) h1'.2 n1 hdis
 refine ⟨b::(fps.set j fu).flatten,List.nodup_cons.2 ⟨fun hm=>?_,h6⟩,fun k hk=>?_,cs.set j u,fps.set j fu,by simpa using hst.1,rfl,?_⟩
 ·rcases h7 b hm with h8 | h8
  ·exact hbu h8
  ·exact h1'.1 h8
 ·rcases List.mem_cons.1 hk with rfl | hk
  ·exact h2 k (by simp [Value.ownBlock])
  ·rcases h7 k hk with h8 | h8
   ·have:=n2 k h8;omega
   ·exact h2 k (List.mem_append_right _ h8)
 ·refine h5.turned hj (Loc.loc (fun k hk=>heap_setCell_other u (fun e=>hbu (by simp only at e;rw [← e];exact hk))) hXu) (fun m g' hm hg k hk=>heap_setCell_other u (fun e=>h1'.1 ?_))
  simp only at e
  rw [← e]
  exact List.mem_flatten.2 ⟨g',List.mem_of_getElem? hg,hk⟩
theorem Wo_set [Loc X] (hw:wantedE all ⟨none,.store t x y,ty,pos,after,g⟩ ρ = true) (ht : ∀ w,(sizeOf t).run P w=.ok 1 w) (hx:evalE ρ x=.pointer (some ⟨b,0+j,none⟩)) (hy:evalE ρ y=u)
  {hi lu:Nat} (h:OwnedB lo hi (XSl e X) w (.slice (some ⟨b,0,none⟩) i c) xs) (hj:j < xs.length) (hu:Owned lu X w u q) (hlu:hi≤lu) (hlo:lo≤hi)
  (hk : ∀ w1,Owned lo (XSl e X) w1 (.slice (some ⟨b,0,none⟩) i c) (xs.set j q)→Only [b] w w1→(∀ k,k≠b→w1.heap[k]? = w.heap[k]?)→w1.heap.size=w.heap.size→Wops P n all rest N ρ w1) :
  Wops P n all (⟨none,.store t x y,ty,pos,after,g⟩::rest) N ρ w:=by
 rw [Nat.zero_add] at hx
 obtain ⟨u0,h1,h2⟩:=h.o.cellAt hj
 have hc:isCell u=true:=by obtain ⟨_,_,_,h3⟩:=hu;exact Loc.cell h3
 exact Lc hw (ops_store ht hx hy hc h1 h2) (hk _ (h.set hj hu hlu hlo) (Only.setCell (List.mem_singleton.2 rfl)) (fun k h3=>heap_setCell_other u h3) (size_setCell _ _))
def RowAt (w:World) (v:Value) (i br n cr:Nat):Prop:=∃ b m c,v=.slice (some ⟨b,0,none⟩) m c∧br≠b∧w.cell? ⟨b,i,none⟩=some (.slice (some ⟨br,0,none⟩) n cr)
theorem RowAt.Y {w':World} {m:Nat} (h:RowAt w v i br m cr) (hk : ∀ k,k≠br→w'.heap[k]? = w.heap[k]?):RowAt w' v i br m cr:=by
 obtain ⟨b,m',c,rfl,h1,h2⟩:=h
 refine ⟨b,m',c,rfl,h1,?_⟩
 rw [World.cell?_of_block (hk b (fun e=>h1 e.symm)),h2]
theorem RowAt.J {w':World} {m:Nat} (h:RowAt w v i br m cr) (e:Ext w w'):RowAt w' v i br m cr:=by
 obtain ⟨b,m',c,rfl,h1,h2⟩:=h
 exact ⟨b,m',c,rfl,h1,e.cell h2⟩
theorem Owned.rowAt {p:List (List Int)} (h:Owned lo (XSl e (XSl e2 XInt)) w v p) (hi:i < p.length) (hn:0 < p[i].length) : ∃ br cr,RowAt w v i br p[i].length cr∧lo≤br∧br < w.heap.size:=by
 obtain ⟨fp,h1,h2,cs,fps,h3,rfl,h5⟩:=h
 obtain ⟨f,u,h6,h7,h8⟩:=h5.at hi
 rcases h3.2 with ⟨rfl,h9⟩ | ⟨g,cap,cur,rfl,_⟩
 ·omega
 obtain ⟨cs',fps',k3,rfl,k5⟩:=h8
 have hlt:=k3.lt
 rcases k3.2 with ⟨rfl,h9⟩ | ⟨g',cap',cur',rfl,_⟩
 ·omega
 have hmem:g' ∈ fps.flatten:=List.mem_flatten.2 ⟨_,List.mem_of_getElem? h6,by simp [Value.ownBlock]⟩
 have h1':(g::fps.flatten).Nodup:=h1
 rw [List.nodup_cons] at h1'
 refine ⟨g',cap',⟨g,_,_,rfl,fun e=>h1'.1 (by rw [← e];exact hmem),?_⟩,h2 g' (List.mem_append_right _ hmem),(hlt g' rfl).2⟩
 have hl:=h5.len
 rw [h3.cellAt i (by omega),h7]
theorem Only.ext1 {b:Nat} (h:Only [b] w w0) {w':World} (e:Ext w' w) (hb:w'.heap.size≤b):Ext w' w0:=h.J e (fun k hk=>by rw [List.mem_singleton.1 hk];exact hb)
theorem Owned.setRow {p:List (List Int)} {m:Nat} {q:Int} (h:Owned lo (XSl e (XSl e2 XInt)) w v p) (hi:i < p.length) (hR:RowAt w v i br m cr) (hj:j < p[i].length) :
  Owned lo (XSl e (XSl e2 XInt)) (w.setCell ⟨br,j,none⟩ (.int .i64 q)) v (p.set i (p[i].set j q))∧lo≤br∧∃ u,w.cell? ⟨br,j,none⟩=some u∧w.frozen? ⟨br,j,none⟩=false:=by
 obtain ⟨fp,h1,h2,cs,fps,h3,rfl,h5⟩:=h
 obtain ⟨f,u,h6,h7,h8⟩:=h5.at hi
 have hl:=h5.len
 obtain ⟨b,m',c,rfl,hne,hcell⟩:=hR
 have hm:m'=p.length:=by
  rcases h3.2 with ⟨h6,_⟩ | ⟨g,cap,cur,h6,_⟩
  ·cases h6
  ·cases h6;rfl
 subst hm
 rw [h3.cellAt i (by omega),h7] at hcell
 cases hcell
 have h8':=h8
 obtain ⟨cs',fps',k3,rfl,k5⟩:=h8
 have hmm:m=p[i].length:=by
  rcases k3.2 with ⟨h6,_⟩ | ⟨g,cap,cur,h6,_⟩
  ·cases h6
  ·cases h6;rfl
 subst hmm
 have hfl : ∀ {fps':List (List Nat)} {cs':List Value} {xs:List Int},XAll XInt w fps' cs' xs→fps'.flatten=[]:=by
  intro fps'
  induction fps' with
  | nil=>intro _ _ _;rfl
  | cons f fs ih =>
    intro cs' xs h
    cases cs' with
    | nil => exact h.elim
    | cons c cs' => cases xs with
      | nil => exact h.elim
      | cons x xs => rw [List.flatten_cons, h.1.1, ih h.2]; rfl
 have hf0:=hfl k5
 have hmem : ∀ k ∈ (Value.slice (some ⟨br,0,none⟩) p[i].length cr).ownBlock.toList++fps'.flatten,k=br:=by
  intro k hk
  rw [hf0] at hk
  simpa [Value.ownBlock] using hk
 have hbm:br ∈ fps.flatten:=List.mem_flatten.2 ⟨_,List.mem_of_getElem? h6,by simp [Value.ownBlock]⟩
 have hst:=k3.stored j (.int .i64 q)
 have h1':(b::fps.flatten).Nodup:=h1
 rw [List.nodup_cons] at h1'
 have kl:=k5.len
 refine ⟨?_,h2 br (List.mem_append_right _ hbm),cs'[j]'(by omega),?_,k3.frozenAt j⟩
 ·have hnew:XSl e2 XInt (w.setCell ⟨br,j,none⟩ (.int .i64 q)) ((Value.slice (some ⟨br,0,none⟩) p[i].length cr).ownBlock.toList++fps'.flatten) (.slice (some ⟨br,0,none⟩) p[i].length cr) (p[i].set j q):=by
   have hfi:fps'.set j []=fps':=by
    obtain ⟨f',c',h6',h7',h8'⟩:=k5.at hj
    rw [h8'.1] at h6'
    apply List.ext_getElem?
    intro a
    rw [List.getElem?_set]
    split
    ·rename_i e;subst e;have hh:=(List.getElem?_eq_some_iff.1 h6').1;rw [h6'];simp;omega
    ·rfl
   refine ⟨cs'.set j (.int .i64 q),fps',by simpa using hst.1,rfl,?_⟩
   have:=k5.turned (w':=w.setCell ⟨br,j,none⟩ (.int .i64 q)) (f:=[]) (u:=.int .i64 q) (x:=q) hj ⟨rfl,rfl⟩ (fun m' g' hm hg k hk=>by
    exfalso
    have:k ∈ fps'.flatten:=List.mem_flatten.2 ⟨g',List.mem_of_getElem? hg,hk⟩
    rw [hf0] at this;cases this)
   rw [hfi] at this
   exact this
  have hsame:fps.set i ((Value.slice (some ⟨br,0,none⟩) p[i].length cr).ownBlock.toList++fps'.flatten)=fps:=by
   apply List.ext_getElem?
   intro a
   rw [List.getElem?_set]
   split
   ·rename_i e;subst e;have hh:=(List.getElem?_eq_some_iff.1 h6).1;rw [h6];simp;omega
   ·rfl
  have hcsame:cs.set i (.slice (some ⟨br,0,none⟩) p[i].length cr)=cs:=by
   apply List.ext_getElem?
   intro a
   rw [List.getElem?_set]
   split
   ·rename_i e;subst e;have hh:=(List.getElem?_eq_some_iff.1 h7).1;rw [h7];simp;omega
   ·rfl
  refine ⟨_,h1,h2,cs,fps,?_,rfl,?_⟩
  ·have:(p.set i (p[i].set j q)).length=p.length:=by simp
   rw [this]
   exact Nt (fun k hk=>by
    have hk':b=k:=by simpa [Value.ownBlock] using hk
    subst hk';exact heap_setCell_other _ (fun e=>hne e.symm)) h3
  ·have:=h5.turned (w':=w.setCell ⟨br,j,none⟩ (.int .i64 q)) hi hnew (fun m' g' hm hg k hk=>heap_setCell_other _ (fun e=>by
    simp only at e
    subst e
    -- k=br lies in row i and in row m'
    have hnd:=h1'.2
    exact flatten_apart hnd h6 hg (fun e=>hm e.symm) (by simp [Value.ownBlock]) hk))
   rw [hsame,hcsame] at this
   exact this
 ·rw [k3.cellAt j (by omega)]
  simp
theorem Nw (ht:P.underlying t=some (.slice el')) (hs : ∀ w,(sizeOf el').run P w=.ok 1 w) (hta : ∀ w,(isAgg tl).run P w=.ok false w)
  (hw:wantedE all ⟨some d,.indexAddr t x y,ty,pos,after,g⟩ ρ = true)
  (hw2 : ∀ v,wantedE all ⟨some d2,.load tl (.tmp d),ty2,pos2,after2,g2⟩ (upd ρ d v)=true)
  {m:Nat} {a:Int} (hx:evalE ρ x=v) (hv : ∃ b c,v=.slice (some ⟨b,0,none⟩) m c) (hy:evalE ρ y=.int .i64 a) (hR:RowAt w v a.toNat br i cr) (ha:0≤a∧a.toNat < m)
  (hk : ∀ ad,Wops P n all rest N (upd (upd ρ d (.pointer (some ad))) d2 (.slice (some ⟨br,0,none⟩) i cr)) w) :
  Wops P n all (⟨some d,.indexAddr t x y,ty,pos,after,g⟩::⟨some d2,.load tl (.tmp d),ty2,pos2,after2,g2⟩::rest) N ρ w:=by
 obtain ⟨b,c,rfl⟩:=hv
 obtain ⟨b',m',c',e,hne,hc⟩:=hR
 cases e
 refine Wo hw (Yk ht hs hx (by rw [hy,Sx ha.1]) ha.2) ?_
 have hc':w.cell? ⟨b,0+a.toNat,none⟩=some (.slice (some ⟨br,0,none⟩) i cr):=by rw [Nat.zero_add];exact hc
 refine Wo (hw2 _) (Xd hta ?_ hc') (hk _)
 show upd ρ d _ d=_
 unfold upd;rw [Nat.beq_refl];rfl
theorem Th {p:List (List Int)} {m:Nat} {q:Int} (hw:wantedE all ⟨none,.store t x y,ty,pos,after,g⟩ ρ = true) (ht : ∀ w,(sizeOf t).run P w=.ok 1 w) (hx:evalE ρ x=.pointer (some ⟨br,0+j,none⟩)) (hy:evalE ρ y=.int .i64 q)
  {hi':Nat} (h:OwnedB lo hi' (XSl e (XSl e2 XInt)) w v p) (hR:RowAt w v i br m cr) (hi:i < p.length) (hj:j < p[i].length)
  (hk : ∀ w1,Owned lo (XSl e (XSl e2 XInt)) w1 v (p.set i (p[i].set j q))→RowAt w1 v i br m cr→Only [br] w w1→(∀ k,k≠br→w1.heap[k]? = w.heap[k]?)→w1.heap.size=w.heap.size→Wops P n all rest N ρ w1) :
  Wops P n all (⟨none,.store t x y,ty,pos,after,g⟩::rest) N ρ w:=by
 rw [Nat.zero_add] at hx
 obtain ⟨h1,h2,u,h3,h4⟩:=h.o.setRow (q:=q) hi hR hj
 have hf : ∀ k,k≠br→(w.setCell ⟨br,j,none⟩ (.int .i64 q)).heap[k]? = w.heap[k]?:=fun k h3=>heap_setCell_other _ h3
 exact Lc hw (ops_store ht hx hy rfl h3 h4) (hk _ h1 (hR.Y hf) (Only.setCell (List.mem_singleton.2 rfl)) hf (size_setCell _ _))
end
theorem Qr {P:Program} {ρ : Env} {w:World} {ty ts el:TypeId} {x y:Operand} {len cap b o:Nat} {z:Int} (ht:P.underlying ts=some (.slice el)) (hs : ∀ w,(sizeOf el).run P w=.ok 1 w) (hx:evalE ρ x=.slice (some ⟨b,o,none⟩) len cap) (hy:evalE ρ y=.int .i64 z)
  (hk:0≤z∧z.toNat < len):OpV P (.indexAddr ts x y) ty ρ w (.pointer (some ⟨b,o+z.toNat,none⟩)):=Yk ht hs hx (by rw [hy,Sx hk.1]) hk.2
section
variable {P:Program} {ρ : Env} {w:World} {ty:TypeId}
theorem opc_val {f:FuncId} {first cap:List Value} {x:Operand} {args:Array Operand} {ts:Array TypeId} {vs:List Value} (hc : ∀ args w,Sem.run P (callFunc f args) w=.ok (.enter f args) w)
  (hx:evalE ρ x=.func (.func f) first.toArray cap.toArray) (ha:args.toList.map (evalE ρ)=vs) :
  OpC P (.call { callee:=.value x,args:=args,argTypes:=ts }) ty ρ w f (first++vs++cap):=by
 subst ha
 unfold OpC execOp
 simp only [resolve,hx,Deferred.ofValue]
 show Sem.run P (callFunc f (first.toArray++args.map (evalE ρ)++cap.toArray)) w=_
 rw [hc]
 congr 2
 apply Array.ext'
 simp
theorem opc_val1 {f:FuncId} {cap:List Value} {x x0:Operand} {ts:Array TypeId} {a:Value} (hc : ∀ args w,Sem.run P (callFunc f args) w=.ok (.enter f args) w)
  (hx:evalE ρ x=.func (.func f) [].toArray cap.toArray) (h0:evalE ρ x0=a) :
  OpC P (.call { callee:=.value x,args:=#[x0],argTypes:=ts }) ty ρ w f (a::cap):=opc_val (first:=[]) (vs:=[a]) hc hx (by simp [h0])
theorem opc_val0 {f:FuncId} {cap:List Value} {x:Operand} {ts:Array TypeId} (hc : ∀ args w,Sem.run P (callFunc f args) w=.ok (.enter f args) w)
  (hx:evalE ρ x=.func (.func f) [].toArray cap.toArray) :
  OpC P (.call { callee:=.value x,args:=#[],argTypes:=ts }) ty ρ w f cap:=opc_val (first:=[]) (vs:=[]) hc hx (by simp)
end
section
variable {P:Program} {n:Nat} {N:Env→World→Prop} {ρ : Env} {w:World} {all:Array Oper} {rest:List Oper} {d:Nat} {ty t:TypeId} {pos:String} {after:Array Edge} {g:Option (Nat × Bool)} {z:Value}
theorem Nq (hw:wantedE all ⟨some d,.alloc t,ty,pos,after,g⟩ ρ = true) (hz : ∀ w,(zeroValue t).run P w=.ok z w) (h1:isCell z=true)
  (hk : ∀ b w1,w.heap.size≤b→Ext w w1→Blk w1 b [z]→Wops P n all rest N (upd ρ d (.pointer (some ⟨b,0,none⟩))) w1) :
  Wops P n all (⟨some d,.alloc t,ty,pos,after,g⟩::rest) N ρ w:=by
 refine Nz (v:=.pointer (some ⟨w.heap.size,0,none⟩)) (w':=w.alloc (.cells [z].toArray t)) hw ?_ (hk _ _ (Nat.le_refl _) ((Ext.refl w).alloc _) (Blk.new w [z] t))
 simp [execOp,Instr.alloc,newVar,newRow,hz,Sz h1]
end
structure Span (lo hi:Nat) (w w':World):Prop where
 os:w'.os=w.os
 tape:w'.tape=w.tape
 output:w'.output=w.output
 size:w.heap.size≤w'.heap.size
 block : ∀ k,(k < lo∨hi≤k)→k < w.heap.size→w'.heap[k]? = w.heap[k]?
section
variable {α : Type} {X:World→List Nat→Value→α→Prop} {E:World→Value→α→Prop} {w w' w'' w0:World} {v u:Value} {x : α} {xs:List α} {e:TypeId} {lo hi lt ht b i:Nat} {fp:List Nat}
theorem Span.of_only (h:Only fp w w') (hf : ∀ k ∈ fp,lo≤k∧k < hi):Span lo hi w w':=⟨h.os,h.tape,h.output,h.size,fun k hk hl=>h.block k (fun hm=>by have:=hf k hm;omega) hl⟩
theorem Ext.span (h:Ext w0 w) (s:Span lo hi w w') (hl:w0.heap.size≤lo):Ext w0 w' :=
 ⟨s.os.trans h.os,s.tape.trans h.tape,s.output.trans h.output,Nat.le_trans h.size s.size,fun k hk=>(s.block k (by omega) (Nat.lt_of_lt_of_le hk h.size)).trans (h.block k hk)⟩
theorem Blk.span {cs:List Value} (h:Blk w b cs) (s:Span lo hi w w') (hd:b < lo∨hi≤b):Blk w' b cs:=h.Y (s.block b hd h.lt)
theorem Span.trans (h:Span lo hi w w') (k:Span lo hi w' w''):Span lo hi w w'' :=
 ⟨k.os.trans h.os,k.tape.trans h.tape,k.output.trans h.output,Nat.le_trans h.size k.size,fun i h1 h2=>(k.block i h1 (Nat.lt_of_lt_of_le h2 h.size)).trans (h.block i h1 h2)⟩
theorem Ext.Z {a b:World} (h:Ext a b):a.heap.size≤b.heap.size:=h.size
theorem Span.K {lo hi:Nat} {w w1 w2:World} (h:Span lo hi w w1) (k:Span lo hi w1 w2):Span lo hi w w2:=h.trans k
theorem Span.Z {lo hi:Nat} {w w1:World} (h:Span lo hi w w1):w.heap.size≤w1.heap.size:=h.size
theorem Ext.A {a w1:World} (p:Ext a w) (e0:Ext w0 w) (e:Ext w0 w1) (K : ∀ k,k≠b→w1.heap[k]? = w.heap[k]?) (hz:w1.heap.size=w.heap.size) (hb:a.heap.size≤b):Ext a w1 :=
 ⟨e.os.trans (e0.os.symm.trans p.os),e.tape.trans (e0.tape.symm.trans p.tape),e.output.trans (e0.output.symm.trans p.output),by rw [hz];exact p.size,fun k hk=>(K k (by omega)).trans (p.block k hk)⟩
def RetSO (lo hi:Nat) (w:World) (r:Value) (X:World→List Nat→Value→α→Prop) (u:Value) (x : α):Value→World→Prop:=fun v w'=>v=r∧Span lo hi w w'∧OwnedB lo hi X w' u x
def RetS {β : Type} (lo hi:Nat) (w:World) (val : β→Value) (p : β→World→Prop):Value→World→Prop:=fun v w'=>∃ y,v=val y∧Span lo hi w w'∧p y w'
end
set_option linter.unusedSimpArgs false
section
variable {P:Program} {n:Nat} {N:Env→World→Prop} {ρ : Env} {w w0:World} {all:Array Oper} {rest:List Oper} {d:Nat} {ty t tl:TypeId} {pos:String} {after:Array Edge} {g:Option (Nat × Bool)} {x y:Operand} {u1 u2 z1 z2 v1 v2:Value} {b:Nat}
theorem opv_load2 (ht : ∀ w,(isAgg tl).run P w=.ok true w) (hs : ∀ w,(sizeOf tl).run P w=.ok 2 w) (hx:evalE ρ x=.pointer (some ⟨b,0,none⟩)) (hB:Blk w b [u1,u2]):OpV P (.load tl x) ty ρ w (.agg #[u1,u2]):=by
 have h0:w.cell? ⟨b,0,none⟩=some u1:=hB.cell rfl
 have h1:w.cell? ⟨b,1,none⟩=some u2:=hB.cell rfl
 simp [OpV,execOp,hx,Instr.loadAt,Instr.sureAddr,loadVar,ht,hs,loadCells,loadCellsFrom,Addr.add,h0,h1]
theorem Xk (hw:wantedE all ⟨some d,.alloc t,ty,pos,after,g⟩ ρ = true) (hF:Flat P t [z1,z2])
  (hk : ∀ b w1,w.heap.size≤b→Ext w w1→Blk w1 b [z1,z2]→Wops P n all rest N (upd ρ d (.pointer (some ⟨b,0,none⟩))) w1) :
  Wops P n all (⟨some d,.alloc t,ty,pos,after,g⟩::rest) N ρ w:=by
 obtain ⟨fs,hund,hzero,hplaces⟩:=hF
 refine Nz (v:=.pointer (some ⟨w.heap.size,0,none⟩)) (w':=w.alloc (.cells [z1,z2].toArray t)) hw ?_ (hk _ _ (Nat.le_refl _) ((Ext.refl w).alloc _) (Blk.new w [z1,z2] t))
 simp [execOp,Instr.alloc,newVar,newRow,hzero,Value.cells]
theorem ops_store2 {c1 c2:Value} (hs : ∀ w,(sizeOf tl).run P w=.ok 2 w) (hx:evalE ρ x=.pointer (some ⟨b,0,none⟩)) (hy:evalE ρ y=.agg #[v1,v2]) (h1:isCell v1=true) (h2:isCell v2=true) (hB:Blk w b [c1,c2]) :
  OpS P (.store tl x y) ty ρ w ((w.setCell ⟨b,0,none⟩ v1).setCell ⟨b,1,none⟩ v2):=by
 have hB':Blk (w.setCell ⟨b,0,none⟩ v1) b [v1,c2]:=hB.set v1
 have k1:=Si (P:=P) (w:=w) (ad:=⟨b,0,none⟩) h1 (hB.cell (i:=0) rfl) hB.frozen
 have k2:=Si (P:=P) (w:=w.setCell ⟨b,0,none⟩ v1) (ad:=⟨b,1,none⟩) h2 (hB'.cell (i:=1) rfl) hB'.frozen
 simp [OpS,execOp,hx,hy,Instr.storeAt,Instr.sureAddr,storeVar,hs,Value.cells,storeCells,Addr.add,k1,k2]
theorem Uu {c1 c2:Value} (hw:wantedE all ⟨none,.store t x y,ty,pos,after,g⟩ ρ = true) (hs : ∀ w,(sizeOf t).run P w=.ok 2 w) (hx:evalE ρ x=.pointer (some ⟨b,0,none⟩)) (hy:evalE ρ y=.agg #[v1,v2]) (h1:isCell v1=true) (h2:isCell v2=true)
  (hb:Blk w b [c1,c2]) (h0:w0.heap.size≤b) (hE:Ext w0 w)
  (hk : ∀ w1,Ext w0 w1→Blk w1 b [v1,v2]→(∀ k,k≠b→w1.heap[k]? = w.heap[k]?)→w1.heap.size=w.heap.size→Wops P n all rest N ρ w1) :
  Wops P n all (⟨none,.store t x y,ty,pos,after,g⟩::rest) N ρ w:=by
 have hb':Blk (w.setCell ⟨b,0,none⟩ v1) b [v1,c2]:=hb.set v1
 refine Lc hw (ops_store2 hs hx hy h1 h2 hb) (hk _ ((hE.setCell h0 v1).setCell h0 v2) (hb'.set v2) (fun k h=>?_) ?_)
 ·rw [heap_setCell_other _ h,heap_setCell_other _ h]
 ·rw [size_setCell,size_setCell]
end
def CellS (w:World) (p:Value) (K:Value→Prop):Prop:=∃ b u1 u2,p=.pointer (some ⟨b,0,none⟩)∧Blk w b [u1,u2]∧K (.agg #[u1,u2])
section
variable {P:Program} {t a a':Tmp} {ta ta':TypeId} {w:World} {v:Value}
theorem run_loadVar2 {b:Nat} {u1 u2:Value} (ht : ∀ w,(isAgg ta).run P w=.ok true w) (hs : ∀ w,(sizeOf ta).run P w=.ok 2 w) (hB:Blk w b [u1,u2]):(loadVar ta ⟨b,0,none⟩).run P w=.ok (.agg #[u1,u2]) w:=by
 have h0:w.cell? ⟨b,0,none⟩=some u1:=hB.cell rfl
 have h1:w.cell? ⟨b,1,none⟩=some u2:=hB.cell rfl
 simp [loadVar,ht,hs,loadCells,loadCellsFrom,Addr.add,h0,h1]
theorem results_c {fn:Func} {b:Nat} {u1 u2:Value} (h:fn.results=#[.cell a ta]) (tmps:Array Value) (ht : ∀ w,(isAgg ta).run P w=.ok true w) (hs : ∀ w,(sizeOf ta).run P w=.ok 2 w)
  (hp:tmps.getD a undef=.pointer (some ⟨b,0,none⟩)) (hB:Blk w b [u1,u2]):(results fn tmps).run P w=.ok (.agg #[u1,u2]) w:=by
 rw [Array.getD_eq_getD_getElem?] at hp
 simp [results,h,hp,asAddr,run_loadVar2 ht hs hB]
theorem results_ct {fn:Func} {b:Nat} {u1 u2:Value} (h:fn.results=#[.cell a ta,.tmp t]) (tmps:Array Value) (ht : ∀ w,(isAgg ta).run P w=.ok true w) (hs : ∀ w,(sizeOf ta).run P w=.ok 2 w)
  (hp:tmps.getD a undef=.pointer (some ⟨b,0,none⟩)) (hB:Blk w b [u1,u2]):(results fn tmps).run P w=.ok (.tuple #[.agg #[u1,u2],tmps.getD t undef]) w:=by
 rw [Array.getD_eq_getD_getElem?] at hp
 simp [results,h,hp,asAddr,run_loadVar2 ht hs hB]
theorem fn_of_Wc {f:FuncId} {fn:Func} {c:Code} {args:List Value} {S:Value→World→Prop} (hf:P.funcs[f]? = some fn) (hb:fn.body=some c)
  (hr:fn.results=#[.cell a ta]) {n:Nat} (hn:fn.ntmps=n) (hl:Nat.ble args.length n=true) (ht : ∀ w,(isAgg ta).run P w=.ok true w) (hs : ∀ w,(sizeOf ta).run P w=.ok 2 w)
  (h:W P n c (fun ρ w'=>CellS w' (ρ a) fun v=>S v w') (fun _ _ _=>False) (fun ρ w'=>CellS w' (ρ a) fun v=>S v w') (envOf args) w):Does P f args w S:=by
 subst hn
 unfold W at h
 unfold Does
 refine calls_of_wp hf hb (Go.wp_mono (h _ (Rep.start args _ hl)) fun e a w q=>?_)
 cases e with
 | normal =>
   obtain ⟨ρ, h1, b, u1, u2, h2, h3, h4⟩ := q
   exact ⟨h1.defers, _, results_c hr _ ht hs ((h1.get _).trans h2) h3, _, rfl, h4⟩
 | ret =>
   obtain ⟨ρ, h1, b, u1, u2, h2, h3, h4⟩ := q
   exact ⟨h1.defers, _, results_c hr _ ht hs ((h1.get _).trans h2) h3, _, rfl, h4⟩
 | exit i=>obtain ⟨ρ,h1,h2⟩:=q;exact h2.elim
 | goto l=>exact q.elim
 | panic ch=>exact q.elim
 | outgrown=>exact q.elim
theorem Tj {f:FuncId} {fn:Func} {c:Code} {args:List Value} {S:Value→World→Prop} (hf:P.funcs[f]? = some fn) (hb:fn.body=some c)
  (hr:fn.results=#[.cell a ta,.tmp t]) {n:Nat} (hn:fn.ntmps=n) (hl:Nat.ble args.length n=true) (ht : ∀ w,(isAgg ta).run P w=.ok true w) (hs : ∀ w,(sizeOf ta).run P w=.ok 2 w)
  (h:W P n c (fun ρ w'=>CellS w' (ρ a) fun v=>S (.tuple #[v,ρ t]) w') (fun _ _ _=>False) (fun ρ w'=>CellS w' (ρ a) fun v=>S (.tuple #[v,ρ t]) w') (envOf args) w):Does P f args w S:=by
 subst hn
 unfold W at h
 unfold Does
 refine calls_of_wp hf hb (Go.wp_mono (h _ (Rep.start args _ hl)) fun e a w q=>?_)
 cases e with
 | normal =>
   obtain ⟨ρ, h1, b, u1, u2, h2, h3, h4⟩ := q
   exact ⟨h1.defers, _, by rw [results_ct hr _ ht hs ((h1.get _).trans h2) h3, h1.get], _, rfl, h4⟩
 | ret =>
   obtain ⟨ρ, h1, b, u1, u2, h2, h3, h4⟩ := q
   exact ⟨h1.defers, _, by rw [results_ct hr _ ht hs ((h1.get _).trans h2) h3, h1.get], _, rfl, h4⟩
 | exit i=>obtain ⟨ρ,h1,h2⟩:=q;exact h2.elim
 | goto l=>exact q.elim
 | panic ch=>exact q.elim
 | outgrown=>exact q.elim
end
theorem OwnedB.isC {α : Type} {X:World→List Nat→Value→α→Prop} {w:World} {v:Value} {e:TypeId} {xs:List α} {lo hi:Nat} (h:OwnedB lo hi (XSl e X) w v xs):isCell v=true:=by
 obtain ⟨fp,h1,h2,cs,fps,h3,rfl,h5⟩:=h
 rcases h3.2 with ⟨rfl,_⟩ | ⟨g,cap,cur,rfl,_⟩ <;> rfl
theorem OwnedB.capOk {α : Type} {X:World→List Nat→Value→α→Prop} {w:World} {v:Value} {e:TypeId} {xs:List α} {lo hi:Nat} (h:OwnedB lo hi (XSl e X) w v xs):CapOk v:=by
 obtain ⟨fp,h1,h2,cs,fps,h3,rfl,h5⟩:=h
 rcases h3.2 with ⟨rfl,h0⟩ | ⟨g,cap,cur,rfl,_,_,hc,_⟩
 ·exact ⟨none,0,0,rfl,Nat.le_refl _⟩
 ·exact ⟨_,_,_,rfl,hc⟩
section
variable {α : Type} {X:World→List Nat→Value→α→Prop} {w:World} {lo hi b o n c c' k:Nat} {e:TypeId}
theorem XAll_take : ∀ (k:Nat) {fs:List (List Nat)} {cs:List Value} {xs:List α},XAll X w fs cs xs→XAll X w (fs.take k) (cs.take k) (xs.take k)
 | 0,fs,cs,xs,_=>by simp [XAll]
 | k+1,f::fs,c::cs,x::xs,h=>⟨h.1,XAll_take k h.2⟩
 | k+1,[],[],[],_=>trivial
 | _+1,[],_::_,_,h=>h.elim
 | _+1,[],[],_::_,h=>h.elim
 | _+1,_::_,[],_,h=>h.elim
 | _+1,_::_,_::_,[],h=>h.elim
theorem XInt_flat' : ∀ {fs:List (List Nat)} {cs:List Value} {xs:List Int},XAll XInt w fs cs xs→fs.flatten=[]
 | [],_,_,_=>rfl
 | f::fs,c::cs,x::xs,h=>by rw [List.flatten_cons,h.1.1,XInt_flat' h.2];rfl
 | _::_,[],_,h=>h.elim
 | _::_,_::_,[],h=>h.elim
theorem OwnedB.pre {xs:List Int} (h:OwnedB lo hi (XSl e XInt) w (.slice (some ⟨b,0,none⟩) n c) xs) (hk:k≤n):OwnedB lo hi (XSl e XInt) w (.slice (some ⟨b,0,none⟩) k c) (xs.take k):=by
 obtain ⟨fp,h1,h2,cs,fps,h3,rfl,h5⟩:=h
 have hf:=XInt_flat' h5
 have hf2:=XInt_flat' (XAll_take k h5)
 obtain ⟨h4,h6⟩:=h3
 rcases h6 with ⟨h7,_⟩ | ⟨g,cap,cur,h7,h8,h9,h10,h11,h12,h13⟩
 ·cases h7
 ·injection h7 with e1 e2 e3
  injection e1 with e1
  injection e1 with e1 _ _
  subst e1 e2 e3
  refine ⟨_,h1,h2,cs.take k,fps.take k,⟨?_,.inr ⟨b,c,cur,?_,h8,h9,by rw [List.length_take];omega,h11,h12,?_⟩⟩,by rw [hf,hf2];rfl,XAll_take k h5⟩
  ·rw [List.length_take,List.length_take,h4];omega
  ·rw [List.length_take,Nat.min_eq_left (by omega)]
  ·rw [List.length_take,← h13,List.take_take,Nat.mul_one,Nat.mul_one,Nat.min_eq_left (by omega)]
theorem own_rng {v:Value} {xs:List α} (h:OwnedB lo hi (XSl e X) w v xs) (hv:v.ownBlock=some k):lo≤k∧k < hi:=by
 obtain ⟨fp,h1,h2,cs,fps,h3,rfl,h5⟩:=h
 exact h2 k (by simp [hv])
end
theorem W_mid {α : Type} {P:Program} {n:Nat} {c:Code} {N:Env→World→Prop} {X:Nat→Env→World→Prop} {R:Env→World→Prop} {ρ : Env} {w:World} (D:List Nat) (S : α→List (Nat × Value)) (I : α→World→Prop)
  (h:W P n c (fun ρ' w'=>∃ x',Slots ρ' (S x')∧Same D ρ ρ'∧I x' w') X R ρ w) (h2 : ∀ (x : α) (ρj:Env) (w':World),I x w'→N (upds (mix D ρj ρ) (S x)) w'):W P n c N X R ρ w:=by
 unfold W at *
 intro a ha
 refine Go.wp_mono (h a ha) fun e a w q=>?_
 cases e with
 | normal =>
   obtain ⟨ρ', hR, x', hS, hD, hI⟩ := q
   refine ⟨ρ', hR, ?_⟩
   have := h2 x' ρ' w hI
   rw [mix_same hD, upds_self hS] at this; exact this
 | ret=>exact q
 | exit i=>exact q
 | goto l=>exact q
 | panic ch=>exact q
 | outgrown=>exact q
section
variable {α : Type} {X:World→List Nat→Value→α→Prop} {w w' w0 w1:World} {v u v':Value} {x : α} {xs:List α} {lo hi lt ht br m i n cr:Nat} {e:TypeId}
theorem OwnedB.G [Loc X] (h:OwnedB lo hi X w v x) (g:w.grownBy w' (some br)) (hb:br < lo∨hi≤br):OwnedB lo hi X w' v x:=by
 obtain ⟨fp,h1,h2,h3⟩:=h
 exact ⟨fp,h1,h2,Loc.loc (fun k hk=>g.block k (Loc.lt h3 k hk) (by have:=h2 k hk;simp;omega)) h3⟩
theorem RowAt.G (h:RowAt w v i n m cr) (g:w.grownBy w' (some br)) (hv:v.ownBlock≠some br):RowAt w' v i n m cr:=by
 obtain ⟨b,m',c,rfl,h1,h2⟩:=h
 have hne:b≠br:=fun e=>hv (by simp [Value.ownBlock,e])
 exact ⟨b,m',c,rfl,h1,by rw [← h2];exact World.cell?_of_block (g.block b (World.block_lt_of_cell? _ _ h2) (by simp [hne]))⟩
theorem own_notin (k:OwnedB lt ht (XSl e X) w v xs) {b:Nat} (hd:ht≤b∨b < lt):some b≠v.ownBlock:=by
 intro h
 obtain ⟨fq,k1,k2,cs,fps,k3,rfl,k4⟩:=k
 have:=k2 b (by simp [← h])
 omega
theorem Rdr.moves (h:Rdr w0 w br m) (E:Ext w0 w') (M:Moves w v w' v') (k:OwnedB lt ht (XSl e X) w v xs) (hd:ht≤br∨br < lt):Rdr w0 w' br m:=by
 obtain ⟨h1,h2,h3,vb,bs,p,h4,h5,h6,h7⟩:=h
 exact ⟨E,h2,Nat.lt_of_lt_of_le h3 M.1.size,vb,bs,p,h4,h5,h6.Y (M.1.block br h3 (own_notin k hd)),h7⟩
theorem Nk (h:w1.grownBy w (some br)) (M:Moves w v w' v') (k:OwnedB lt ht (XSl e X) w v xs) (hd:w1.heap.size≤lt):w1.grownBy w' (some br):=by
 exact ⟨M.1.os.trans h.os,M.1.tape.trans h.tape,M.1.output.trans h.output,Nat.le_trans h.size M.1.size,fun j hj hr=>(M.1.block j (Nat.lt_of_lt_of_le hj h.size) (own_notin k (.inr (by omega)))).trans (h.block j hj hr)⟩
def RetDO (w0 w:World) (br m:Nat) (X:World→List Nat→Value→α→Prop) (p : α→Prop):Value→World→Prop:=fun v w'=>w.grownBy w' (some br)∧Rdr w0 w' br m∧∃ x,Owned w.heap.size X w' v x∧p x
end
section
variable {w w':World} {v v':Value} {lo hi lo' i m cr b n c brw:Nat} {e e2:TypeId} {p:List (List Int)} {row:List Int}
theorem slice_len {w:World} {e:TypeId} {a:Option Addr} {n m c:Nat} {cs:List Value} (h:w.ownsRow 0 e 1 (.slice a n c) m cs):n=m:=by
 rcases h.2 with ⟨h6,h7⟩ | ⟨g,cap,cur,h6,_⟩
 ·cases h6;exact h7.symm
 ·cases h6;rfl
theorem OwnedB.rowOwn (h:OwnedB lo hi (XSl e (XSl e2 XInt)) w v p) (hR:RowAt w v i brw m cr) (hi':i < p.length):m=p[i].length∧OwnedB brw (brw+1) (XSl e2 XInt) w (.slice (some ⟨brw,0,none⟩) m cr) p[i]:=by
 obtain ⟨fp,h1,h2,cs,fps,h3,rfl,h5⟩:=h
 obtain ⟨f,u,h6,h7,h8⟩:=h5.at hi'
 obtain ⟨b,m',c,rfl,hne,hcell⟩:=hR
 have hl:=h5.len
 have:=slice_len h3
 subst this
 rw [h3.cellAt i (by omega),h7] at hcell
 cases hcell
 have hf:=XI_fp h8
 subst hf
 have h8':=h8
 obtain ⟨cs',fps',k3,_,_⟩:=h8'
 exact ⟨slice_len k3,_,by simp [Value.ownBlock],fun k hk=>by simp [Value.ownBlock] at hk;omega,h8⟩
theorem OwnedB.rowBack (h:OwnedB lo hi (XSl e (XSl e2 XInt)) w (.slice (some ⟨b,0,none⟩) n c) p) (hR:RowAt w (.slice (some ⟨b,0,none⟩) n c) i brw m cr) (hi':i < p.length)
  (M:Moves w (.slice (some ⟨brw,0,none⟩) m cr) w' v') (hN:Owned lo' (XSl e2 XInt) w' v' row) (hlo:lo≤w.heap.size) :
  Owned lo (XSl e (XSl e2 XInt)) (w'.setCell ⟨b,i,none⟩ v') (.slice (some ⟨b,0,none⟩) n c) (p.set i row)∧isCell v'=true∧(∃ u,w'.cell? ⟨b,i,none⟩=some u)∧w'.frozen? ⟨b,i,none⟩=false:=by
 obtain ⟨fp,h1,h2,cs,fps,h3,rfl,h5⟩:=h
 obtain ⟨f,u,h6,h7,h8⟩:=h5.at hi'
 obtain ⟨b',m',c',ee,hne,hcell⟩:=hR
 simp only [Value.slice.injEq,Option.some.injEq,Addr.mk.injEq] at ee
 obtain ⟨⟨rfl,_⟩,rfl,rfl⟩:=ee
 have hl:=h5.len
 have:=slice_len h3
 subst this
 rw [h3.cellAt i (by omega),h7] at hcell
 cases hcell
 have hf:=XI_fp h8
 subst hf
 obtain ⟨fn,n1,n2,hX⟩:=hN
 have hfn:=XI_fp hX
 have h1':(b::fps.flatten).Nodup:=h1
 rw [List.nodup_cons] at h1'
 have hltf:=h5.lt
 have hblt:b < w.heap.size:=(h3.lt b rfl).2
 have hbrw:brw ∈ fps.flatten:=List.mem_flatten.2 ⟨_,List.mem_of_getElem? h6,by simp [Value.ownBlock]⟩
 have hsame : ∀ k,k < w.heap.size→k≠brw→w'.heap[k]? = w.heap[k]?:=fun k hk hk'=>M.1.block k hk (by simp [Value.ownBlock];exact hk')
 have hfr : ∀ k ∈ fn,k=brw∨w.heap.size≤k:=by
  intro k hk
  rw [hfn] at hk
  rcases M.2 with h9 | ⟨g,h9,hg⟩
  ·rw [h9] at hk;simp [Value.ownBlock] at hk;exact .inl hk
  ·rw [h9] at hk;simp at hk;right;omega
 have hbfn:b ∉ fn:=fun hm=>by
  rcases hfr b hm with h9 | h9
  ·exact hne h9.symm
  ·omega
 have h3':w'.ownsRow 0 e 1 (.slice (some ⟨b,0,none⟩) p.length c) p.length cs:=Nt (fun k hk=>by
  have:b=k:=by simpa [Value.ownBlock] using hk
  subst this
  exact hsame b hblt (fun e=>hne e.symm)) h3
 have hst:=h3'.stored i v'
 have hd : ∀ (j:Nat) g,j≠i→fps[j]? = some g→∀ k ∈ g,k≠brw∧k ∈ fps.flatten:=fun j g hj hg k hk =>
  ⟨fun e=>flatten_apart h1'.2 h6 hg (fun e=>hj e.symm) (by simp [Value.ownBlock,e]) hk,List.mem_flatten.2 ⟨g,List.mem_of_getElem? hg,hk⟩⟩
 have key : ∀ (fs:List (List Nat)) (i:Nat),fs.flatten.Nodup→fn.Nodup→(∀ (j:Nat) g,j≠i→fs[j]? = some g→∀ k ∈ g,k ∉ fn)→(fs.set i fn).flatten.Nodup∧∀ k ∈ (fs.set i fn).flatten,k ∈ fn∨k ∈ fs.flatten:=by
  intro fs
  induction fs with
  | nil=>intro i h1 h2 h3;simp
  | cons g fs ih =>
    intro i k1 k2 k3
    rw [List.flatten_cons, List.nodup_append] at k1
    cases i with
    | zero =>
      simp only [List.set_cons_zero, List.flatten_cons]
      refine ⟨List.nodup_append.2 ⟨k2, k1.2.1, fun a ha b hb hab => ?_⟩, fun k hk => ?_⟩
      · obtain ⟨g', hg', hb'⟩ := List.mem_flatten.1 hb
        obtain ⟨j, hj, rfl⟩ := List.mem_iff_getElem.1 hg'
        exact k3 (j + 1) _ (by omega) (by simp [hj]) b hb' (hab ▸ ha)
      · rcases List.mem_append.1 hk with hk | hk
        · exact .inl hk
        · exact .inr (List.mem_append_right _ hk)
    | succ i =>
      obtain ⟨q1, q2⟩ := ih i k1.2.1 k2 (fun j g' hj hg k hk => k3 (j + 1) g' (by omega) (by simpa using hg) k hk)
      simp only [List.set_cons_succ, List.flatten_cons]
      refine ⟨List.nodup_append.2 ⟨k1.1, q1, fun a ha b hb hab => ?_⟩, fun k hk => ?_⟩
      · subst hab
        rcases q2 a hb with h9 | h9
        · exact k3 0 g (by omega) rfl a ha h9
        · exact k1.2.2 a ha a h9 rfl
      · rcases List.mem_append.1 hk with hk | hk
        · exact .inr (List.mem_append_left _ hk)
        · rcases q2 k hk with h9 | h9
          · exact .inl h9
          · exact .inr (List.mem_append_right _ h9)
 obtain ⟨q1,q2⟩:=key fps i h1'.2 n1 (fun j g hj hg k hk hm=>by
  obtain ⟨r1,r2⟩:=hd j g hj hg k hk
  rcases hfr k hm with h9 | h9
  ·exact r1 h9
  ·have:=hltf k r2;omega)
 refine ⟨⟨b::(fps.set i fn).flatten,List.nodup_cons.2 ⟨fun hm=>?_,q1⟩,fun k hk=>?_,cs.set i v',fps.set i fn,?_,rfl,?_⟩,Loc.cell hX,?_,h3'.frozenAt i⟩
 ·rcases q2 b hm with h9 | h9
  ·exact hbfn h9
  ·exact h1'.1 h9
 ·rcases List.mem_cons.1 hk with rfl | hk
  ·exact (h2 k (by simp [Value.ownBlock])).1
  ·rcases q2 k hk with h9 | h9
   ·rcases hfr k h9 with h10 | h10
    ·subst h10;exact (h2 k (List.mem_append_right _ hbrw)).1
    ·omega
   ·exact (h2 k (List.mem_append_right _ h9)).1
 ·have:(p.set i row).length=p.length:=by simp
  rw [this];exact hst.1
 ·refine h5.turned hi' (Loc.loc (fun k hk=>heap_setCell_other _ (fun e=>hbfn (by simp only at e;rw [← e];exact hk))) hX) (fun j g hj hg k hk=>?_)
  obtain ⟨r1,r2⟩:=hd j g hj hg k hk
  rw [heap_setCell_other _ (fun e=>h1'.1 (by simp only at e;rw [← e];exact r2))]
  exact hsame k (hltf k r2) r1
 ·exact ⟨cs[i]'(by omega),by rw [h3'.cellAt i (by omega)];simp⟩
end
theorem OwnedB.nil {α : Type} {X:World→List Nat→Value→α→Prop} {w:World} {e:TypeId} {lo hi:Nat} : OwnedB lo hi (XSl e X) w (.slice none 0 0) []:=⟨[],List.nodup_nil,(fun _ h=>by cases h),[],[],World.ownsRow_nil w 0 e 1,rfl,trivial⟩
theorem own_lit1 {w:World} {e:TypeId} {lo b:Nat} {x:Int} (hb:w.heap[b]? = some (.cells [.int .i64 x].toArray e (0,0))) (hl:lo≤b):Owned lo (XSl e XInt) w (.slice (some ⟨b,0,none⟩) 1 1) [x]:=Owned.block hb hl rfl (by decide) ⟨⟨rfl,rfl⟩,trivial⟩
theorem own_lit2 {w:World} {e:TypeId} {lo b:Nat} {x y:Int} (hb:w.heap[b]? = some (.cells [.int .i64 x,.int .i64 y].toArray e (0,0))) (hl:lo≤b):Owned lo (XSl e XInt) w (.slice (some ⟨b,0,none⟩) 2 2) [x,y]:=Owned.block hb hl rfl (by decide) ⟨⟨rfl,rfl⟩,⟨rfl,rfl⟩,trivial⟩
theorem opv_build2 {P:Program} {ρ : Env} {w:World} {ty t:TypeId} {parts:Array (Nat × Operand)} {z1 z2 v1 v2:Value} (hF:Flat P t [z1,z2]) (hp:parts.toList.map (fun p=>(p.1,evalE ρ p.2))=[(0,v1),(1,v2)]) (h1:isCell v1=true) (h2:isCell v2=true) :
  OpV P (.build t parts) ty ρ w (.agg #[v1,v2]):=Yu hF hp (by simp [fillF,h1,h2];rfl)
def bit (p:List (List Int)) (i j:Nat):Int:=(p.getD i []).getD j 0
def Pic (p:List (List Int)):Prop:=1≤p.length∧p.length≤5∧∀ r ∈ p,r.length=p.length∧∀ x ∈ r,x=0∨x=1
instance (p:List (List Int)):Decidable (Pic p):=by unfold Pic;infer_instance
def Gr (p:List (List Int)):Prop:=1≤p.length∧p.length≤11∧∀ r ∈ p,r.length=p.length∧∀ x ∈ r,x=0∨x=1
theorem Pic.gr {p:List (List Int)} (h:Pic p):Gr p:=⟨h.1,Nat.le_trans h.2.1 (by decide),h.2.2⟩
instance (p:List (List Int)):Coe (Pic p) (Gr p):=⟨Pic.gr⟩
def Nod (p:List (List Int)) (z:Int):Prop:=Pic p∧0≤z∧z < p.length
instance (p:List (List Int)) (z:Int):Decidable (Nod p z):=by unfold Nod;infer_instance
theorem Xl {α : Type} {l:List α} {i:Nat} {d : α} (h:i < l.length):l.getD i d=l[i]:=by simp [List.getD_eq_getElem?_getD,h]
theorem Gr.row {p:List (List Int)} (h:Gr p) {i:Nat} (hi:i < p.length):p[i].length=p.length:=(h.2.2 _ (List.getElem_mem hi)).1
theorem Pic.row {p:List (List Int)} (h:Pic p) {i:Nat} (hi:i < p.length):p[i].length=p.length:=(h.2.2 _ (List.getElem_mem hi)).1
theorem Gr.bit01 {p:List (List Int)} (h:Gr p) (i j:Nat):bit p i j=0∨bit p i j=1:=by
 unfold bit
 by_cases hi:i < p.length
 ·rw [Xl hi]
  by_cases hj:j < p[i].length
  ·rw [Xl hj];exact (h.2.2 _ (List.getElem_mem hi)).2 _ (List.getElem_mem hj)
  ·left;rw [List.getD_eq_getElem?_getD,List.getElem?_eq_none (by omega)];rfl
 ·left;rw [List.getD_eq_getElem?_getD (l:=p),List.getElem?_eq_none (by omega)];simp
theorem Pic.bit01 {p:List (List Int)} (h:Pic p) (i j:Nat):bit p i j=0∨bit p i j=1:=h.gr.bit01 i j
def arrR (r:List Int):List Nat:=(List.range r.length).filter fun j=>decide (r.getD j 0=1)
def arr (p:List (List Int)) (i:Nat):List Nat:=arrR (p.getD i [])
def ints (l:List Nat):List Int:=l.map fun (n:Nat)=>(n:Int)
theorem Ul (l:List Nat):(ints l).length=l.length:=by simp [ints]
theorem ints_append (a b:List Nat):ints (a++b)=ints a++ints b:=by simp [ints]
theorem mem_arrR {r:List Int} {j:Nat} : j ∈ arrR r↔j < r.length∧r.getD j 0=1:=by simp [arrR]
theorem Mn (r:List Int):(arrR r).length≤r.length:=by
 unfold arrR;exact Nat.le_trans (List.length_filter_le _ _) (by simp)
theorem Rc {p:List (List Int)} (h:Gr p) {i j:Nat} (hi:i < p.length):j ∈ arr p i↔j < p.length∧bit p i j=1:=by
 unfold arr bit
 rw [mem_arrR,Xl hi,h.row hi]
theorem Qb (f:Nat→Bool) (k:Nat):(List.range (k+1)).filter f=(List.range k).filter f++if f k then [k] else []:=by
 rw [List.range_succ,List.filter_append];simp [List.filter_cons]
theorem ext_take {α : Type} {xs ys:List α} (hl:xs.length=ys.length) (h:xs.take xs.length=ys.take xs.length):xs=ys:=by
 rw [List.take_length,hl,List.take_length] at h;exact h
theorem Ua {α : Type} (l:List α) (k:Nat) (h:k < l.length):l.take (k+1)=l.take k++[l[k]]:=by
 rw [List.take_succ_eq_append_getElem h]
theorem set_fill {α : Type} (l:List α) (k:Nat) (h:k < l.length) (z : α):(l.take k++List.replicate (l.length - k) z).set k l[k]=l.take (k+1)++List.replicate (l.length - (k+1)) z:=by
 have e:l.length - k=(l.length - (k+1))+1:=by omega
 rw [e,List.replicate_succ,List.set_append_right _ _ (by simp;omega)]
 rw [Ua l k h]
 simp [Nat.min_eq_left (Nat.le_of_lt h),-List.take_append_getElem]
def mch (p:List (List Int)) (S:Nat→Nat→Bool) (a b:Nat):Bool:=(arr p a).all fun k=>(arr p b).any fun j=>S k j
def bsm (p:List (List Int)):Nat→Nat→Nat→Bool
 | 0=>fun _ _=>true
 | n+1=>fun a b=>bsm p n a b && (mch p (bsm p n) a b && mch p (bsm p n) b a)
section
variable {p:List (List Int)} {a b n:Nat}
theorem Lo : ∀ (n a b:Nat),bsm p n a b=bsm p n b a:=by
 intro n
 induction n with
 | zero=>intro a b;rfl
 | succ n ih =>
   intro a b
   simp only [bsm]
   rw [ih a b, Bool.and_comm (mch p (bsm p n) a b)]
theorem mch_flip {S:Nat→Nat→Bool} (h : ∀ a b,S a b=S b a):mch p S b a=(arr p b).all fun y=>(arr p a).any fun x=>S x y:=by
 unfold mch
 congr 1;funext k;congr 1;funext j
 exact h k j
theorem bsm_le (h:bsm p (n+1) a b=true):bsm p n a b=true:=by
 simp only [bsm,Bool.and_eq_true] at h;exact h.1
theorem all_range_succ (g:Nat→Bool) (k:Nat):(List.range (k+1)).all g=((List.range k).all g && g k):=by rw [List.range_succ,List.all_append];simp
theorem all_false {P:Nat→Bool} {k n:Nat} (h:k≤n) (h2:(List.range k).all P=false):(List.range n).all P=false:=by
 rw [List.all_eq_false] at *
 obtain ⟨x,hx,hq⟩:=h2
 exact ⟨x,List.mem_range.2 (by have:=List.mem_range.1 hx;omega),hq⟩
theorem any_range_succ' (g:Nat→Bool) (k:Nat):(List.range (k+1)).any g=((List.range k).any g || g k):=by rw [List.range_succ,List.any_append];simp
theorem arr_all (hp:Gr p) {i:Nat} (hi:i < p.length) (g:Nat→Bool):(arr p i).all g=(List.range p.length).all fun j=>!decide (p[i].getD j 0=1) || g j:=by
 unfold arr arrR
 rw [Xl hi,hp.row hi,List.all_filter]
theorem arr_any' (hp:Gr p) {i:Nat} (hi:i < p.length) (g:Nat→Bool):(arr p i).any g=(List.range p.length).any fun j=>decide (p[i].getD j 0=1) && g j:=by
 unfold arr arrR
 rw [Xl hi,hp.row hi,List.any_filter]
theorem Gr.el01 (hp:Gr p) {i j:Nat} (hi:i < p.length) (hj:j < p[i].length):p[i][j]=0∨p[i][j]=1:=(hp.2.2 _ (List.getElem_mem hi)).2 _ (List.getElem_mem hj)
def b01 (b:Bool):Int:=if b then 1 else 0
def matV (p:List (List Int)) (S:Nat→Nat→Bool):List (List Int):=(List.range p.length).map fun a=>(List.range p.length).map fun b=>b01 (S a b)
theorem Rp (S:Nat→Nat→Bool):(matV p S).length=p.length:=by simp [matV]
theorem matV_row {S:Nat→Nat→Bool} (ha:a < p.length):(matV p S)[a]'(by rw [Rp];exact ha)=(List.range p.length).map fun b=>b01 (S a b):=by simp [matV]
theorem Sm {S:Nat→Nat→Bool} (ha:a < p.length):((matV p S)[a]'(by rw [Rp];exact ha)).length=p.length:=by rw [matV_row ha];simp
theorem b01_one {b:Bool} : b01 b=1↔b=true:=by cases b <;> simp [b01]
theorem Tp {S:Nat→Nat→Bool} (ha:a < p.length) (hb:b < p.length):((matV p S)[a]'(by rw [Rp];exact ha))[b]'(by rw [Sm ha];exact hb)=b01 (S a b):=by
 simp [matV]
theorem matV_zero:List.replicate p.length (List.replicate p.length (1:Int))=matV p (bsm p 0):=by
 have hr : ∀ {α : Type} (n:Nat) (x : α),(List.range n).map (fun _=>x)=List.replicate n x:=fun n x=>by
  rw [List.map_const'];simp
 unfold matV
 simp only [bsm,b01,if_pos,if_true]
 rw [hr,hr]
def leftV (p:List (List Int)) (z:Int):List (List Int):=if Pic p∧0≤z∧z≤30 then matV p (bsm p z.toNat) else []
end
open Classical
inductive Rch (p:List (List Int)):Nat→Nat→Prop
 | refl (i:Nat):Rch p i i
 | step {i k j:Nat} : Rch p i k→j ∈ arr p k→Rch p i j
section
variable {p:List (List Int)} {i j k n:Nat}
theorem Rch.trans (h:Rch p i k) (h2:Rch p k j):Rch p i j:=by
 induction h2 with
 | refl=>exact h
 | step _ hj ih=>exact ih.step hj
theorem Rch.head (h:k ∈ arr p i) (h2:Rch p k j):Rch p i j:=((Rch.refl i).step h).trans h2
theorem Rch.heads (h:Rch p i j):i=j∨∃ k ∈ arr p i,Rch p k j:=by
 induction h with
 | refl=>exact .inl rfl
 | step h hj ih =>
   rcases ih with rfl | ⟨k', h1, h2⟩
   · exact .inr ⟨_, hj, .refl _⟩
   · exact .inr ⟨k', h1, h2.step hj⟩
theorem Rch.lt (hp:Gr p) (hi:i < p.length) (h:Rch p i j):j < p.length:=by
 induction h with
 | refl=>exact hi
 | step h hj ih=>exact ((Rc hp ih).1 hj).1
noncomputable def cnt (P:Nat→Prop):Nat→Nat
 | 0=>0
 | n+1=>cnt P n+if P n then 1 else 0
theorem cnt_le (P:Nat→Prop) (n:Nat):cnt P n≤n:=by
 induction n with
 | zero=>exact Nat.le_refl _
 | succ n ih=>simp only [cnt];split <;> omega
theorem cnt_mono {P Q:Nat→Prop} (h : ∀ j,j < n→P j→Q j):cnt P n≤cnt Q n:=by
 induction n with
 | zero=>exact Nat.le_refl _
 | succ n ih =>
   have := ih fun j hj => h j (by omega)
   have h2 := h n (by omega)
   simp only [cnt]
   split <;> split <;> first | omega | (exfalso; simp_all)
theorem cnt_lt {P Q:Nat→Prop} (h : ∀ j,j < n→P j→Q j) (hk:k < n) (h1:Q k) (h2 : ¬P k):cnt P n < cnt Q n:=by
 induction n with
 | zero=>omega
 | succ n ih =>
   simp only [cnt]
   by_cases e : k = n
   · subst e
     have := cnt_mono (n := k) fun j hj => h j (by omega)
     rw [if_neg h2, if_pos h1]; omega
   · have := ih (fun j hj => h j (by omega)) (by omega)
     have h3 := h n (by omega)
     split <;> split <;> first | omega | (exfalso; simp_all)
theorem cnt_pos {P:Nat→Prop} (hk:k < n) (h1:P k):1≤cnt P n:=by
 have:=cnt_lt (n:=n) (P:=fun _=>False) (Q:=P) (fun _ _ h=>h.elim) hk h1 id
 omega
def st (p:List (List Int)) (i:Nat):Nat→Nat→Prop
 | 0,j=>j=i
 | r+1,j=>st p i r j∨∃ k,st p i r k∧j ∈ arr p k
theorem st_rch {r:Nat} (h:st p i r j):Rch p i j:=by
 induction r generalizing j with
 | zero=>cases h;exact .refl _
 | succ r ih =>
   rcases h with h | ⟨k, h1, h2⟩
   · exact ih h
   · exact (ih h1).step h2
theorem st_self (r:Nat):st p i r i:=by
 induction r with
 | zero=>rfl
 | succ r ih=>exact .inl ih
theorem st_stable (hp:Gr p) (hi:i < p.length) (r:Nat):(∀ j,st p i (r+1) j→st p i r j)∨r+1≤cnt (st p i r) p.length:=by
 induction r with
 | zero=>exact .inr (cnt_pos hi rfl)
 | succ r ih =>
   by_cases hs : ∀ j, st p i (r + 1) j → st p i r j
   · left
     intro j hj
     rcases hj with h | ⟨k, h1, h2⟩
     · exact h
     · exact .inr ⟨k, hs k h1, h2⟩
   · right
     rcases ih with h | h
     · exact absurd h hs
     · obtain ⟨k, hk⟩ := Classical.not_forall.1 hs
       obtain ⟨hk1, hk2⟩ := Classical.not_imp.1 hk
       have := cnt_lt (P := st p i r) (Q := st p i (r + 1)) (fun j _ h => .inl h) ((st_rch hk1).lt hp hi) hk1 hk2
       omega
theorem rch_st (hp:Gr p) (hi:i < p.length) (h:Rch p i j):st p i p.length j:=by
 have hs : ∀ j,st p i (p.length+1) j→st p i p.length j:=by
  rcases st_stable hp hi p.length with h | h
  ·exact h
  ·have:=cnt_le (st p i p.length) p.length;omega
 induction h with
 | refl=>exact st_self _
 | step h hj ih=>exact hs _ (.inr ⟨_,ih,hj⟩)
noncomputable def rch (p:List (List Int)) (i j:Nat):Bool:=decide (Rch p i j)
theorem rch_iff:rch p i j=true↔Rch p i j:=decide_eq_true_iff
noncomputable def rf (p:List (List Int)) (i:Nat):List Nat:=(List.range p.length).filter (rch p i)
theorem Sd (hp:Gr p) (hi:i < p.length):j ∈ rf p i↔Rch p i j:=by
 simp only [rf,List.mem_filter,List.mem_range,rch_iff]
 exact ⟨fun h=>h.2,fun h=>⟨h.lt hp hi,h⟩⟩
theorem Lq:(rf p i).length≤p.length:=Nat.le_trans (List.length_filter_le _ _) (by simp)
noncomputable def sortI (xs:List Int):List Int:=xs.mergeSort fun x y=>decide (x≤y)
theorem sortI_len (xs:List Int):(sortI xs).length=xs.length:=by unfold sortI;simp
theorem sortI_eq {xs ys:List Int} (h:xs.Perm ys) (hs:ys.Pairwise (·≤·)):sortI xs=ys:=by
 refine List.Perm.eq_of_pairwise (le:=(·≤·)) (fun a b _ _ h1 h2=>Int.le_antisymm h1 h2) ?_ hs ((List.mergeSort_perm _ _).trans h)
 refine (List.pairwise_mergeSort (fun a b c h1 h2=>?_) (fun a b=>?_) xs).imp (fun h=>by simpa using h)
 ·simp only [decide_eq_true_eq] at *;omega
 ·simp only [Bool.or_eq_true,decide_eq_true_eq];omega
theorem ints_mono {l:List Nat} (h:l.Pairwise (· < ·)):(ints l).Pairwise (·≤·):=by
 unfold ints
 rw [List.pairwise_map]
 exact h.imp (fun h=>by omega)
theorem mem_ints {l:List Nat} {x:Nat} : (x:Int) ∈ ints l↔x ∈ l:=by
 unfold ints
 rw [List.mem_map]
 exact ⟨fun ⟨y,h1,h2⟩=>by rw [show x=y by omega];exact h1,fun h=>⟨x,h,rfl⟩⟩
theorem contains_ints {l:List Nat} {x:Nat} : decide ((x:Int) ∈ ints l)=l.contains x:=by
 rw [Bool.eq_iff_iff,decide_eq_true_iff,mem_ints,List.contains_iff_mem]
theorem Qh {l:List Nat} {k:Nat} (h:k < l.length):(ints l)[k]'(by rw [Ul];exact h)=((l[k]:Nat):Int):=by simp [ints]
theorem Ta (f:Nat→Bool) (n:Nat):((List.range n).filter f).Pairwise (· < ·):=List.pairwise_lt_range.filter f
theorem pw_nodup {l:List Nat} (h:l.Pairwise (· < ·)):l.Nodup:=h.imp (fun h=>by omega)
theorem bfs (hp:Gr p) (hi:i < p.length) {l:List Nat} (hn:l.Nodup) (h0:i ∈ l) (hs : ∀ j ∈ l,Rch p i j) (hc : ∀ k ∈ l,∀ j ∈ arr p k,j ∈ l):sortI (ints l)=ints (rf p i):=by
 refine sortI_eq ?_ (ints_mono (Ta _ _))
 refine List.Perm.map _ ((List.perm_ext_iff_of_nodup hn (pw_nodup (Ta _ _))).2 fun j=>?_)
 rw [show (j ∈ (List.range p.length).filter (rch p i))↔Rch p i j from Sd hp hi]
 refine ⟨hs j,fun h=>?_⟩
 induction h with
 | refl=>exact h0
 | step h hj ih=>exact hc _ ih _ hj
theorem Nj {l:List Nat} (hn:l.Nodup) (hl : ∀ j ∈ l,j < n):l.length≤n:=by
 have h:=List.Nodup.length_le_of_subset hn (l₂:=List.range n) (fun j hj=>List.mem_range.2 (hl j hj))
 simpa using h
noncomputable def onl (p:List (List Int)) (u:Nat):Bool:=(arr p u).any fun v=>(rf p v).contains u
noncomputable def cback (p:List (List Int)) (i:Nat):Bool:=(rf p i).any (onl p)
theorem Mw (hp:Gr p) (hi:i < p.length):cback p i=true↔∃ u v,Rch p i u∧v ∈ arr p u∧Rch p v u:=by
 unfold cback onl
 simp only [List.any_eq_true,List.contains_iff_mem]
 constructor
 ·rintro ⟨u,h1,v,h2,h3⟩
  have h4:=(Sd hp hi).1 h1
  have hv:v < p.length:=((Rc hp (h4.lt hp hi)).1 h2).1
  exact ⟨u,v,h4,h2,(Sd hp hv).1 h3⟩
 ·rintro ⟨u,v,h1,h2,h3⟩
  have hv:v < p.length:=((Rc hp (h1.lt hp hi)).1 h2).1
  exact ⟨u,(Sd hp hi).2 h1,v,h2,(Sd hp hv).2 h3⟩
theorem cback_step (hp:Gr p) (hi:i < p.length):cback p i=true↔∃ j ∈ arr p i,cback p j=true:=by
 rw [Mw hp hi]
 constructor
 ·rintro ⟨u,v,h1,h2,h3⟩
  rcases h1.heads with rfl | ⟨k,hk,h4⟩
  ·refine ⟨v,h2,(Mw hp ((Rc hp hi).1 h2).1).2 ⟨i,v,h3,h2,h3⟩⟩
  ·exact ⟨k,hk,(Mw hp ((Rc hp hi).1 hk).1).2 ⟨u,v,h4,h2,h3⟩⟩
 ·rintro ⟨j,hj,h⟩
  obtain ⟨u,v,h1,h2,h3⟩:=(Mw hp ((Rc hp hi).1 hj).1).1 h
  exact ⟨u,v,h1.head hj,h2,h3⟩
end
section
variable {p:List (List Int)} {a b c d n m:Nat}
theorem mch_iff {S:Nat→Nat→Bool} : mch p S a b=true↔∀ k ∈ arr p a,∃ j ∈ arr p b,S k j=true:=by simp [mch,List.all_eq_true,List.any_eq_true]
theorem bsm_succ:bsm p (n+1) a b=true↔bsm p n a b=true∧(∀ k ∈ arr p a,∃ j ∈ arr p b,bsm p n k j=true)∧(∀ k ∈ arr p b,∃ j ∈ arr p a,bsm p n k j=true):=by
 simp only [bsm,Bool.and_eq_true,mch_iff]
theorem bsm_refl : ∀ (n a:Nat),bsm p n a a=true:=by
 intro n
 induction n with
 | zero=>intro a;rfl
 | succ n ih=>intro a;exact bsm_succ.2 ⟨ih a,fun k hk=>⟨k,hk,ih k⟩,fun k hk=>⟨k,hk,ih k⟩⟩
theorem My : ∀ (n:Nat) {a b c:Nat},bsm p n a b=true→bsm p n b c=true→bsm p n a c=true:=by
 intro n
 induction n with
 | zero=>intro a b c _ _;rfl
 | succ n ih =>
   intro a b c h1 h2
   obtain ⟨h3, h4, h5⟩ := bsm_succ.1 h1
   obtain ⟨h6, h7, h8⟩ := bsm_succ.1 h2
   refine bsm_succ.2 ⟨ih h3 h6, fun k hk => ?_, fun k hk => ?_⟩
   · obtain ⟨j, hj, e⟩ := h4 k hk
     obtain ⟨i, hi, e2⟩ := h7 j hj
     exact ⟨i, hi, ih e e2⟩
   · obtain ⟨j, hj, e⟩ := h8 k hk
     obtain ⟨i, hi, e2⟩ := h5 j hj
     exact ⟨i, hi, ih e e2⟩
def ldr (p:List (List Int)) (n a:Nat):Prop:=∀ b,b < a→bsm p n b a=false
theorem ldr_ex (n:Nat) : ∀ a,∃ c,c≤a∧ldr p n c∧bsm p n c a=true:=by
 intro a
 induction a using Nat.strongRecOn with
 | ind a ih =>
   by_cases h : ldr p n a
   · exact ⟨a, Nat.le_refl _, h, bsm_refl _ _⟩
   · obtain ⟨b, hb⟩ := Classical.not_forall.1 h
     obtain ⟨hb, h2⟩ := Classical.not_imp.1 hb
     obtain ⟨c, hc, h3, h4⟩ := ih b hb
     exact ⟨c, by omega, h3, My n h4 (by simpa using h2)⟩
theorem ldr_eq (h1:ldr p n c) (h2:ldr p n d) (h:bsm p n c d=true):c=d:=by
 rcases Nat.lt_trichotomy c d with hl | rfl | hl
 ·rw [h2 c hl] at h;cases h
 ·rfl
 ·rw [Lo,h1 d hl] at h;cases h
theorem ldr_up (h:ldr p n a):ldr p (n+1) a:=fun b hb=>by
 cases hc:bsm p (n+1) b a with
 | false=>rfl
 | true=>have:=bsm_le hc;rw [h b hb] at this;cases this
def stab (p:List (List Int)) (n:Nat):Prop:=∀ a b,a < p.length→b < p.length→bsm p n a b=true→bsm p (n+1) a b=true
theorem stab_of (h : ∀ a,a < p.length→ldr p (n+1) a→ldr p n a):stab p n:=fun a b ha hb hab=>by
 obtain ⟨c,hc,hc1,hc2⟩:=ldr_ex (p:=p) (n+1) a
 obtain ⟨d,hd,hd1,hd2⟩:=ldr_ex (p:=p) (n+1) b
 have e:c=d:=by
  refine ldr_eq (h c (by omega) hc1) (h d (by omega) hd1) (My n (bsm_le hc2) (My n hab ?_))
  rw [Lo];exact bsm_le hd2
 subst e
 refine My (n+1) ?_ hd2
 rw [Lo];exact hc2
theorem Qm (hp:Gr p) (ha:a < p.length) (h:b ∈ arr p a):b < p.length:=((Rc hp ha).1 h).1
theorem stab_succ (hp:Gr p) (h:stab p n):stab p (n+1):=fun a b ha hb hab=>by
 obtain ⟨h1,h2,h3⟩:=bsm_succ.1 hab
 refine bsm_succ.2 ⟨hab,fun k hk=>?_,fun k hk=>?_⟩
 ·obtain ⟨j,hj,e⟩:=h2 k hk
  exact ⟨j,hj,h _ _ (Qm hp ha hk) (Qm hp hb hj) e⟩
 ·obtain ⟨j,hj,e⟩:=h3 k hk
  exact ⟨j,hj,h _ _ (Qm hp hb hk) (Qm hp ha hj) e⟩
theorem stab_or (hp:Gr p) : ∀ n,stab p n∨n+1 < cnt (ldr p (n+1)) p.length:=by
 have key : ∀ n,stab p n∨cnt (ldr p n) p.length < cnt (ldr p (n+1)) p.length:=fun n=>by
  by_cases h : ∀ a,a < p.length→ldr p (n+1) a→ldr p n a
  ·exact .inl (stab_of h)
  ·right
   obtain ⟨a,ha⟩:=Classical.not_forall.1 h
   obtain ⟨ha,h2⟩:=Classical.not_imp.1 ha
   obtain ⟨h2,h3⟩:=Classical.not_imp.1 h2
   exact cnt_lt (fun j _ hj=>ldr_up hj) ha h2 h3
 intro n
 induction n with
 | zero =>
   rcases key 0 with h | h
   · exact .inl h
   · have := cnt_pos (P := ldr p 0) (k := 0) (n := p.length) (by have := hp.1; omega) (fun b hb => by omega)
     right; omega
 | succ n ih =>
   rcases ih with h | h
   · exact .inl (stab_succ hp h)
   · rcases key (n + 1) with h2 | h2
     · exact .inl h2
     · right; omega
theorem stab_len (hp:Gr p) (h:p.length≤n+1):stab p n:=by
 rcases stab_or hp n with h1 | h1
 ·exact h1
 ·have:=cnt_le (ldr p (n+1)) p.length;omega
end
section
variable {p q s:List (List Int)} {a b c x y z k j n m:Nat}
def Bis (p:List (List Int)) (a:Nat) (q:List (List Int)) (b:Nat):Prop :=
 ∃ R:Nat→Nat→Prop,R a b∧∀ x y,R x y→(∀ k ∈ arr p x,∃ j ∈ arr q y,R k j)∧(∀ j ∈ arr q y,∃ k ∈ arr p x,R k j)
theorem Bis.symm (h:Bis p a q b):Bis q b p a:=by
 obtain ⟨R,h1,h2⟩:=h
 exact ⟨fun x y=>R y x,h1,fun x y h=>⟨(h2 y x h).2,(h2 y x h).1⟩⟩
theorem Bis.trans (h:Bis p a q b) (h':Bis q b s c):Bis p a s c:=by
 obtain ⟨R,h1,h2⟩:=h
 obtain ⟨S,h3,h4⟩:=h'
 refine ⟨fun x z=>∃ y,R x y∧S y z,⟨b,h1,h3⟩,fun x z ⟨y,h5,h6⟩=>⟨fun k hk=>?_,fun k hk=>?_⟩⟩
 ·obtain ⟨j,hj,e⟩:=(h2 x y h5).1 k hk
  obtain ⟨i,hi,e2⟩:=(h4 y z h6).1 j hj
  exact ⟨i,hi,j,e,e2⟩
 ·obtain ⟨j,hj,e⟩:=(h4 y z h6).2 k hk
  obtain ⟨i,hi,e2⟩:=(h2 x y h5).2 j hj
  exact ⟨i,hi,j,e2,e⟩
theorem Bis.fst (h:Bis p a q b) : ∀ k ∈ arr p a,∃ j ∈ arr q b,Bis p k q j:=by
 obtain ⟨R,h1,h2⟩:=h
 intro k hk
 obtain ⟨j,hj,e⟩:=(h2 a b h1).1 k hk
 exact ⟨j,hj,R,e,h2⟩
theorem Bis.snd (h:Bis p a q b) : ∀ j ∈ arr q b,∃ k ∈ arr p a,Bis p k q j:=by
 obtain ⟨R,h1,h2⟩:=h
 intro k hk
 obtain ⟨j,hj,e⟩:=(h2 a b h1).2 k hk
 exact ⟨j,hj,R,e,h2⟩
theorem Bis.rch (h:Bis p a q b) (hr:Rch p a x) : ∃ y,Rch q b y∧Bis p x q y:=by
 induction hr with
 | refl=>exact ⟨b,.refl _,h⟩
 | step h1 hj ih =>
   obtain ⟨y, h2, h3⟩ := ih
   obtain ⟨j, hj', e⟩ := h3.fst _ hj
   exact ⟨j, h2.step hj', e⟩
def eqv (p:List (List Int)) (a b:Nat):Bool:=bsm p p.length a b
theorem Bis.bsm (h:Bis p a p b) : ∀ n,bsm p n a b=true:=by
 intro n
 obtain ⟨R,h1,h2⟩:=h
 induction n generalizing a b with
 | zero=>rfl
 | succ n ih =>
   refine bsm_succ.2 ⟨ih h1, fun k hk => ?_, fun k hk => ?_⟩
   · obtain ⟨j, hj, e⟩ := (h2 a b h1).1 k hk
     exact ⟨j, hj, ih e⟩
   · obtain ⟨j, hj, e⟩ := (h2 a b h1).2 k hk
     refine ⟨j, hj, ?_⟩
     rw [Lo]; exact ih e
theorem bis_of_eqv (hp:Gr p) (ha:a < p.length) (hb:b < p.length) (h:eqv p a b=true):Bis p a p b:=by
 refine ⟨fun x y=>x < p.length∧y < p.length∧eqv p x y=true,⟨ha,hb,h⟩,fun x y ⟨h1,h2,h3⟩=>?_⟩
 obtain ⟨_,h4,h5⟩:=bsm_succ.1 (stab_len hp (Nat.le_succ _) x y h1 h2 h3)
 refine ⟨fun k hk=>?_,fun k hk=>?_⟩
 ·obtain ⟨j,hj,e⟩:=h4 k hk
  exact ⟨j,hj,Qm hp h1 hk,Qm hp h2 hj,e⟩
 ·obtain ⟨j,hj,e⟩:=h5 k hk
  refine ⟨j,hj,Qm hp h1 hj,Qm hp h2 hk,?_⟩
  unfold eqv;rw [Lo];exact e
theorem eqv_iff (hp:Gr p) (ha:a < p.length) (hb:b < p.length):eqv p a b=true↔Bis p a p b:=⟨bis_of_eqv hp ha hb,fun h=>h.bsm _⟩
def knd (p:List (List Int)) (a:Nat):Nat:=((List.range p.length).find? fun b=>eqv p a b).getD 0
theorem Ns (ha:a < p.length):knd p a < p.length∧eqv p a (knd p a)=true∧∀ b,b < knd p a→eqv p a b=false:=by
 unfold knd
 cases h:(List.range p.length).find? fun b=>eqv p a b with
 | none =>
   have := List.find?_eq_none.1 h a (List.mem_range.2 ha)
   exact absurd (bsm_refl _ _) this
 | some b =>
   simp only [Option.getD_some]
   obtain ⟨h1, as1, bs, h2, h3⟩ := List.find?_eq_some_iff_append.1 h
   have hb : b < p.length := List.mem_range.1 (by rw [h2]; simp)
   refine ⟨hb, h1, fun i hi => ?_⟩
   have hpw : (List.range p.length).Pairwise (· < ·) := List.pairwise_lt_range
   rw [h2, List.pairwise_append] at hpw
   have hm : i ∈ as1 ++ b :: bs := by rw [← h2]; exact List.mem_range.2 (by omega)
   rcases List.mem_append.1 hm with hm | hm
   · simpa using h3 i hm
   · rcases List.mem_cons.1 hm with rfl | hm
     · omega
     · have := (List.pairwise_cons.1 hpw.2.1).1 i hm; omega
theorem eqv_sym (a b:Nat):eqv p a b=eqv p b a:=Lo _ _ _
theorem eqv_trans (h:eqv p a b=true) (h2:eqv p b c=true):eqv p a c=true:=My _ h h2
theorem Ln (ha:a < p.length):knd p a < p.length:=(Ns ha).1
theorem knd_eq_iff (ha:a < p.length) (hb:b < p.length):knd p a=knd p b↔eqv p a b=true:=by
 obtain ⟨h1,h2,h3⟩:=Ns ha
 obtain ⟨h4,h5,h6⟩:=Ns hb
 constructor
 ·intro e
  refine eqv_trans h2 ?_
  rw [e,eqv_sym];exact h5
 ·intro e
  rcases Nat.lt_trichotomy (knd p a) (knd p b) with hl | he | hl
  ·have:=h6 _ hl
   rw [eqv_trans (by rw [eqv_sym];exact e) h2] at this;cases this
  ·exact he
  ·have:=h3 _ hl
   rw [eqv_trans e h5] at this;cases this
theorem Tf (hp:Gr p) (ha:a < p.length) (hb:b < p.length):knd p a=knd p b↔Bis p a p b:=(knd_eq_iff ha hb).trans (eqv_iff hp ha hb)
theorem Nn (hp:Gr p) (ha:a < p.length):Bis p a p (knd p a):=bis_of_eqv hp ha (Ln ha) (Ns ha).2.1
theorem knd_knd (ha:a < p.length):knd p (knd p a)=knd p a:=((knd_eq_iff ha (Ln ha)).2 (Ns ha).2.1).symm
def qp (p:List (List Int)) (L:List Nat):List (List Int):=L.map fun x=>L.map fun y=>b01 ((arr p x).any fun j=>decide (knd p j=y))
def Kds (p:List (List Int)) (a:Nat) (L:List Nat):Prop:=L.Nodup∧L.head? = some (knd p a)∧∀ x,x ∈ L↔∃ y,Rch p a y∧knd p y=x
def Cand (p:List (List Int)) (a:Nat) (c:List (List Int)):Prop:=∃ L,Kds p a L∧c=qp p L
theorem qp_len {L:List Nat} : (qp p L).length=L.length:=by simp [qp]
theorem qp_rlen {L:List Nat} (r:List Int) (h:r ∈ qp p L):r.length=L.length:=by
 obtain ⟨x,_,rfl⟩:=List.mem_map.1 h
 simp
theorem qp_bits {L:List Nat} (r:List Int) (h:r ∈ qp p L) (x:Int) (hx:x ∈ r):x=0∨x=1:=by
 obtain ⟨x,_,rfl⟩:=List.mem_map.1 h
 obtain ⟨y,_,rfl⟩:=List.mem_map.1 hx
 unfold b01;split <;> simp
theorem arr_qp {L:List Nat} {i m:Nat} (hi:i < L.length):m ∈ arr (qp p L) i↔∃ hm:m < L.length,∃ j ∈ arr p L[i],knd p j=L[m]:=by
 have e:(qp p L).getD i []=L.map fun y=>b01 ((arr p L[i]).any fun j=>decide (knd p j=y)):=by
  rw [Xl (by rw [qp_len];exact hi)]
  simp [qp]
 unfold arr
 rw [mem_arrR,e]
 simp only [List.length_map]
 constructor
 ·rintro ⟨h1,h2⟩
  refine ⟨h1,?_⟩
  rw [Xl (by simpa using h1)] at h2
  simp only [List.getElem_map,b01_one,List.any_eq_true,decide_eq_true_eq] at h2
  exact h2
 ·rintro ⟨h1,h2⟩
  refine ⟨h1,?_⟩
  rw [Xl (by simpa using h1)]
  simp only [List.getElem_map,b01_one,List.any_eq_true,decide_eq_true_eq]
  exact h2
theorem Kds.lt {L:List Nat} (hp:Gr p) (ha:a < p.length) (h:Kds p a L) (hx:x ∈ L):x < p.length:=by
 obtain ⟨y,h1,rfl⟩:=(h.2.2 x).1 hx
 exact Ln (h1.lt hp ha)
theorem Kds.len {L:List Nat} (hp:Gr p) (ha:a < p.length) (h:Kds p a L):1≤L.length∧L.length≤p.length:=by
 refine ⟨?_,Nj h.1 fun j hj=>h.lt hp ha hj⟩
 have:=h.2.1
 cases L with
 | nil=>cases this
 | cons _ _=>simp
theorem Kds.kk {L:List Nat} (hp:Gr p) (ha:a < p.length) (h:Kds p a L) (hx:x ∈ L):knd p x=x:=by
 obtain ⟨y,h1,rfl⟩:=(h.2.2 x).1 hx
 exact knd_knd (h1.lt hp ha)
theorem Kds.perm {L L':List Nat} (h:Kds p a L) (h':Kds p a L'):L.Perm L':=(List.perm_ext_iff_of_nodup h.1 h'.1).2 fun x=>(h.2.2 x).trans (h'.2.2 x).symm
theorem Cand.len {c c':List (List Int)} (h:Cand p a c) (h':Cand p a c'):c.length=c'.length:=by
 obtain ⟨L,h1,rfl⟩:=h
 obtain ⟨L',h1',rfl⟩:=h'
 rw [qp_len,qp_len];exact (h1.perm h1').length_eq
theorem Cand.gr {c:List (List Int)} (hp:Gr p) (ha:a < p.length) (h:Cand p a c):Gr c:=by
 obtain ⟨L,h1,rfl⟩:=h
 have:=h1.len hp ha
 refine ⟨by rw [qp_len];exact this.1,by rw [qp_len];have:=hp.2.1;omega,fun r hr=>⟨by rw [qp_len];exact qp_rlen r hr,qp_bits r hr⟩⟩
theorem Cand.pic {c:List (List Int)} (hp:Gr p) (ha:a < p.length) (h:Cand p a c) (h5:c.length≤5):Pic c:=by
 have:=h.gr hp ha
 exact ⟨this.1,h5,this.2.2⟩
theorem Cand.bis {c:List (List Int)} (hp:Gr p) (ha:a < p.length) (h:Cand p a c):Bis p a c 0:=by
 obtain ⟨L,hL,rfl⟩:=h
 have hlen:=hL.len hp ha
 have h0:L[0]'(by omega)=knd p a:=by
  have:=hL.2.1
  rw [List.head?_eq_getElem?,List.getElem?_eq_getElem (by omega)] at this
  exact Option.some.inj this
 refine ⟨fun y i=>Rch p a y∧∃ hi:i < L.length,knd p y=L[i],⟨.refl _,by omega,h0.symm⟩,fun y i ⟨h1,hi,h2⟩=>?_⟩
 have hy:=h1.lt hp ha
 have hb:=Nn hp hy
 rw [h2] at hb
 refine ⟨fun k hk=>?_,fun m hm=>?_⟩
 ·have hr:=h1.step hk
  obtain ⟨m,hm,e⟩:=List.mem_iff_getElem.1 ((hL.2.2 (knd p k)).2 ⟨k,hr,rfl⟩)
  obtain ⟨j,hj,e2⟩:=hb.fst k hk
  refine ⟨m,(arr_qp hi).2 ⟨hm,j,hj,?_⟩,hr,hm,e.symm⟩
  rw [e]
  exact ((Tf hp (hr.lt hp ha) (Qm hp (hL.lt hp ha (List.getElem_mem hi)) hj)).2 e2).symm
 ·obtain ⟨hm,j,hj,e⟩:=(arr_qp hi).1 hm
  obtain ⟨k,hk,e2⟩:=hb.snd j hj
  have hr:=h1.step hk
  refine ⟨k,hk,hr,hm,?_⟩
  rw [← e]
  exact (Tf hp (hr.lt hp ha) (Qm hp (hL.lt hp ha (List.getElem_mem hi)) hj)).2 e2
theorem Bis.cand {c:List (List Int)} (hp:Gr p) (hq:Gr q) (ha:a < p.length) (hb:b < q.length) (h:Bis p a q b) (hc:Cand p a c):Cand q b c:=by
 obtain ⟨L,hL,rfl⟩:=hc
 let φ : Nat→Nat:=fun x=>if hx : ∃ y,y < q.length∧Bis p x q y then knd q (Classical.choose hx) else 0
 have hφ : ∀ x y,y < q.length→Bis p x q y→φ x=knd q y:=fun x y hy hxy=>by
  have hx : ∃ y,y < q.length∧Bis p x q y:=⟨y,hy,hxy⟩
  have e : φ x=knd q (Classical.choose hx):=dif_pos hx
  have hs:=Classical.choose_spec hx
  rw [e]
  exact (Tf hq hs.1 hy).2 (hs.2.symm.trans hxy)
 have hex : ∀ x ∈ L,∃ z,Rch q b z∧Bis p x q z:=fun x hx=>by
  obtain ⟨y,h1,rfl⟩:=(hL.2.2 x).1 hx
  obtain ⟨z,h2,h3⟩:=h.rch h1
  exact ⟨z,h2,(Nn hp (h1.lt hp ha)).symm.trans h3⟩
 have hxl : ∀ x ∈ L,x < p.length:=fun x hx=>hL.lt hp ha hx
 have hinj : ∀ x ∈ L,∀ x' ∈ L,φ x = φ x'→x=x':=fun x hx x' hx' e=>by
  obtain ⟨z,h1,h2⟩:=hex x hx
  obtain ⟨z',h1',h2'⟩:=hex x' hx'
  rw [hφ x z (h1.lt hq hb) h2,hφ x' z' (h1'.lt hq hb) h2'] at e
  have:=(Tf hq (h1.lt hq hb) (h1'.lt hq hb)).1 e
  have:=(Tf hp (hxl x hx) (hxl x' hx')).2 ((h2.trans this).trans h2'.symm)
  rw [hL.kk hp ha hx,hL.kk hp ha hx'] at this
  exact this
 refine ⟨L.map φ,⟨?_,?_,fun y=>?_⟩,?_⟩
 ·clear hex hxl
  obtain ⟨hn,_⟩:=hL
  unfold List.Nodup at hn ⊢
  rw [List.pairwise_map]
  refine List.Pairwise.imp_of_mem (fun {x y} hx hy hxy e=>hxy (hinj x hx y hy e)) hn
 ·rw [List.head?_map,hL.2.1]
  exact congrArg some (hφ _ b hb ((Nn hp ha).symm.trans h))
 ·rw [List.mem_map]
  constructor
  ·rintro ⟨x,hx,rfl⟩
   obtain ⟨z,h1,h2⟩:=hex x hx
   exact ⟨z,h1,(hφ x z (h1.lt hq hb) h2).symm⟩
  ·rintro ⟨z,h1,rfl⟩
   obtain ⟨y,h2,h3⟩:=h.symm.rch h1
   refine ⟨knd p y,(hL.2.2 _).2 ⟨y,h2,rfl⟩,hφ _ z (h1.lt hq hb) ((Nn hp (h2.lt hp ha)).symm.trans h3.symm)⟩
 ·unfold qp
  rw [List.map_map]
  refine List.map_congr_left fun x hx=>?_
  simp only [Function.comp,List.map_map]
  refine List.map_congr_left fun y hy=>?_
  simp only [Function.comp]
  refine congrArg b01 ?_
  rw [Bool.eq_iff_iff]
  simp only [List.any_eq_true,decide_eq_true_eq]
  obtain ⟨z,h1,h2⟩:=hex x hx
  have hz:=h1.lt hq hb
  have ex:=hφ x z hz h2
  have h3:=h2.trans (Nn hq hz)
  rw [← ex] at h3
  have hpx:=hxl x hx
  have hqx : φ x < q.length:=by rw [ex];exact Ln hz
  obtain ⟨z',h1',h2'⟩:=hex y hy
  have hz':=h1'.lt hq hb
  have ey:=hφ y z' hz' h2'
  constructor
  ·rintro ⟨j,hj,e⟩
   obtain ⟨i,hi,e2⟩:=h3.fst j hj
   refine ⟨i,hi,?_⟩
   have hpj:=Qm hp hpx hj
   rw [ey]
   refine (Tf hq (Qm hq hqx hi) hz').2 (e2.symm.trans ((Nn hp hpj).trans ?_))
   rw [e];exact h2'
  ·rintro ⟨i,hi,e⟩
   obtain ⟨j,hj,e2⟩:=h3.snd i hi
   refine ⟨j,hj,?_⟩
   have hpj:=Qm hp hpx hj
   have hqi:=Qm hq hqx hi
   rw [ey] at e
   have h5:=(Tf hq hqi hz').1 e
   have:=(Tf hp hpj (hxl y hy)).2 ((e2.trans h5).trans h2'.symm)
   rw [hL.kk hp ha hy] at this
   exact this
end
section
variable {s:UInt8} {l r x:List UInt8} {ps qs:List (List UInt8)}
def cutB (s:UInt8):List UInt8→List (List UInt8)
 | []=>[[]]
 | c :: l => if c = s then [] :: cutB s l else match cutB s l with
   | [] => [[c]]
   | x :: xs => (c :: x) :: xs
def joinB (s:UInt8):List (List UInt8)→List UInt8
 | []=>[]
 | x::xs=>x++xs.flatMap fun y=>s::y
theorem cutB_cons (c:UInt8) (l:List UInt8):cutB s (c::l)=if c=s then []::cutB s l else match cutB s l with
  | []=>[[c]]
  | x::xs=>(c::x)::xs:=rfl
theorem cutB_ne : ∀ (l:List UInt8),cutB s l≠[]
 | []=>by simp [cutB]
 | c :: l => by
   unfold cutB
   split
   · simp
   · split <;> simp
theorem cutB_snoc (c:UInt8) : ∀ (l:List UInt8) (ps:List (List UInt8)) (x:List UInt8),cutB s l=ps++[x]→cutB s (l++[c])=if c=s then ps++[x,[]] else ps++[x++[c]]:=by
 intro l
 induction l with
 | nil =>
   intro ps x h
   have : ps = [] ∧ x = [] := by
     cases ps with
     | nil => simpa [cutB] using h.symm
     | cons a b => simp [cutB] at h
   obtain ⟨rfl, rfl⟩ := this
   by_cases hc : c = s <;> simp [cutB, hc]
 | cons d l ih =>
   intro ps x h
   rw [List.cons_append]
   unfold cutB at h ⊢
   by_cases hd : d = s
   · rw [if_pos hd] at h ⊢
     cases ps with
     | nil => simp only [List.nil_append, List.cons.injEq] at h; exact absurd h.2 (cutB_ne l)
     | cons a ps =>
       simp only [List.cons_append, List.cons.injEq] at h
       rw [ih ps x h.2, ← h.1]
       split <;> simp
   · rw [if_neg hd] at h ⊢
     cases hl : cutB s l with
     | nil => exact absurd hl (cutB_ne l)
     | cons y ys =>
       rw [hl] at h
       simp only at h
       cases ps with
       | nil =>
         simp only [List.nil_append, List.cons.injEq] at h
         have := ih [] y (by rw [hl, h.2]; rfl)
         rw [this, ← h.1]
         by_cases hc : c = s <;> simp [hc]
       | cons a ps =>
         simp only [List.cons_append, List.cons.injEq] at h
         have := ih (y :: ps) x (by rw [hl, h.2]; rfl)
         rw [this, ← h.1]
         by_cases hc : c = s <;> simp [hc]
theorem Ml (h:s ∉ l):cutB s (l++s::r)=l::cutB s r:=by
 induction l with
 | nil=>simp [cutB]
 | cons c l ih =>
   rw [List.cons_append, cutB_cons, if_neg (fun e => h (by simp [e])), ih (fun hm => h (by simp [hm]))]
theorem Nr (h:s ∉ l):cutB s l=[l]:=by
 induction l with
 | nil=>rfl
 | cons c l ih =>
   unfold cutB
   rw [if_neg (fun e => h (by simp [e])), ih (fun hm => h (by simp [hm]))]
theorem cutB_join (hne:ps≠[]) (h : ∀ x ∈ ps,s ∉ x):cutB s (joinB s ps)=ps:=by
 induction ps with
 | nil=>exact absurd rfl hne
 | cons x ps ih =>
   cases ps with
   | nil =>
     have : joinB s [x] = x := by simp [joinB]
     rw [this]; exact Nr (h x (by simp))
   | cons y ps =>
     have : joinB s (x :: y :: ps) = x ++ s :: joinB s (y :: ps) := by simp [joinB]
     rw [this, Ml (h x (by simp)), ih (by simp) (fun z hz => h z (by simp only [List.mem_cons] at hz ⊢; exact .inr hz))]
theorem joinB_snoc (hne:ps≠[]):joinB s (ps++[x])=joinB s ps++s::x:=by
 cases ps with
 | nil=>exact absurd rfl hne
 | cons y ps=>simp [joinB]
theorem cutB_len (l:List UInt8):(cutB s l).length=l.count s+1:=by
 induction l with
 | nil=>rfl
 | cons c l ih =>
   unfold cutB
   split
   · rename_i hc; subst hc; simp [ih]
   · rename_i hc
     rw [List.count_cons_of_ne hc, ← ih]
     cases hl : cutB s l with
     | nil => exact absurd hl (cutB_ne l)
     | cons y ys => rfl
theorem cut_step {l:List UInt8} {from_ k:Nat} {ps:List (List UInt8)} (hk:k < l.length) (hf:from_≤k) (h:cutB s (l.take k)=ps++[(l.drop from_).take (k - from_)]) :
  (l[k]=s→cutB s (l.take (k+1))=(ps++[(l.drop from_).take (k - from_)])++[(l.drop (k+1)).take (k+1 - (k+1))])∧(l[k]≠s→cutB s (l.take (k+1))=ps++[(l.drop from_).take (k+1 - from_)]):=by
 have e:l.take (k+1)=l.take k++[l[k]]:=by rw [List.take_succ_eq_append_getElem hk]
 have e2:(l.drop from_).take (k+1 - from_)=(l.drop from_).take (k - from_)++[l[k]]:=by
  rw [show k+1 - from_=(k - from_)+1 by omega,List.take_succ_eq_append_getElem (by simp;omega)]
  simp only [List.getElem_drop]
  congr 3;omega
 have:=cutB_snoc (s:=s) l[k] _ _ _ h
 rw [e]
 refine ⟨fun hc=>?_,fun hc=>?_⟩
 ·rw [this,if_pos hc];simp
 ·rw [this,if_neg hc,e2]
end
section
open Op
theorem Ti : ∀ (a:List UInt8),bytesLess a a=false
 | []=>rfl
 | x :: a => by
   have := Ti a
   simp [bytesLess, this]
theorem bless_trans : ∀ (a b c:List UInt8),bytesLess a b=true→bytesLess b c=true→bytesLess a c=true:=by
 intro a
 induction a with
 | nil =>
   intro b c h1 h2
   cases b with
   | nil => simp [bytesLess] at h1
   | cons y b =>
     cases c with
     | nil => simp [bytesLess] at h2
     | cons z c => rfl
 | cons x a ih =>
   intro b c h1 h2
   cases b with
   | nil => simp [bytesLess] at h1
   | cons y b =>
     cases c with
     | nil => simp [bytesLess] at h2
     | cons z c =>
       simp only [bytesLess, Bool.or_eq_true, Bool.and_eq_true, decide_eq_true_eq, beq_iff_eq] at h1 h2 ⊢
       rcases h1 with h1 | ⟨rfl, h1⟩
       · rcases h2 with h2 | ⟨rfl, h2⟩
         · exact .inl (UInt8.lt_trans h1 h2)
         · exact .inl h1
       · rcases h2 with h2 | ⟨rfl, h2⟩
         · exact .inl h2
         · exact .inr ⟨rfl, ih b c h1 h2⟩
theorem bless_tri : ∀ (a b:List UInt8),bytesLess a b=false→bytesLess b a=false→a=b:=by
 intro a
 induction a with
 | nil =>
   intro b h1 h2
   cases b with
   | nil => rfl
   | cons y b => simp [bytesLess] at h1
 | cons x a ih =>
   intro b h1 h2
   cases b with
   | nil => simp [bytesLess] at h2
   | cons y b =>
     simp only [bytesLess, Bool.or_eq_false_iff, Bool.and_eq_false_iff, decide_eq_false_iff_not, beq_eq_false_iff_ne, ne_eq] at h1 h2
     obtain ⟨h3, h4⟩ := h1
     obtain ⟨h5, h6⟩ := h2
     have e : x = y := UInt8.le_antisymm (UInt8.not_lt.1 h5) (UInt8.not_lt.1 h3)
     subst e
     rw [ih b (h4.resolve_left (fun h => h rfl)) (h6.resolve_left (fun h => h rfl))]
theorem bless_ge {a b c:List UInt8} (h1:bytesLess a b=false) (h2:bytesLess b c=false):bytesLess a c=false:=by
 cases h:bytesLess a c with
 | false=>rfl
 | true =>
   by_cases e : b = a
   · subst e; rw [h] at h2; cases h2
   · cases h3 : bytesLess b a with
     | true => rw [bless_trans _ _ _ h3 h] at h2; cases h2
     | false => exact absurd (bless_tri _ _ h3 h1) e
end
section
variable {p q:List (List Int)} {r r':List Int} {n m:Nat}
def dig (n:Nat):UInt8:=UInt8.ofNat (48+n)
theorem Te (h:n < 200):(dig n).toNat=48+n:=by unfold dig;rw [UInt8.toNat_ofNat'];omega
theorem dig_inj (h:n < 200) (h':m < 200) (e:dig n=dig m):n=m:=by
 have:=congrArg UInt8.toNat e
 rw [Te h,Te h'] at this;omega
def txR (r:List Int):List UInt8:=(arrR r).map dig
def txt (p:List (List Int)):List UInt8:=joinB 47 (p.map txR)
theorem txR_sep (h:r.length≤100):(47:UInt8) ∉ txR r:=by
 intro hm
 obtain ⟨j,hj,e⟩:=List.mem_map.1 hm
 have:=(mem_arrR.1 hj).1
 have e2:=congrArg UInt8.toNat e
 rw [Te (by omega)] at e2
 have:(47:UInt8).toNat=47:=rfl
 omega
theorem map_inj_on {f:Nat→UInt8} : ∀ {a b:List Nat},(∀ x ∈ a,∀ y ∈ b,f x=f y→x=y)→a.map f=b.map f→a=b
 | [],[],_,_=>rfl
 | [],_::_,_,h=>by simp at h
 | _::_,[],_,h=>by simp at h
 | x :: a, y :: b, hi, h => by
   simp only [List.map_cons, List.cons.injEq] at h
   rw [hi x (by simp) y (by simp) h.1, map_inj_on (fun x hx y hy => hi x (by simp [hx]) y (by simp [hy])) h.2]
theorem arrR_inj (hl:r.length=r'.length) (h1 : ∀ x ∈ r,x=0∨x=1) (h2 : ∀ x ∈ r',x=0∨x=1) (h:arrR r=arrR r'):r=r':=by
 refine List.ext_getElem hl fun i hi hi'=>?_
 have h3:=h1 _ (List.getElem_mem hi)
 have h4:=h2 _ (List.getElem_mem hi')
 have e1:i ∈ arrR r↔r[i]=1:=by rw [mem_arrR,Xl hi];exact ⟨fun h=>h.2,fun h=>⟨hi,h⟩⟩
 have e2:i ∈ arrR r'↔r'[i]=1:=by rw [mem_arrR,Xl hi'];exact ⟨fun h=>h.2,fun h=>⟨hi',h⟩⟩
 rw [h] at e1
 have:=e1.symm.trans e2
 rcases h3 with h3 | h3 <;> rcases h4 with h4 | h4 <;> rw [h3,h4] at this ⊢ <;> simp at this
theorem txR_inj (hl:r.length=r'.length) (hr:r.length≤100) (h1 : ∀ x ∈ r,x=0∨x=1) (h2 : ∀ x ∈ r',x=0∨x=1) (h:txR r=txR r'):r=r':=by
 refine arrR_inj hl h1 h2 (map_inj_on (fun x hx y hy e=>?_) h)
 have:=(mem_arrR.1 hx).1
 have:=(mem_arrR.1 hy).1
 exact dig_inj (by omega) (by omega) e
theorem cut_txt (hp:Gr p):cutB 47 (txt p)=p.map txR:=by
 refine cutB_join (by have:=hp.1;intro h;simp at h;subst h;simp at this) fun x hx=>?_
 obtain ⟨r,hr,rfl⟩:=List.mem_map.1 hx
 exact txR_sep (by rw [(hp.2.2 r hr).1];have:=hp.2.1;omega)
theorem txt_inj (hp:Gr p) (hq:Gr q) (h:txt p=txt q):p=q:=by
 have e:p.map txR=q.map txR:=by rw [← cut_txt hp,← cut_txt hq,h]
 have hl:p.length=q.length:=by simpa using congrArg List.length e
 refine List.ext_getElem hl fun i hi hi'=>?_
 have h1:=hp.2.2 _ (List.getElem_mem hi)
 have h2:=hq.2.2 _ (List.getElem_mem hi')
 have:=hp.2.1
 refine txR_inj (by rw [h1.1,h2.1,hl]) (by rw [h1.1];omega) h1.2 h2.2 ?_
 have:=congrArg (fun l=>l[i]?) e
 simpa [hi,hi'] using this
theorem txR_len (r:List Int):(txR r).length≤r.length:=by unfold txR;rw [List.length_map];exact Mn r
theorem Lk (hp:Gr p):(txt p).length≤200:=by
 have key : ∀ (l:List (List UInt8)) (n:Nat),(∀ x ∈ l,x.length≤n)→(joinB 47 l).length≤l.length*(n+1):=by
  intro l n h
  cases l with
  | nil=>simp [joinB]
  | cons x l =>
    have : ∀ (l : List (List UInt8)), (∀ x ∈ l, x.length ≤ n) → (l.flatMap fun y => (47 : UInt8) :: y).length ≤ l.length * (n + 1) := by
      intro l
      induction l with
      | nil => intro _; simp
      | cons y l ih =>
        intro h
        have h1 := ih (fun x hx => h x (by simp [hx]))
        have h2 := h y (by simp)
        simp only [List.flatMap_cons, List.length_append, List.length_cons, Nat.succ_mul] at *
        omega
    have h1 := this l (fun x hx => h x (by simp [hx]))
    have h2 := h x (by simp)
    simp only [joinB, List.length_append, List.length_cons, Nat.succ_mul] at *
    omega
 have h1:=key (p.map txR) p.length (fun x hx=>by
  obtain ⟨r,hr,rfl⟩:=List.mem_map.1 hx
  have:=txR_len r
  rw [(hp.2.2 r hr).1] at this;exact this)
 rw [List.length_map] at h1
 have h2:=hp.2.1
 have:p.length*(p.length+1)≤11*12:=Nat.mul_le_mul h2 (by omega)
 unfold txt;omega
open Classical in
noncomputable def rdP (l:List UInt8):Option (List (List Int)):=if h : ∃ p,Pic p∧txt p=l then some (Classical.choose h) else none
theorem rdP_txt (hp:Pic p):rdP (txt p)=some p:=by
 have h : ∃ q,Pic q∧txt q=txt p:=⟨p,hp,rfl⟩
 unfold rdP
 rw [dif_pos h]
 have:=Classical.choose_spec h
 rw [txt_inj this.1.gr hp.gr this.2]
theorem Tn {l:List UInt8} (h:rdP l=some p):Pic p∧txt p=l:=by
 unfold rdP at h
 split at h
 ·rename_i hx
  have:=Classical.choose_spec hx
  rw [← Option.some.inj h];exact this
 ·cases h
end
open Classical Op
section
variable {p q c c':List (List Int)} {a b n k:Nat} {o o' L L':List Nat}
def ordS (n:Nat):Nat→List (List Nat)
 | 0=>[[0]]
 | k+1=>(ordS n k).flatMap fun o=>((List.range n).filter fun x=>decide (1≤x) && !o.contains x).map fun x=>o++[x]
def orders (n:Nat):List (List Nat):=ordS n (n - 1)
def Pre (n:Nat) (o:List Nat):Prop:=o.Nodup∧o.head? = some 0∧∀ x ∈ o,x < n
def Ord (n:Nat) (o:List Nat):Prop:=o.length=n∧Pre n o
theorem Pre.pos (h:Pre n o):1≤o.length:=by
 have:=h.2.1
 cases o with
 | nil=>cases this
 | cons _ _=>simp
theorem Pre.le (h:Pre n o):o.length≤n:=Nj h.1 h.2.2
theorem Pre.snoc (h:Pre n o) {x:Nat} (hx:x < n) (hn:x ∉ o):Pre n (o++[x]):=by
 refine ⟨List.nodup_append.2 ⟨h.1,by simp,fun a ha b hb e=>?_⟩,?_,fun y hy=>?_⟩
 ·simp only [List.mem_singleton] at hb;subst hb;subst e;exact hn ha
 ·rw [List.head?_append,h.2.1];rfl
 ·rcases List.mem_append.1 hy with hy | hy
  ·exact h.2.2 y hy
  ·simp only [List.mem_singleton] at hy;subst hy;exact hx
theorem Pre.init {x:Nat} (h:Pre n (o++[x])) (ho:o≠[]):Pre n o∧x < n∧x ∉ o:=by
 obtain ⟨h1,h2,h3⟩:=h
 rw [List.nodup_append] at h1
 refine ⟨⟨h1.1,?_,fun y hy=>h3 y (by simp [hy])⟩,h3 x (by simp),fun hm=>h1.2.2 x hm x (by simp) rfl⟩
 cases o with
 | nil=>exact absurd rfl ho
 | cons y o=>simpa using h2
theorem mem_ordS (hn:1≤n) : ∀ (k:Nat) (o:List Nat),o ∈ ordS n k↔o.length=k+1∧Pre n o:=by
 intro k
 induction k with
 | zero =>
   intro o
   simp only [ordS, List.mem_singleton]
   constructor
   · rintro rfl; exact ⟨rfl, by simp, rfl, by simp; omega⟩
   · rintro ⟨h1, h2⟩
     cases o with
     | nil => cases h1
     | cons x o =>
       have : o = [] := List.eq_nil_of_length_eq_zero (by simpa using h1)
       subst this
       have := h2.2.1
       simp at this; subst this; rfl
 | succ k ih =>
   intro o
   simp only [ordS, List.mem_flatMap, List.mem_map, List.mem_filter, List.mem_range, Bool.and_eq_true, decide_eq_true_eq, Bool.not_eq_true', List.contains_eq_mem, decide_eq_false_iff_not]
   constructor
   · rintro ⟨o', h1, x, ⟨h2, h3, h4⟩, rfl⟩
     obtain ⟨h5, h6⟩ := (ih o').1 h1
     exact ⟨by simp [h5], h6.snoc h2 h4⟩
   · rintro ⟨h1, h2⟩
     have hne : o ≠ [] := by rintro rfl; cases h1
     have e := List.dropLast_concat_getLast hne
     have hl : o.dropLast.length = k + 1 := by simp [h1]
     rw [← e] at h2
     obtain ⟨h3, h4, h5⟩ := h2.init (by intro h; rw [h] at hl; cases hl)
     refine ⟨o.dropLast, (ih _).2 ⟨hl, h3⟩, o.getLast hne, ⟨h4, ?_, h5⟩, e⟩
     rcases Nat.eq_zero_or_pos (o.getLast hne) with h0 | h0
     · exfalso
       rw [h0] at h5
       have := h3.2.1
       cases hd : o.dropLast with
       | nil => rw [hd] at hl; cases hl
       | cons y ys => rw [hd] at this h5; simp at this; exact h5 (by simp [this])
     · exact h0
theorem mem_orders (hn:1≤n):o ∈ orders n↔Ord n o:=by
 unfold orders Ord
 rw [mem_ordS hn]
 rw [show n - 1+1=n by omega]
def reo (c:List (List Int)) (o:List Nat):List (List Int):=o.map fun i=>o.map fun j=>bit c i j
theorem reo_len:(reo c o).length=o.length:=by simp [reo]
theorem bit_qp {i m:Nat} (hi:i < L.length) (hm:m < L.length):bit (qp p L) i m=b01 ((arr p L[i]).any fun j=>decide (knd p j=L[m])):=by
 unfold bit
 have e:(qp p L).getD i []=L.map fun y=>b01 ((arr p L[i]).any fun j=>decide (knd p j=y)):=by
  rw [Xl (by rw [qp_len];exact hi)]
  simp [qp]
 rw [e,Xl (by simpa using hm)]
 simp
theorem Ord.perm (h:Ord n o):o.Perm (List.range n):=by
 refine (List.perm_ext_iff_of_nodup h.2.1 List.nodup_range).2 fun x=>⟨fun hx=>List.mem_range.2 (h.2.2.2 x hx),fun hx=>?_⟩
 refine Classical.byContradiction fun hn=>?_
 have:=Nj (n:=n) (l:=x::o) (List.nodup_cons.2 ⟨hn,h.2.1⟩) (fun j hj=>by
  rcases List.mem_cons.1 hj with rfl | hj
  ·exact List.mem_range.1 hx
  ·exact h.2.2.2 j hj)
 simp only [List.length_cons,h.1] at this
 omega
theorem reo_cand (hc:Cand p a c) (ho:Ord c.length o):Cand p a (reo c o):=by
 obtain ⟨L,hL,rfl⟩:=hc
 rw [qp_len] at ho
 have hlt:=ho.2.2.2
 have hpos:1≤L.length:=by have:=ho.2.pos;rw [ho.1] at this;exact this
 refine ⟨o.map fun i=>L.getD i 0,⟨?_,?_,fun x=>?_⟩,?_⟩
 ·have hn:=ho.2.1
  unfold List.Nodup at hn ⊢
  rw [List.pairwise_map]
  refine List.Pairwise.imp_of_mem (fun {x y} hx hy hxy e=>hxy ?_) hn
  rw [Xl (hlt x hx),Xl (hlt y hy)] at e
  exact (List.getElem_inj hL.1).1 e
 ·rw [List.head?_map,ho.2.2.1,← hL.2.1]
  simp only [Option.map_some]
  rw [List.head?_eq_getElem?,List.getElem?_eq_getElem (by omega),Xl (by omega)]
 ·rw [← hL.2.2 x,List.mem_map]
  constructor
  ·rintro ⟨i,hi,rfl⟩
   rw [Xl (hlt i hi)];exact List.getElem_mem _
  ·intro hx
   obtain ⟨i,hi,e⟩:=List.mem_iff_getElem.1 hx
   refine ⟨i,ho.perm.mem_iff.2 (List.mem_range.2 hi),?_⟩
   rw [Xl hi];exact e
 ·unfold reo
  rw [show qp p (o.map fun i=>L.getD i 0)=o.map fun i=>o.map fun m=>b01 ((arr p (L.getD i 0)).any fun j=>decide (knd p j=L.getD m 0)) by simp [qp]]
  refine List.map_congr_left fun i hi=>List.map_congr_left fun m hm=>?_
  rw [bit_qp (hlt i hi) (hlt m hm),Xl (hlt i hi),Xl (hlt m hm)]
theorem cand_reo (hc:Cand p a c) (hc':Cand p a c') : ∃ o,Ord c.length o∧c'=reo c o:=by
 obtain ⟨L,hL,rfl⟩:=hc
 obtain ⟨L',hL',rfl⟩:=hc'
 have hperm:=hL.perm hL'
 have hi : ∀ x ∈ L',L.idxOf x < L.length∧L.getD (L.idxOf x) 0=x:=fun x hx=>by
  have h1:=List.idxOf_lt_length_iff.2 (hperm.mem_iff.2 hx)
  exact ⟨h1,by rw [Xl h1];exact List.getElem_idxOf h1⟩
 have hpos:1≤L.length:=by
  have:=hL.2.1
  cases L with
  | nil=>cases this
  | cons _ _=>simp
 have hback:(L'.map fun x=>L.idxOf x).map (fun i=>L.getD i 0)=L':=by
  rw [List.map_map]
  conv=>rhs;rw [← List.map_id L']
  exact List.map_congr_left fun x hx=>(hi x hx).2
 refine ⟨L'.map fun x=>L.idxOf x,⟨?_,?_,?_,fun i him=>?_⟩,?_⟩
 ·rw [List.length_map,qp_len,hperm.length_eq]
 ·have hn:=hL'.1
  unfold List.Nodup at hn ⊢
  rw [List.pairwise_map]
  refine List.Pairwise.imp_of_mem (fun {x y} hx hy hxy e=>hxy ?_) hn
  rw [← (hi x hx).2,e,(hi y hy).2]
 ·rw [List.head?_map,hL'.2.1]
  simp only [Option.map_some,Option.some.injEq]
  have:=hL.2.1
  cases L with
  | nil=>cases this
  | cons y L=>simp at this;subst this;simp
 ·obtain ⟨x,hx,rfl⟩:=List.mem_map.1 him
  rw [qp_len];exact (hi x hx).1
 ·conv=>lhs;rw [← hback]
  unfold reo
  rw [show qp p ((L'.map fun x=>L.idxOf x).map fun i=>L.getD i 0)=(L'.map fun x=>L.idxOf x).map fun i=>(L'.map fun x=>L.idxOf x).map fun m=>b01 ((arr p (L.getD i 0)).any fun j=>decide (knd p j=L.getD m 0)) by simp [qp]]
  refine List.map_congr_left fun i him=>List.map_congr_left fun m hmm=>?_
  obtain ⟨x,hx,rfl⟩:=List.mem_map.1 him
  obtain ⟨y,hy,rfl⟩:=List.mem_map.1 hmm
  have h1:=(hi x hx).1
  have h2:=(hi y hy).1
  rw [bit_qp h1 h2,Xl h1,Xl h2]
def Lst (p:List (List Int)) (a:Nat) (c:List (List Int)):Prop:=Cand p a c∧∀ c',Cand p a c'→bytesLess (txt c') (txt c)=false
theorem Lst.uniq (hp:Gr p) (ha:a < p.length) (h:Lst p a c) (h':Lst p a c'):c=c' :=
 txt_inj (h.1.gr hp ha) (h'.1.gr hp ha) (bless_tri _ _ (h'.2 c h.1) (h.2 c' h'.1))
def lstep (x best y:List (List Int)):List (List Int):=if bytesLess (txt y) (txt best) then y else best
theorem lst_fold (hc:Cand p a c) : ∀ (os:List (List Nat)) (best:List (List Int)),(∀ o ∈ os,Ord c.length o)→Cand p a best →
  Cand p a (os.foldl (fun best o=>lstep c best (reo c o)) best)∧bytesLess (txt best) (txt (os.foldl (fun best o=>lstep c best (reo c o)) best))=false ∧
  ∀ o ∈ os,bytesLess (txt (reo c o)) (txt (os.foldl (fun best o=>lstep c best (reo c o)) best))=false:=by
 intro os
 induction os with
 | nil=>intro best _ hb;exact ⟨hb,Ti _,fun o ho=>by cases ho⟩
 | cons o os ih =>
   intro best ho hb
   simp only [List.foldl_cons]
   have hr := reo_cand hc (ho o (by simp))
   have hs : Cand p a (lstep c best (reo c o)) ∧ bytesLess (txt best) (txt (lstep c best (reo c o))) = false ∧ bytesLess (txt (reo c o)) (txt (lstep c best (reo c o))) = false := by
     unfold lstep
     split
     · rename_i h
       refine ⟨hr, ?_, Ti _⟩
       cases hh : bytesLess (txt best) (txt (reo c o)) with
       | false => rfl
       | true => have := bless_trans _ _ _ h hh; rw [Ti] at this; cases this
     · rename_i h
       exact ⟨hb, Ti _, by simpa using h⟩
   obtain ⟨h1, h2, h3⟩ := ih _ (fun o' ho' => ho o' (by simp [ho'])) hs.1
   refine ⟨h1, bless_ge hs.2.1 h2, fun o' ho' => ?_⟩
   rcases List.mem_cons.1 ho' with rfl | ho'
   · exact bless_ge hs.2.2 h2
   · exact h3 o' ho'
noncomputable def kdl (p:List (List Int)) (a:Nat):List Nat:=knd p a::(List.range p.length).filter fun x=>decide (x≠knd p a∧∃ y,Rch p a y∧knd p y=x)
theorem kdl_ok (hp:Gr p) (ha:a < p.length):Kds p a (kdl p a):=by
 unfold kdl
 refine ⟨List.nodup_cons.2 ⟨?_,(pw_nodup (Ta _ _))⟩,rfl,fun x=>?_⟩
 ·simp
 ·simp only [List.mem_cons,List.mem_filter,List.mem_range,decide_eq_true_eq]
  constructor
  ·rintro (rfl | ⟨_,_,h⟩)
   ·exact ⟨a,.refl _,rfl⟩
   ·exact h
  ·rintro ⟨y,h1,rfl⟩
   by_cases e:knd p y=knd p a
   ·exact .inl e
   ·exact .inr ⟨Ln (h1.lt hp ha),e,y,h1,rfl⟩
theorem fold_lst (hp:Gr p) (ha:a < p.length) (hc:Cand p a c):Lst p a ((orders c.length).foldl (fun best o=>lstep c best (reo c o)) c):=by
 have h1:=(hc.gr hp ha).1
 obtain ⟨h2,_,h3⟩:=lst_fold hc (orders c.length) c (fun o ho=>(mem_orders h1).1 ho) hc
 refine ⟨h2,fun c' hc'=>?_⟩
 obtain ⟨o,ho,rfl⟩:=cand_reo hc hc'
 exact h3 o ((mem_orders h1).2 ho)
noncomputable def lst (p:List (List Int)) (a:Nat):List (List Int):=if h : ∃ c,Lst p a c then Classical.choose h else []
theorem lst_ok (hp:Gr p) (ha:a < p.length):Lst p a (lst p a):=by
 have h : ∃ c,Lst p a c:=⟨_,fold_lst hp ha ⟨_,kdl_ok hp ha,rfl⟩⟩
 unfold lst
 rw [dif_pos h];exact Classical.choose_spec h
theorem lst_eq (hp:Gr p) (ha:a < p.length) (h:Lst p a c):lst p a=c:=(lst_ok hp ha).uniq hp ha h
theorem lst_fold_eq (hp:Gr p) (ha:a < p.length) (hc:Cand p a c):(orders c.length).foldl (fun best o=>lstep c best (reo c o)) c=lst p a:=(lst_eq hp ha (fold_lst hp ha hc)).symm
theorem lst_cand (hp:Gr p) (ha:a < p.length):Cand p a (lst p a):=(lst_ok hp ha).1
theorem lst_gr (hp:Gr p) (ha:a < p.length):Gr (lst p a):=(lst_cand hp ha).gr hp ha
theorem lst_bis (hp:Gr p) (ha:a < p.length):Bis p a (lst p a) 0:=(lst_cand hp ha).bis hp ha
theorem lst_pos (hp:Gr p) (ha:a < p.length):0 < (lst p a).length:=(lst_gr hp ha).1
theorem lst_same (hp:Gr p) (hq:Gr q) (ha:a < p.length) (hb:b < q.length):lst p a=lst q b↔Bis p a q b:=by
 constructor
 ·intro e
  have h1:=lst_bis hp ha
  rw [e] at h1
  exact h1.trans (lst_bis hq hb).symm
 ·intro h
  exact lst_eq hp ha ⟨h.symm.cand hq hp hb ha (lst_cand hq hb),fun c' hc'=>(lst_ok hq hb).2 c' (h.cand hp hq ha hb hc')⟩
theorem lst_lst (hp:Gr p) (ha:a < p.length):lst (lst p a) 0=lst p a:=(lst_same (lst_gr hp ha) hp (lst_pos hp ha) ha).2 (lst_bis hp ha).symm
theorem lst_len (hp:Gr p) (ha:a < p.length) (hc:Cand p a c):(lst p a).length=c.length:=(lst_cand hp ha).len hc
theorem lst_le (hp:Gr p) (ha:a < p.length):(lst p a).length≤p.length:=by
 obtain ⟨L,hL,e⟩:=lst_cand hp ha
 rw [e,qp_len];exact (hL.len hp ha).2
theorem lst_pic (hp:Pic p) (ha:a < p.length):Pic (lst p a):=by
 have h:=lst_gr hp.gr ha
 exact ⟨h.1,Nat.le_trans (lst_le hp.gr ha) hp.2.1,h.2.2⟩
def LeastP (p:List (List Int)):Prop:=Pic p∧lst p 0=p
theorem LeastP.lst (hp:Gr p) (ha:a < p.length) (h5:(Hs.lst p a).length≤5):LeastP (Hs.lst p a):=by
 have h:=lst_gr hp ha
 exact ⟨⟨h.1,h5,h.2.2⟩,lst_lst hp ha⟩
def Srch (c:List (List Int)) (o:List Nat) (best best':List (List Int)):Prop :=
 (best'=best∨∃ o',o <+: o'∧Ord c.length o'∧best'=reo c o')∧bytesLess (txt best) (txt best')=false∧∀ o',o <+: o'→Ord c.length o'→bytesLess (txt (reo c o')) (txt best')=false
theorem Srch.full (ho:Ord c.length o) (best:List (List Int)):Srch c o best (lstep c best (reo c o)):=by
 have hpre : ∀ o',o <+: o'→Ord c.length o'→o'=o:=fun o' h1 h2=>(h1.eq_of_length (by rw [ho.1,h2.1])).symm
 unfold lstep
 split
 ·rename_i h
  refine ⟨.inr ⟨o,List.prefix_refl _,ho,rfl⟩,?_,fun o' h1 h2=>by rw [hpre o' h1 h2];exact Ti _⟩
  cases hh:bytesLess (txt best) (txt (reo c o)) with
  | false=>rfl
  | true=>have:=bless_trans _ _ _ h hh;rw [Ti] at this;cases this
 ·rename_i h
  exact ⟨.inl rfl,Ti _,fun o' h1 h2=>by rw [hpre o' h1 h2];simpa using h⟩
def SrchK (c:List (List Int)) (o:List Nat) (k:Nat) (best best':List (List Int)):Prop :=
 (best'=best∨∃ o',o <+: o'∧Ord c.length o'∧best'=reo c o')∧bytesLess (txt best) (txt best')=false∧∀ v o',v < k→(o++[v]) <+: o'→Ord c.length o'→bytesLess (txt (reo c o')) (txt best')=false
theorem SrchK.zero (best:List (List Int)):SrchK c o 0 best best:=⟨.inl rfl,Ti _,fun v o' h=>by omega⟩
theorem SrchK.skip {best best':List (List Int)} (h:SrchK c o k best best') (hk:k ∈ o):SrchK c o (k+1) best best':=by
 refine ⟨h.1,h.2.1,fun v o' hv hp ho=>?_⟩
 by_cases e:v=k
 ·exfalso
  subst e
  obtain ⟨t,rfl⟩:=hp
  have:=ho.2.1
  rw [List.append_assoc,List.nodup_append] at this
  exact this.2.2 v hk v (by simp) rfl
 ·exact h.2.2 v o' (by omega) hp ho
theorem SrchK.step {best best' best'':List (List Int)} (h:SrchK c o k best best') (h2:Srch c (o++[k]) best' best''):SrchK c o (k+1) best best'':=by
 refine ⟨?_,bless_ge h.2.1 h2.2.1,fun v o' hv hp ho=>?_⟩
 ·rcases h2.1 with e | ⟨o',h3,h4,h5⟩
  ·rw [e];exact h.1
  ·exact .inr ⟨o',(List.prefix_append _ _).trans h3,h4,h5⟩
 ·by_cases e:v=k
  ·subst e;exact h2.2.2 o' hp ho
  ·exact bless_ge (h.2.2 v o' (by omega) hp ho) h2.2.1
theorem SrchK.all {best best':List (List Int)} (h:SrchK c o c.length best best') (hl:o.length < c.length):Srch c o best best':=by
 refine ⟨h.1,h.2.1,fun o' hp ho=>?_⟩
 obtain ⟨t,rfl⟩:=hp
 cases t with
 | nil=>exfalso;have:=ho.1;simp at this;omega
 | cons v t=>exact h.2.2 v _ (ho.2.2.2 v (by simp)) ⟨t,by simp⟩ ho
theorem Srch.lst {best':List (List Int)} (hp:Gr p) (ha:a < p.length) (hc:Cand p a c) (h:Srch c [0] c best'):lst p a=best':=by
 refine lst_eq hp ha ⟨?_,fun c' hc'=>?_⟩
 ·rcases h.1 with rfl | ⟨o',_,h1,rfl⟩
  ·exact hc
  ·exact reo_cand hc h1
 ·obtain ⟨o,ho,rfl⟩:=cand_reo hc hc'
  refine h.2.2 o ?_ ho
  have:=ho.2.2.1
  cases o with
  | nil=>cases this
  | cons x o=>simp at this;subst this;exact ⟨o,rfl⟩
end
section
variable {p q g:List (List Int)} {a b i j n m:Nat} {ms:List Nat}
theorem mem_arr' {r:List Int} (hi:i < p.length) (hr:p[i]=r):j ∈ arr p i↔∃ hj:j < r.length,r[j]=1:=by
 unfold arr
 rw [Xl hi,hr,mem_arrR]
 constructor
 ·rintro ⟨h1,h2⟩;exact ⟨h1,by rw [Xl h1] at h2;exact h2⟩
 ·rintro ⟨h1,h2⟩;exact ⟨h1,by rw [Xl h1];exact h2⟩
def bes (p q:List (List Int)):List (List Int):=(p.map fun r=>r++List.replicate q.length 0)++q.map fun r=>List.replicate p.length 0++r
theorem bes_len:(bes p q).length=p.length+q.length:=by simp [bes]
theorem bes_fst (hi:i < p.length):(bes p q)[i]'(by rw [bes_len];omega)=p[i]++List.replicate q.length 0:=by
 unfold bes
 rw [List.getElem_append_left (by simpa using hi)]
 simp
theorem bes_snd (hi:i < q.length):(bes p q)[p.length+i]'(by rw [bes_len];omega)=List.replicate p.length 0++q[i]:=by
 unfold bes
 rw [List.getElem_append_right (by simp)]
 simp
theorem bes_gr (hp:Gr p) (hq:Gr q) (h:p.length+q.length≤11):Gr (bes p q):=by
 refine ⟨by rw [bes_len];have:=hp.1;omega,by rw [bes_len];exact h,fun r hr=>?_⟩
 rw [bes_len]
 rcases List.mem_append.1 hr with hr | hr
 ·obtain ⟨r',h1,rfl⟩:=List.mem_map.1 hr
  obtain ⟨h2,h3⟩:=hp.2.2 r' h1
  refine ⟨by simp [h2],fun x hx=>?_⟩
  rcases List.mem_append.1 hx with hx | hx
  ·exact h3 x hx
  ·exact .inl (List.eq_of_mem_replicate hx)
 ·obtain ⟨r',h1,rfl⟩:=List.mem_map.1 hr
  obtain ⟨h2,h3⟩:=hq.2.2 r' h1
  refine ⟨by simp [h2],fun x hx=>?_⟩
  rcases List.mem_append.1 hx with hx | hx
  ·exact .inl (List.eq_of_mem_replicate hx)
  ·exact h3 x hx
theorem arr_bes1 (hp:Gr p) (hi:i < p.length):j ∈ arr (bes p q) i↔j ∈ arr p i:=by
 rw [mem_arr' (by rw [bes_len];omega) (bes_fst hi),mem_arr' hi rfl]
 constructor
 ·rintro ⟨h1,h2⟩
  by_cases hj:j < p[i].length
  ·exact ⟨hj,by rw [List.getElem_append_left hj] at h2;exact h2⟩
  ·rw [List.getElem_append_right (by omega)] at h2
   simp at h2
 ·rintro ⟨h1,h2⟩
  exact ⟨by simp;omega,by rw [List.getElem_append_left h1];exact h2⟩
theorem arr_bes2 (hq:Gr q) (hi:i < q.length):j ∈ arr (bes p q) (p.length+i)↔∃ k ∈ arr q i,j=p.length+k:=by
 rw [mem_arr' (by rw [bes_len];omega) (bes_snd hi)]
 constructor
 ·rintro ⟨h1,h2⟩
  by_cases hj:j < p.length
  ·rw [List.getElem_append_left (by simpa using hj)] at h2
   simp at h2
  ·rw [List.getElem_append_right (by simp;omega)] at h2
   simp only [List.length_replicate] at h2
   simp only [List.length_append,List.length_replicate] at h1
   exact ⟨j - p.length,(mem_arr' hi rfl).2 ⟨by omega,h2⟩,by omega⟩
 ·rintro ⟨k,hk,rfl⟩
  obtain ⟨h1,h2⟩:=(mem_arr' hi rfl).1 hk
  refine ⟨by simp;omega,?_⟩
  rw [List.getElem_append_right (by simp)]
  simpa using h2
theorem bes_bis1 (hp:Gr p) (ha:a < p.length):Bis (bes p q) a p a:=by
 refine ⟨fun x y=>x=y∧x < p.length,⟨rfl,ha⟩,?_⟩
 rintro x _ ⟨rfl,hx⟩
 refine ⟨fun k hk=>?_,fun k hk=>?_⟩
 ·have:=(arr_bes1 hp hx).1 hk
  exact ⟨k,this,rfl,Qm hp hx this⟩
 ·exact ⟨k,(arr_bes1 hp hx).2 hk,rfl,Qm hp hx hk⟩
theorem bes_bis2 (hq:Gr q) (hb:b < q.length):Bis (bes p q) (p.length+b) q b:=by
 refine ⟨fun x y=>x=p.length+y∧y < q.length,⟨rfl,hb⟩,?_⟩
 rintro _ y ⟨rfl,hy⟩
 refine ⟨fun k hk=>?_,fun k hk=>?_⟩
 ·obtain ⟨j,hj,rfl⟩:=(arr_bes2 hq hy).1 hk
  exact ⟨j,hj,rfl,Qm hq hy hj⟩
 ·exact ⟨_,(arr_bes2 hq hy).2 ⟨k,hk,rfl⟩,rfl,Qm hq hy hk⟩
theorem bes_eqv (hp:Gr p) (hq:Gr q) (h:p.length+q.length≤11) (ha:a < p.length) (hb:b < q.length):eqv (bes p q) a (p.length+b)=true↔Bis p a q b:=by
 rw [eqv_iff (bes_gr hp hq h) (by rw [bes_len];omega) (by rw [bes_len];omega)]
 exact ⟨fun h=>((bes_bis1 hp ha).symm.trans h).trans (bes_bis2 hq hb),fun h=>((bes_bis1 hp ha).trans h).trans (bes_bis2 hq hb).symm⟩
def put (g:List (List Int)) (ms:List Nat):List (List Int):=(0::(List.range g.length).map fun j=>b01 (ms.contains j))::g.map fun r=>0::r
theorem put_len:(put g ms).length=g.length+1:=by simp [put]
theorem put_gr (hg:Gr g) (h:g.length≤10):Gr (put g ms):=by
 refine ⟨by rw [put_len];omega,by rw [put_len];omega,fun r hr=>?_⟩
 rw [put_len]
 rcases List.mem_cons.1 hr with rfl | hr
 ·refine ⟨by simp,fun x hx=>?_⟩
  rcases List.mem_cons.1 hx with rfl | hx
  ·exact .inl rfl
  ·obtain ⟨j,_,rfl⟩:=List.mem_map.1 hx
   unfold b01;split <;> simp
 ·obtain ⟨r',h1,rfl⟩:=List.mem_map.1 hr
  obtain ⟨h2,h3⟩:=hg.2.2 r' h1
  refine ⟨by simp [h2],fun x hx=>?_⟩
  rcases List.mem_cons.1 hx with rfl | hx
  ·exact .inl rfl
  ·exact h3 x hx
noncomputable def putV (g:List (List Int)) (ms:List Nat):Option (List (List Int)):=if (lst (put g ms) 0).length≤5 then some (lst (put g ms) 0) else none
theorem putV_some {c:List (List Int)} (hg:Gr g) (h:g.length≤10) (hc:putV g ms=some c):LeastP c∧Bis (put g ms) 0 c 0:=by
 have h0:0 < (put g ms).length:=by rw [put_len];omega
 unfold putV at hc
 split at hc
 ·rename_i h5
  cases hc
  exact ⟨LeastP.lst (put_gr hg h) h0 h5,lst_bis (put_gr hg h) h0⟩
 ·cases hc
noncomputable def pairV (p:List (List Int)) (a:Nat) (q:List (List Int)) (b:Nat):Option (List (List Int)):=putV (bes p q) [a,p.length+b]
noncomputable def togV (p:List (List Int)) (a:Nat) (q:List (List Int)) (b:Nat):Option (List (List Int)):=putV (bes p q) (arr (bes p q) a++arr (bes p q) (p.length+b))
noncomputable def wosV (p:List (List Int)) (a:Nat) (q:List (List Int)) (b:Nat):Option (List (List Int)):=putV p ((arr p a).filter fun v=>!decide (Bis p v q b))
theorem Pic.bes5 (hp:Pic p) (hq:Pic q):Gr (bes p q)∧(bes p q).length≤10:=by
 have h1:=hp.2.1
 have h2:=hq.2.1
 exact ⟨bes_gr hp.gr hq.gr (by omega),by rw [bes_len];omega⟩
theorem Lr {c:List (List Int)} (hp:Pic p) (hq:Pic q) (h:pairV p a q b=some c):LeastP c:=(putV_some (hp.bes5 hq).1 (hp.bes5 hq).2 h).1
theorem togV_some {c:List (List Int)} (hp:Pic p) (hq:Pic q) (h:togV p a q b=some c):LeastP c:=(putV_some (hp.bes5 hq).1 (hp.bes5 hq).2 h).1
theorem wosV_some {c:List (List Int)} (hp:Pic p) (h:wosV p a q b=some c):LeastP c:=(putV_some hp.gr (by have:=hp.2.1;omega) h).1
noncomputable def manyV (p:List (List Int)) (a:Nat):Nat:=((List.range p.length).filter fun x=>decide (∃ k ∈ arr p a,knd p k=x)).length
noncomputable def hasV (p:List (List Int)) (a:Nat) (q:List (List Int)) (b:Nat):Bool:=(arr p a).any fun v=>decide (Bis p v q b)
end
structure Deed where
 kind:Int
 text:List UInt8
 node:Int
deriving DecidableEq
def sSingle:List UInt8:=[115,105,110,103,108,101]
def sBack:List UInt8:=[98,97,99,107]
def sInto:List UInt8:=[105,110,116,111,32]
def sAdd:List UInt8:=[97,100,100,32]
def sDrop:List UInt8:=[100,114,111,112,32]
section
variable {p q:List (List Int)} {a b:Deed} {s l:List UInt8}
noncomputable def dtV (a:Deed):List UInt8 :=
 if a.kind=0∧a.text=[]∧a.node=0 then sSingle
 else if a.kind=4∧a.text=[]∧a.node=0 then sBack
 else if a.kind=3∧a.text=[]∧0≤a.node∧a.node≤9 then sInto++[dig a.node.toNat]
 else if a.node=0∧(rdP a.text).isSome then (if a.kind=1 then sAdd++a.text else if a.kind=2 then sDrop++a.text else [])
 else []
theorem Tt:dtV ⟨0,[],0⟩=sSingle:=if_pos ⟨rfl,rfl,rfl⟩
theorem Mg:dtV ⟨4,[],0⟩=sBack:=by
 unfold dtV
 rw [if_neg (by simp),if_pos ⟨rfl,rfl,rfl⟩]
theorem Tx {d:Nat} (h:d≤9):dtV ⟨3,[],(d:Int)⟩=sInto++[dig d]:=by
 unfold dtV
 rw [if_neg (by simp),if_neg (by simp),if_pos ⟨rfl,rfl,Int.natCast_nonneg _,by simp only;omega⟩]
 rfl
theorem Nl (hp:Pic p):dtV ⟨1,txt p,0⟩=sAdd++txt p:=by
 unfold dtV
 rw [if_neg (by simp),if_neg (by simp),if_neg (by simp),if_pos ⟨rfl,by rw [rdP_txt hp];rfl⟩,if_pos rfl]
theorem Tm (hp:Pic p):dtV ⟨2,txt p,0⟩=sDrop++txt p:=by
 unfold dtV
 rw [if_neg (by simp),if_neg (by simp),if_neg (by simp),if_pos ⟨rfl,by rw [rdP_txt hp];rfl⟩,if_neg (by simp),if_pos rfl]
inductive Told:Deed→Prop
 | single:Told ⟨0,[],0⟩
 | back:Told ⟨4,[],0⟩
 | into (d:Nat) (h:d≤9):Told ⟨3,[],(d:Int)⟩
 | add (p:List (List Int)) (h:Pic p):Told ⟨1,txt p,0⟩
 | drop (p:List (List Int)) (h:Pic p):Told ⟨2,txt p,0⟩
theorem told_of (h:dtV a≠[]):Told a:=by
 obtain ⟨k,t,n⟩:=a
 unfold dtV at h
 simp only at h
 split at h
 ·rename_i h1;obtain ⟨rfl,rfl,rfl⟩:=h1;exact .single
 split at h
 ·rename_i h1;obtain ⟨rfl,rfl,rfl⟩:=h1;exact .back
 split at h
 ·rename_i h1
  obtain ⟨rfl,rfl,h2,h3⟩:=h1
  obtain ⟨d,rfl⟩:=Int.eq_ofNat_of_zero_le h2
  exact .into d (by omega)
 split at h
 ·rename_i h1
  obtain ⟨rfl,h2⟩:=h1
  obtain ⟨p,hp⟩:=Option.isSome_iff_exists.1 h2
  obtain ⟨h3,rfl⟩:=Tn hp
  split at h
  ·rename_i h4;subst h4;exact .add p h3
  split at h
  ·rename_i h4;subst h4;exact .drop p h3
  ·exact absurd rfl h
 ·exact absurd rfl h
theorem dtV_inj (ha:dtV a≠[]) (h:dtV a=dtV b):a=b:=by
 have hb:dtV b≠[]:=by rw [← h];exact ha
 have h1:=told_of ha
 have h2:=told_of hb
 clear ha hb
 cases h1 with
 | single =>
   rw [Tt] at h
   cases h2 with
   | single => rfl
   | back => rw [Mg] at h; simp [sSingle, sBack] at h
   | into d hd => rw [Tx hd] at h; simp [sSingle, sInto] at h
   | add p hp => rw [Nl hp] at h; simp [sSingle, sAdd] at h
   | drop p hp => rw [Tm hp] at h; simp [sSingle, sDrop] at h
 | back =>
   rw [Mg] at h
   cases h2 with
   | single => rw [Tt] at h; simp [sSingle, sBack] at h
   | back => rfl
   | into d hd => rw [Tx hd] at h; simp [sBack, sInto] at h
   | add p hp => rw [Nl hp] at h; simp [sBack, sAdd] at h
   | drop p hp => rw [Tm hp] at h; simp [sBack, sDrop] at h
 | into d hd =>
   rw [Tx hd] at h
   cases h2 with
   | single => rw [Tt] at h; simp [sSingle, sInto] at h
   | back => rw [Mg] at h; simp [sInto, sBack] at h
   | into d' hd' =>
     rw [Tx hd'] at h
     have := List.append_cancel_left h
     simp only [List.cons.injEq, and_true] at this
     rw [dig_inj (by omega) (by omega) this]
   | add p hp => rw [Nl hp] at h; simp [sInto, sAdd] at h
   | drop p hp => rw [Tm hp] at h; simp [sInto, sDrop] at h
 | add p hp =>
   rw [Nl hp] at h
   cases h2 with
   | single => rw [Tt] at h; simp [sSingle, sAdd] at h
   | back => rw [Mg] at h; simp [sAdd, sBack] at h
   | into d' hd' => rw [Tx hd'] at h; simp [sAdd, sInto] at h
   | add p hp => rw [Nl hp] at h; rw [List.append_cancel_left h]
   | drop p hp => rw [Tm hp] at h; simp [sAdd, sDrop] at h
 | drop p hp =>
   rw [Tm hp] at h
   cases h2 with
   | single => rw [Tt] at h; simp [sSingle, sDrop] at h
   | back => rw [Mg] at h; simp [sDrop, sBack] at h
   | into d' hd' => rw [Tx hd'] at h; simp [sDrop, sInto] at h
   | add p hp => rw [Nl hp] at h; simp [sAdd, sDrop] at h
   | drop p hp => rw [Tm hp] at h; rw [List.append_cancel_left h]
theorem txt_bytes (hp:Gr p) {c:UInt8} (hc:c ∈ txt p):47≤c.toNat∧c.toNat≤58:=by
 have key : ∀ (l:List (List UInt8)),(∀ x ∈ l,∀ c ∈ x,47≤c.toNat∧c.toNat≤58)→∀ c ∈ joinB 47 l,47≤c.toNat∧c.toNat≤58:=by
  intro l h c hc
  cases l with
  | nil=>cases hc
  | cons x l =>
    unfold joinB at hc
    rcases List.mem_append.1 hc with hc | hc
    · exact h x (by simp) c hc
    · obtain ⟨y, hy, hc⟩ := List.mem_flatMap.1 hc
      rcases List.mem_cons.1 hc with rfl | hc
      · decide
      · exact h y (by simp [hy]) c hc
 refine key _ (fun x hx c hc=>?_) c hc
 obtain ⟨r,hr,rfl⟩:=List.mem_map.1 hx
 obtain ⟨j,hj,rfl⟩:=List.mem_map.1 hc
 have h1:=(mem_arrR.1 hj).1
 rw [(hp.2.2 r hr).1] at h1
 have:=hp.2.1
 rw [Te (by omega)];omega
theorem txt_no (hp:Gr p) {c:UInt8} (h:c.toNat < 47):c ∉ txt p:=fun hm=>by have:=txt_bytes hp hm;omega
theorem dtV_len (a:Deed):(dtV a).length≤210:=by
 by_cases ha:dtV a=[]
 ·rw [ha];simp
 ·cases told_of ha with
  | single=>rw [Tt];decide
  | back=>rw [Mg];decide
  | into d h=>rw [Tx h];simp [sInto]
  | add p h=>rw [Nl h];have:=Lk h.gr;simp [sAdd];omega
  | drop p h=>rw [Tm h];have:=Lk h.gr;simp [sDrop];omega
noncomputable def rdD (s:List UInt8):Option Deed:=if h : ∃ a,dtV a=s∧s≠[] then some (Classical.choose h) else none
theorem rdD_eq (h:dtV a=s) (hs:s≠[]):rdD s=some a:=by
 have hx : ∃ a,dtV a=s∧s≠[]:=⟨a,h,hs⟩
 unfold rdD
 rw [dif_pos hx]
 have:=Classical.choose_spec hx
 exact congrArg some (dtV_inj (by rw [this.1];exact this.2) (this.1.trans h.symm))
theorem Mj (h:rdD s=some a):dtV a=s∧s≠[]:=by
 unfold rdD at h
 split at h
 ·rename_i hx
  have:=Classical.choose_spec hx
  rw [← Option.some.inj h];exact this
 ·cases h
theorem rdD_told (h:rdD s=some a):Told a:=told_of (by rw [(Mj h).1];exact (Mj h).2)
end
end Go.Hs
