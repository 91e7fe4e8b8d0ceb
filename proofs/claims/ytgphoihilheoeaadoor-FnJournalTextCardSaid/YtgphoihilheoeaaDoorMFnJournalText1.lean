/- Lemmas for FnJournalText. -/
import Derived.Tactics
import Derived.OwnWalk
import Derived.Deep.Quiet
import Derived.Below
import Derived.WalkKit
import Derived.WalkLawsBesides
import Derived.WalkSpells
import Derived.ProofKit
import Derived.OpenShut
import Derived.ShutString
import Derived.Deep.Slices
import Derived.OrdersHeld
import Derived.HandedShaped
import Derived.LaidMore
import Derived.Lay
import Derived.Stop.Joined
import Derived.Laws.AppendOwn
import Derived.Laws.OwnMore
import Derived.Laws.MakeOwn
import Derived.Test.YtgphoihilheoeaaDoorProg
import Derived.Shelf.Lay
import Derived.Ground.NamesProg
import Derived.Shelf.Sort.Plain
import Derived.Shelf.Slices.In.SortNone
import Derived.Sort.OwnSortedInts
import Derived.Laws.Shifts
namespace Go.Hs
open Go.RowKit (Below)

abbrev Env := Nat → Value

def upd (ρ : Env) (d : Nat) (v : Value) : Env := fun i => bif Nat.beq i d then v else ρ i

def evalE (ρ : Env) : Operand → Value
  | .tmp t => ρ t
  | .const v => v
  | .global g => .pointer (some ⟨g, 0, none⟩)
  | .func f => .func (.func f) #[] #[]

structure Rep (n : Nat) (ρ : Env) (a : Act) : Prop where
  defers : a.defers = []
  size : a.tmps.size = n
  get : ∀ i, a.tmps.getD i undef = ρ i

theorem Rep.eval {n : Nat} {ρ : Env} {a : Act} (h : Rep n ρ a) : a.eval = evalE ρ := by
  funext x; cases x <;> simp [Act.eval, evalE, h.get]

theorem Rep.put {n : Nat} {ρ : Env} {a : Act} (h : Rep n ρ a) {d : Nat} (hd : Nat.blt d n = true) (v : Value) : Rep n (upd ρ d v) (a.put (some d) v) := by
  have hd' : d < n := by simpa using hd
  refine ⟨h.defers, by simp [Act.put, h.size], fun i => ?_⟩
  show (a.tmps.setIfInBounds d v).getD i undef = _
  unfold upd
  by_cases hi : i = d
  · subst hi
    simp [Array.getD_eq_getD_getElem?, h.size, hd']
  · have : Nat.beq i d = false := by
      cases hb : Nat.beq i d
      · rfl
      · exact absurd (Nat.eq_of_beq_eq_true hb) hi
    rw [this]
    simp only [cond_false]
    rw [← h.get i]
    simp [Array.getD_eq_getD_getElem?, Array.getElem?_setIfInBounds_ne (Ne.symm hi)]

def yieldedE (ops : Array Oper) (ρ : Env) (j : Nat) : Option Bool :=
  match (ops[j]?).bind (·.dst) with
  | some d => match ρ d with
    | .bool b => some b
    | _ => none
  | none => none

def wantedE (ops : Array Oper) (o : Oper) (ρ : Env) : Bool :=
  match o.guard with
  | none => true
  | some (j, want) => match yieldedE ops ρ j with
    | some b => bif b then want else !want
    | none => false

def dstsLt (n : Nat) : List Oper → Bool
  | [] => true
  | o :: l => (match o.dst with | some d => Nat.blt d n | none => true) && dstsLt n l

theorem dstsLt_mem {n : Nat} {l : List Oper} (h : dstsLt n l = true) (o : Oper) (ho : o ∈ l) (d : Nat) (hd : o.dst = some d) : Nat.blt d n = true := by
  induction l with
  | nil => cases ho
  | cons x l ih =>
    simp only [dstsLt, Bool.and_eq_true] at h
    rcases List.mem_cons.1 ho with he | ho
    · have h1 := h.1
      rw [← he, hd] at h1
      exact h1
    · exact ih h.2 ho

theorem wanted_eq {n : Nat} {ops : Array Oper} {ρ : Env} {a : Act} (h : Rep n ρ a) (hl : dstsLt n ops.toList = true) (o : Oper) :
    Region.wanted o (yielded ops a.tmps) = wantedE ops o ρ := by
  unfold Region.wanted wantedE
  cases o.guard with
  | none => rfl
  | some p =>
    obtain ⟨j, want⟩ := p
    have key : yielded ops a.tmps j = yieldedE ops ρ j := by
      unfold yielded yieldedE
      cases hj : ops[j]? with
      | none => simp
      | some oj =>
        cases hd : oj.dst with
        | none => simp [hd]
        | some d =>
          have hm : oj ∈ ops.toList := by
            have := Array.mem_of_getElem? hj
            exact Array.mem_toList_iff.2 this
          have hlt : d < n := by simpa using dstsLt_mem hl oj hm d hd
          have hs := h.size
          have : a.tmps[d]? = some (ρ d) := by
            rw [← h.get d, Array.getD_eq_getD_getElem?, Array.getElem?_eq_getElem (show d < a.tmps.size by rw [h.size]; exact hlt)]
            rfl
          simp only [hd, Option.bind_some, this]
          cases ρ d <;> rfl
    simp only [key]
    cases yieldedE ops ρ j with
    | none => rfl
    | some b => cases b <;> cases want <;> rfl

/-- What follows a piece of code: if it runs through, if it leaves block i, if it returns. -/
def post (n : Nat) (N : Env → World → Prop) (X : Nat → Env → World → Prop) (R : Env → World → Prop) : Exit → Act → World → Prop
  | .normal, a, w => ∃ ρ, Rep n ρ a ∧ N ρ w
  | .exit i, a, w => ∃ ρ, Rep n ρ a ∧ X i ρ w
  | .ret, a, w => ∃ ρ, Rep n ρ a ∧ R ρ w
  | _, _, _ => False

def W (P : Program) (n : Nat) (c : Code) (N : Env → World → Prop) (X : Nat → Env → World → Prop) (R : Env → World → Prop) (ρ : Env) (w : World) : Prop :=
  ∀ a, Rep n ρ a → c.wp P (post n N X R) a w

section
variable {P : Program} {n : Nat} {N : Env → World → Prop} {X : Nat → Env → World → Prop} {R : Env → World → Prop} {ρ : Env} {w : World}

theorem W_skip (h : N ρ w) : W P n .skip N X R ρ w := fun _ ha => wp_skip ⟨ρ, ha, h⟩
theorem W_ret (h : R ρ w) : W P n .ret N X R ρ w := fun _ ha => wp_ret ⟨ρ, ha, h⟩
theorem W_exit {i : Nat} (h : X i ρ w) : W P n (.exit i) N X R ρ w := fun _ ha => wp_exit ⟨ρ, ha, h⟩
theorem W_seq {x y : Code} (h : W P n x (fun ρ w => W P n y N X R ρ w) X R ρ w) : W P n (.seq x y) N X R ρ w :=
  fun a ha => wp_seq (Go.wp_mono (h a ha) fun e a w q => by
    cases e with
    | normal => obtain ⟨ρ, h1, h2⟩ := q; exact h2 a h1
    | exit i => exact q
    | ret => exact q
    | goto l => exact q
    | panic ch => exact q
    | outgrown => exact q)

def exitX (id : Nat) (N : Env → World → Prop) (X : Nat → Env → World → Prop) : Nat → Env → World → Prop :=
  fun i => bif Nat.beq i id then N else X i

theorem exitX_same {id : Nat} (h : N ρ w) : exitX id N X id ρ w := by
  unfold exitX; rw [Nat.beq_refl]; exact h
theorem exitX_other {id i : Nat} (hi : Nat.beq i id = false) (h : X i ρ w) : exitX id N X i ρ w := by
  unfold exitX; rw [hi]; exact h

theorem W_block {id : Nat} {c : Code} (h : W P n c N (exitX id N X) R ρ w) : W P n (.block id c) N X R ρ w :=
  fun a ha => wp_block (Go.wp_mono (h a ha) fun e a w q => by
    cases e with
    | normal => exact q
    | exit i =>
      obtain ⟨ρ, h1, h2⟩ := q
      unfold exitX at h2
      show (if i = id then _ else _)
      by_cases hi : i = id
      · subst hi; rw [Nat.beq_refl] at h2; rw [if_pos rfl]; exact ⟨ρ, h1, h2⟩
      · rw [if_neg hi]
        have : Nat.beq i id = false := by
          cases hb : Nat.beq i id
          · rfl
          · exact absurd (Nat.eq_of_beq_eq_true hb) hi
        rw [this] at h2
        exact ⟨ρ, h1, h2⟩
    | ret => exact q
    | goto l => exact q
    | panic ch => exact q
    | outgrown => exact q)

theorem W_cond {c : Operand} {x y : Code} {b : Bool} (hc : evalE ρ c = .bool b) (ht : b = true → W P n x N X R ρ w) (hf : b = false → W P n y N X R ρ w) :
    W P n (.cond c x y) N X R ρ w := fun a ha =>
  wp_cond_split (by rw [ha.eval]; exact hc) (fun h => ht h a ha) (fun h => hf h a ha)
theorem W_cond_dec {c : Operand} {x y : Code} {p : Prop} [Decidable p] (hc : evalE ρ c = .bool (decide p)) (ht : p → W P n x N X R ρ w) (hf : ¬ p → W P n y N X R ρ w) :
    W P n (.cond c x y) N X R ρ w := W_cond hc (fun h => ht (of_decide_eq_true h)) (fun h => hf (of_decide_eq_false h))
theorem W_cond_ndec {c : Operand} {x y : Code} {p : Prop} [Decidable p] (hc : evalE ρ c = .bool (!decide p)) (ht : ¬ p → W P n x N X R ρ w) (hf : p → W P n y N X R ρ w) :
    W P n (.cond c x y) N X R ρ w := W_cond hc (fun h => ht (by simpa using h)) (fun h => hf (by simpa using h))
theorem W_cond_true {c : Operand} {x y : Code} (hc : evalE ρ c = .bool true) (ht : W P n x N X R ρ w) : W P n (.cond c x y) N X R ρ w :=
  W_cond hc (fun _ => ht) (fun h => by cases h)
theorem W_cond_false {c : Operand} {x y : Code} (hc : evalE ρ c = .bool false) (hf : W P n y N X R ρ w) : W P n (.cond c x y) N X R ρ w :=
  W_cond hc (fun h => by cases h) (fun _ => hf)
/-- A slot's content, a row of them. -/
def Slots (ρ : Env) : List (Nat × Value) → Prop
  | [] => True
  | p :: l => ρ p.1 = p.2 ∧ Slots ρ l

def upds (ρ : Env) : List (Nat × Value) → Env
  | [] => ρ
  | p :: l => upd (upds ρ l) p.1 p.2

theorem upd_self {d : Nat} {v : Value} (h : ρ d = v) : upd ρ d v = ρ := by
  funext i
  unfold upd
  cases hb : Nat.beq i d
  · rfl
  · rw [Nat.eq_of_beq_eq_true hb]; exact h.symm

theorem upds_self : ∀ {l : List (Nat × Value)}, Slots ρ l → upds ρ l = ρ
  | [], _ => rfl
  | p :: l, h => by unfold upds; rw [upds_self h.2]; exact upd_self h.1

def elemN (D : List Nat) (i : Nat) : Bool := match D with
  | [] => false
  | d :: D => bif Nat.beq i d then true else elemN D i
/-- The slots of D forgotten. -/
def mix (D : List Nat) (ρj ρ : Env) : Env := fun i => bif elemN D i then ρj i else ρ i
/-- Alike but for the slots of D. -/
def Same (D : List Nat) (ρ0 ρ : Env) : Prop := ∀ i, elemN D i = false → ρ i = ρ0 i
theorem Same.refl {D : List Nat} {ρ : Env} : Same D ρ ρ := fun _ _ => rfl
theorem Same.upd {D : List Nat} {ρ0 ρ : Env} {d : Nat} {v : Value} (hd : elemN D d = true) (h : Same D ρ0 ρ) : Same D ρ0 (upd ρ d v) := fun i hi => by
  unfold Hs.upd
  cases hb : Nat.beq i d
  · exact h i hi
  · rw [Nat.eq_of_beq_eq_true hb, hd] at hi; cases hi
def keysIn (D : List Nat) : List (Nat × Value) → Bool
  | [] => true
  | p :: l => elemN D p.1 && keysIn D l
theorem Same.upds {D : List Nat} {ρ0 ρ : Env} : ∀ {l : List (Nat × Value)}, keysIn D l = true → Same D ρ0 ρ → Same D ρ0 (upds ρ l)
  | [], _, h => h
  | p :: l, hk, h => by
    simp only [keysIn, Bool.and_eq_true] at hk
    exact Same.upd hk.1 (Same.upds hk.2 h)
def allIn (D : List Nat) : List Nat → Bool
  | [] => true
  | d :: l => elemN D d && allIn D l
theorem allIn_elem {D : List Nat} : ∀ {l : List Nat}, allIn D l = true → ∀ i, elemN l i = true → elemN D i = true
  | d :: l, h, i, hi => by
    simp only [allIn, Bool.and_eq_true] at h
    unfold elemN at hi
    cases hb : Nat.beq i d
    · rw [hb] at hi; exact allIn_elem h.2 i hi
    · rw [Nat.eq_of_beq_eq_true hb]; exact h.1
theorem Same.mix {D D' : List Nat} {ρ0 ρj ρ : Env} (hD : allIn D D' = true) (h : Same D ρ0 ρ) : Same D ρ0 (mix D' ρj ρ) := fun i hi => by
  unfold Hs.mix
  cases hb : elemN D' i
  · exact h i hi
  · rw [allIn_elem hD i hb] at hi; cases hi
theorem mix_same {D : List Nat} {ρ0 ρ : Env} (h : Same D ρ0 ρ) : mix D ρ ρ0 = ρ := by
  funext i
  unfold mix
  cases hb : elemN D i
  · exact (h i hb).symm
  · rfl

/-- A loop: D: the slots that its rounds write; x is what turns from round to round, S says which of them hold what, I what else holds. -/
theorem W_loop {α : Type} {c : Code} (D : List Nat) (S : α → List (Nat × Value)) (I : α → World → Prop) (μ : α → Nat) (x0 : α) (h0 : Slots ρ (S x0)) (hI : I x0 w)
    (round : ∀ (x : α) (ρj : Env) (w : World), I x w → W P n c (fun ρ' w' => ∃ x', Slots ρ' (S x') ∧ Same D ρ ρ' ∧ I x' w' ∧ μ x' < μ x) X R (upds (mix D ρj ρ) (S x)) w) :
    W P n (.loop c) N X R ρ w := by
  intro a ha
  have key : ∀ (m : Nat) (x : α) (ρ1 : Env) (a : Act) (w : World), μ x = m → Slots ρ1 (S x) → Same D ρ ρ1 → I x w → Rep n ρ1 a →
      (∀ b k cs, ∃ e a' w', post n N X R e a' w' ∧ Arrives P (lone (b.at a (.code c :: .inLoop c :: k)) cs w) b k cs e a' w') := by
    intro m
    induction m using Nat.strongRecOn with
    | _ m ih =>
      intro x ρ1 a w hm hS hD hI hR b k cs
      have hr := round x ρ1 w hI
      rw [mix_same hD, upds_self hS] at hr
      obtain ⟨e, a₁, w₁, hq, harr⟩ := hr a hR b (.inLoop c :: k) cs
      cases e with
      | normal =>
        obtain ⟨ρ', hR', x', hS', hD', hI', hlt⟩ := hq
        obtain ⟨e₂, a₂, w₂, hq₂, harr₂⟩ := ih (μ x') (hm ▸ hlt) x' ρ' a₁ w₁ rfl hS' hD' hI' hR' b k cs
        exact ⟨e₂, a₂, w₂, hq₂, .of_steps (Steps.trans harr (.one step_inLoop)) harr₂⟩
      | exit id =>
        obtain ⟨r, r1, r2⟩ := hq
        exact ⟨.exit id, a₁, w₁, ⟨r, r1, r2⟩, .pass (x := .inLoop c) rfl (fun _ _ => .inl (by simp)) harr⟩
      | ret =>
        obtain ⟨r, r1, r2⟩ := hq
        exact ⟨.ret, a₁, w₁, ⟨r, r1, r2⟩, .pass (x := .inLoop c) rfl (fun _ _ => .inl (by simp)) harr⟩
      | goto l => exact hq.elim
      | panic ch => exact hq.elim
      | outgrown => exact hq.elim
  intro b k cs
  obtain ⟨e, a', w', hq, harr⟩ := key _ x0 ρ a w rfl h0 Same.refl hI ha b k cs
  exact ⟨e, a', w', hq, .of_steps (.one step_loop) harr⟩

def Wops (P : Program) (n : Nat) (all : Array Oper) (l : List Oper) (N : Env → World → Prop) (ρ : Env) (w : World) : Prop :=
  dstsLt n all.toList = true → (∀ o ∈ l, o ∈ all.toList) → ∀ a, Rep n ρ a → ∀ Q : Exit → Act → World → Prop, (∀ a' ρ' w', Rep n ρ' a' → N ρ' w' → Q .normal a' w') → wpList P all Q l a w

theorem W_region {id : Nat} {ops : List Oper} (hd : dstsLt n ops = true) (h : Wops P n ops.toArray ops N ρ w) : W P n (.region id ops.toArray false) N X R ρ w :=
  fun a ha => wp_region_lit (h (by simpa using hd) (by simp) a ha _ fun a' ρ' w' h1 h2 => ⟨ρ', h1, h2⟩)

variable {all : Array Oper} {rest : List Oper}
theorem Wo_nil (h : N ρ w) : Wops P n all [] N ρ w := fun _ _ _ ha _ hQ => wpList_nil (hQ _ _ _ ha h)

/-- The operation yields v and leaves the world alone. -/
def OpV (P : Program) (op : Op) (ty : TypeId) (ρ : Env) (w : World) (v : Value) : Prop :=
  (execOp (evalE ρ) ⟨none, op, ty, "", #[], none⟩).run P w = .ok (.value v) w

variable {d : Nat} {op : Op} {ty : TypeId} {pos : String} {after : Array Edge} {g : Option (Nat × Bool)}

theorem Wo {v : Value} (hw : wantedE all ⟨some d, op, ty, pos, after, g⟩ ρ = true) (hv : OpV P op ty ρ w v) (hk : Wops P n all rest N (upd ρ d v) w) :
    Wops P n all (⟨some d, op, ty, pos, after, g⟩ :: rest) N ρ w := by
  intro hd hm a ha Q hQ
  refine wpList_step fun K hK => ?_
  rw [wanted_eq ha hd, if_pos hw]
  unfold Oper.wp
  rw [ha.eval]
  have : (execOp (evalE ρ) ⟨some d, op, ty, pos, after, g⟩) = (execOp (evalE ρ) ⟨none, op, ty, "", #[], none⟩) := by cases op <;> rfl
  rw [this, hv]
  exact hK _ _ (hk hd (fun o ho => hm o (List.mem_cons_of_mem _ ho)) _ (ha.put (dstsLt_mem hd _ (hm _ (List.mem_cons_self ..)) d rfl) v) Q hQ)

/-- An operation whose guard keeps it from running. -/
theorem Wo_skip (hw : wantedE all ⟨some d, op, ty, pos, after, g⟩ ρ = false) (hk : Wops P n all rest N (upd ρ d undef) w) :
    Wops P n all (⟨some d, op, ty, pos, after, g⟩ :: rest) N ρ w := by
  intro hd hm a ha Q hQ
  refine wpList_step fun K hK => ?_
  rw [wanted_eq ha hd, if_neg (by rw [hw]; simp)]
  exact hK _ _ (hk hd (fun o ho => hm o (List.mem_cons_of_mem _ ho)) _ (ha.put (dstsLt_mem hd _ (hm _ (List.mem_cons_self ..)) d rfl) undef) Q hQ)

/-- A truth value is told apart at once. -/
theorem Wo_split {b : Bool} (hw : wantedE all ⟨some d, op, ty, pos, after, g⟩ ρ = true) (hv : OpV P op ty ρ w (.bool b))
    (ht : b = true → Wops P n all rest N (upd ρ d (.bool true)) w) (hf : b = false → Wops P n all rest N (upd ρ d (.bool false)) w) :
    Wops P n all (⟨some d, op, ty, pos, after, g⟩ :: rest) N ρ w := by
  refine Wo hw hv ?_
  cases b
  · exact hf rfl
  · exact ht rfl
theorem Wo_split_dec {p : Prop} [Decidable p] (hw : wantedE all ⟨some d, op, ty, pos, after, g⟩ ρ = true) (hv : OpV P op ty ρ w (.bool (decide p)))
    (ht : p → Wops P n all rest N (upd ρ d (.bool true)) w) (hf : ¬ p → Wops P n all rest N (upd ρ d (.bool false)) w) :
    Wops P n all (⟨some d, op, ty, pos, after, g⟩ :: rest) N ρ w :=
  Wo_split hw hv (fun h => ht (of_decide_eq_true h)) (fun h => hf (of_decide_eq_false h))
/-- The operation turns the world. -/
def OpW (P : Program) (op : Op) (ty : TypeId) (ρ : Env) (w : World) (v : Value) (w' : World) : Prop :=
  (execOp (evalE ρ) ⟨none, op, ty, "", #[], none⟩).run P w = .ok (.value v) w'
/-- .. and yields nothing (a store). -/
def OpS (P : Program) (op : Op) (ty : TypeId) (ρ : Env) (w w' : World) : Prop :=
  (execOp (evalE ρ) ⟨none, op, ty, "", #[], none⟩).run P w = .ok .skip w'

theorem Wo_w {v : Value} {w' : World} (hw : wantedE all ⟨some d, op, ty, pos, after, g⟩ ρ = true) (hv : OpW P op ty ρ w v w') (hk : Wops P n all rest N (upd ρ d v) w') :
    Wops P n all (⟨some d, op, ty, pos, after, g⟩ :: rest) N ρ w := by
  intro hd hm a ha Q hQ
  refine wpList_step fun K hK => ?_
  rw [wanted_eq ha hd, if_pos hw]
  unfold Oper.wp
  rw [ha.eval]
  have : (execOp (evalE ρ) ⟨some d, op, ty, pos, after, g⟩) = (execOp (evalE ρ) ⟨none, op, ty, "", #[], none⟩) := by cases op <;> rfl
  rw [this, hv]
  exact hK _ _ (hk hd (fun o ho => hm o (List.mem_cons_of_mem _ ho)) _ (ha.put (dstsLt_mem hd _ (hm _ (List.mem_cons_self ..)) d rfl) v) Q hQ)
theorem Wo_store {w' : World} (hw : wantedE all ⟨none, op, ty, pos, after, g⟩ ρ = true) (hv : OpS P op ty ρ w w') (hk : Wops P n all rest N ρ w') :
    Wops P n all (⟨none, op, ty, pos, after, g⟩ :: rest) N ρ w := by
  intro hd hm a ha Q hQ
  refine wpList_step fun K hK => ?_
  rw [wanted_eq ha hd, if_pos hw]
  unfold Oper.wp
  rw [ha.eval]
  have : (execOp (evalE ρ) ⟨none, op, ty, pos, after, g⟩) = (execOp (evalE ρ) ⟨none, op, ty, "", #[], none⟩) := by cases op <;> rfl
  rw [this, hv]
  exact hK _ _ (hk hd (fun o ho => hm o (List.mem_cons_of_mem _ ho)) _ ha Q hQ)

def Does (P : Program) (f : FuncId) (args : List Value) (w : World) (S : Value → World → Prop) : Prop :=
  Calls P f args.toArray w fun e w' => ∃ v, e = .returned v ∧ S v w'

theorem Does.mono {f : FuncId} {args : List Value} {S S' : Value → World → Prop} (h : Does P f args w S) (hs : ∀ v w', S v w' → S' v w') : Does P f args w S' :=
  Calls.mono h fun _ _ ⟨v, he, hv⟩ => ⟨v, he, hs _ _ hv⟩

/-- The operation calls function f with these arguments. -/
def OpC (P : Program) (op : Op) (ty : TypeId) (ρ : Env) (w : World) (f : FuncId) (args : List Value) : Prop :=
  (execOp (evalE ρ) ⟨none, op, ty, "", #[], none⟩).run P w = .ok (.enter f args.toArray) w

theorem Wo_call {f : FuncId} {args : List Value} {S : Value → World → Prop} (hw : wantedE all ⟨some d, op, ty, pos, after, g⟩ ρ = true) (hv : OpC P op ty ρ w f args)
    (hf : Does P f args w S) (hk : ∀ v w', S v w' → Wops P n all rest N (upd ρ d v) w') :
    Wops P n all (⟨some d, op, ty, pos, after, g⟩ :: rest) N ρ w := by
  intro hd hm a ha Q hQ
  refine wpList_step fun K hK => ?_
  rw [wanted_eq ha hd, if_pos hw]
  unfold Oper.wp
  rw [ha.eval]
  have : (execOp (evalE ρ) ⟨some d, op, ty, pos, after, g⟩) = (execOp (evalE ρ) ⟨none, op, ty, "", #[], none⟩) := by cases op <;> rfl
  rw [this, hv]
  refine Calls.mono hf ?_
  rintro e w' ⟨v, rfl, hs⟩
  exact hK _ _ (hk v w' hs hd (fun o ho => hm o (List.mem_cons_of_mem _ ho)) _ (ha.put (dstsLt_mem hd _ (hm _ (List.mem_cons_self ..)) d rfl) v) Q hQ)

theorem opc_func {f : FuncId} {args : Array Operand} {ts : Array TypeId} {vs : List Value} (hc : ∀ args w, Sem.run P (callFunc f args) w = .ok (.enter f args) w) (ha : args.toList.map (evalE ρ) = vs) :
    OpC P (.call { callee := .value (.func f), args := args, argTypes := ts }) ty ρ w f vs := by
  subst ha
  unfold OpC execOp
  simp only [resolve, evalE, Deferred.ofValue]
  show Sem.run P (callFunc f (#[] ++ args.map (evalE ρ) ++ #[])) w = _
  rw [hc]
  congr 2
  apply Array.ext'
  simp

theorem opc0 {fid : FuncId} {ts : Array TypeId} (hc : ∀ args w, Sem.run P (callFunc fid args) w = .ok (.enter fid args) w)  :
    OpC P (.call { callee := .value (.func fid), args := #[], argTypes := ts }) ty ρ w fid [] := opc_func hc (by simp)
theorem opc1 {fid : FuncId} {ts : Array TypeId} {x0 : Operand} {a : Value} (hc : ∀ args w, Sem.run P (callFunc fid args) w = .ok (.enter fid args) w) (h0 : evalE ρ x0 = a) :
    OpC P (.call { callee := .value (.func fid), args := #[x0], argTypes := ts }) ty ρ w fid [a] := opc_func hc (by simp [h0])
theorem opc2 {fid : FuncId} {ts : Array TypeId} {x0 x1 : Operand} {a b : Value} (hc : ∀ args w, Sem.run P (callFunc fid args) w = .ok (.enter fid args) w) (h0 : evalE ρ x0 = a) (h1 : evalE ρ x1 = b) :
    OpC P (.call { callee := .value (.func fid), args := #[x0, x1], argTypes := ts }) ty ρ w fid [a, b] := opc_func hc (by simp [h0, h1])
theorem opc3 {fid : FuncId} {ts : Array TypeId} {x0 x1 x2 : Operand} {a b c : Value} (hc : ∀ args w, Sem.run P (callFunc fid args) w = .ok (.enter fid args) w) (h0 : evalE ρ x0 = a) (h1 : evalE ρ x1 = b) (h2 : evalE ρ x2 = c) :
    OpC P (.call { callee := .value (.func fid), args := #[x0, x1, x2], argTypes := ts }) ty ρ w fid [a, b, c] := opc_func hc (by simp [h0, h1, h2])
theorem opc4 {fid : FuncId} {ts : Array TypeId} {x0 x1 x2 x3 : Operand} {a b c d : Value} (hc : ∀ args w, Sem.run P (callFunc fid args) w = .ok (.enter fid args) w) (h0 : evalE ρ x0 = a) (h1 : evalE ρ x1 = b) (h2 : evalE ρ x2 = c) (h3 : evalE ρ x3 = d) :
    OpC P (.call { callee := .value (.func fid), args := #[x0, x1, x2, x3], argTypes := ts }) ty ρ w fid [a, b, c, d] := opc_func hc (by simp [h0, h1, h2, h3])
def envOf (args : List Value) : Env := fun i => args.getD i undef

theorem Rep.start (args : List Value) (n : Nat) (h : Nat.ble args.length n = true) :
    Rep n (envOf args) { tmps := args.toArray ++ Array.replicate (n - args.toArray.size) undef, defers := [] } := by
  have h' : args.length ≤ n := by simpa using h
  refine ⟨rfl, by simp; omega, fun i => ?_⟩
  show (args.toArray ++ Array.replicate (n - args.toArray.size) undef).getD i undef = args.getD i undef
  rw [Array.getD_eq_getD_getElem?, List.getD_eq_getElem?_getD]
  by_cases hi : i < args.length
  · rw [Array.getElem?_append_left (by simpa using hi)]; simp
  · rw [Array.getElem?_append_right (by simpa using Nat.le_of_not_lt hi), List.getElem?_eq_none (Nat.le_of_not_lt hi)]
    rw [Array.getElem?_replicate]
    split <;> rfl

theorem fn_of_W1 {f : FuncId} {fn : Func} {c : Code} {args : List Value} {S : Value → World → Prop} {t : Nat} (hf : P.funcs[f]? = some fn) (hb : fn.body = some c)
    (hr : fn.results = #[.tmp t]) {n : Nat} (hn : fn.ntmps = n) (hl : Nat.ble args.length n = true)
    (h : W P n c (fun ρ w' => S (ρ t) w') (fun _ _ _ => False) (fun ρ w' => S (ρ t) w') (envOf args) w) : Does P f args w S := by
  subst hn
  refine calls_of_wp hf hb (Go.wp_mono (h _ (Rep.start args _ hl)) fun e a w q => ?_)
  cases e with
  | normal =>
    obtain ⟨ρ, h1, h2⟩ := q
    exact ⟨h1.defers, ρ t, by rw [results_tmp hr, h1.get], _, rfl, h2⟩
  | ret =>
    obtain ⟨ρ, h1, h2⟩ := q
    exact ⟨h1.defers, ρ t, by rw [results_tmp hr, h1.get], _, rfl, h2⟩
  | exit i => obtain ⟨ρ, h1, h2⟩ := q; exact h2.elim
  | goto l => exact q.elim
  | panic ch => exact q.elim
  | outgrown => exact q.elim

theorem fn_of_W2 {f : FuncId} {fn : Func} {c : Code} {args : List Value} {S : Value → World → Prop} {t u : Nat} (hf : P.funcs[f]? = some fn) (hb : fn.body = some c)
    (hr : fn.results = #[.tmp t, .tmp u]) {n : Nat} (hn : fn.ntmps = n) (hl : Nat.ble args.length n = true)
    (h : W P n c (fun ρ w' => S (.tuple #[ρ t, ρ u]) w') (fun _ _ _ => False) (fun ρ w' => S (.tuple #[ρ t, ρ u]) w') (envOf args) w) : Does P f args w S := by
  subst hn
  refine calls_of_wp hf hb (Go.wp_mono (h _ (Rep.start args _ hl)) fun e a w q => ?_)
  cases e with
  | normal =>
    obtain ⟨ρ, h1, h2⟩ := q
    exact ⟨h1.defers, _, by rw [results_tmp2 hr, h1.get, h1.get], _, rfl, h2⟩
  | ret =>
    obtain ⟨ρ, h1, h2⟩ := q
    exact ⟨h1.defers, _, by rw [results_tmp2 hr, h1.get, h1.get], _, rfl, h2⟩
  | exit i => obtain ⟨ρ, h1, h2⟩ := q; exact h2.elim
  | goto l => exact q.elim
  | panic ch => exact q.elim
  | outgrown => exact q.elim

end
/-- w' is w with more blocks: what was there is as it was. -/
def Ext (w w' : World) : Prop := Below w.heap.size w w'
theorem Ext.refl (w : World) : Ext w w := Below.refl _ _
theorem Ext.trans {a b c : World} (h : Ext a b) (k : Ext b c) : Ext a c := Below.trans h (Below.mono k h.size)
theorem Ext.size {a b : World} (h : Ext a b) : a.heap.size ≤ b.heap.size := Below.size h
theorem Ext.drawn {a b : World} (h : Ext a b) (n : Nat) : Ext a { b with drawn := n } := ⟨h.os, h.tape, h.output, h.size, h.block⟩
theorem Ext.alloc {a b : World} (h : Ext a b) (o : Obj) : Ext a (b.alloc o) := Below.alloc h h.size o
theorem Ext.cell {w w' : World} (h : Ext w w') {a : Addr} {v : Value} (hc : w.cell? a = some v) : w'.cell? a = some v := by
  rw [Below.cell h (World.block_lt_of_cell? _ _ hc)]; exact hc
theorem Ext.frozen {w w' : World} (h : Ext w w') {a : Addr} {v : Value} (hc : w.cell? a = some v) : w'.frozen? a = w.frozen? a :=
  Below.frozen h (World.block_lt_of_cell? _ _ hc)
theorem Ext.setCell {a b : World} (h : Ext a b) {p : Addr} (hp : a.heap.size ≤ p.block) (u : Value) : Ext a (b.setCell p u) := Below.setCell h hp u
theorem Ext.grown {a b c : World} {row : Option Nat} (h : Ext a b) (hg : b.grownBy c row) (hr : ∀ k, row = some k → a.heap.size ≤ k) : Ext a c := Below.grown h hg h.size hr

/-- What a call that only computes leaves: this value, and the world as it was but for more blocks. -/
def Ret (w : World) (r : Value) : Value → World → Prop := fun v w' => v = r ∧ Ext w w'
theorem at_ret {S : Value → World → Prop} {u v : Value} {w : World} (h : u = v) (hs : S v w) : S u w := h ▸ hs
def Wq (P : Program) (n : Nat) (all : Array Oper) (w : World) (l : List Oper) (N : Env → Prop) (ρ : Env) : Prop :=
  dstsLt n all.toList = true → (∀ o ∈ l, o ∈ all.toList) → ∀ a, Rep n ρ a → ∀ Q : Act → Prop, (∀ a' ρ', Rep n ρ' a' → N ρ' → Q a') → wpQuiet P all (Ext w) Q l a

section
variable {P : Program} {n : Nat} {N : Env → World → Prop} {X : Nat → Env → World → Prop} {R : Env → World → Prop} {M : Env → Prop} {ρ : Env} {w w0 : World} {all : Array Oper} {rest : List Oper}
  {d d2 : Nat} {op : Op} {ty ty2 t el tl : TypeId} {pos pos2 : String} {after after2 : Array Edge} {g g2 : Option (Nat × Bool)} {x y : Operand} {k : Nat}

theorem W_draw {id : Nat} {ops : List Oper} (hm : P.follows .mixedOrders = true) (hB : Region.lexB .any ops.toArray = true) (hd : dstsLt n ops = true)
    (h : Wq P n ops.toArray w ops (fun ρ' => ∀ w', Ext w w' → N ρ' w') ρ) : W P n (.region id ops.toArray true) N X R ρ w :=
  fun a ha => wp_region_quiet (C := Ext w) hm hB ((Ext.refl w).drawn _) (by
    have := h (by simpa using hd) (by simp) a ha (fun a' => ∀ w', Ext w w' → post n N X R .normal a' w') (fun a' ρ' h1 h2 w' hw' => ⟨ρ', h1, h2 w' hw'⟩)
    simpa using this)
theorem Wq_nil (h : M ρ) : Wq P n all w [] M ρ := fun _ _ _ ha _ hQ => wpQuiet_nil (hQ _ _ ha h)
theorem Wq_o {v : Value} (hw : wantedE all ⟨some d, op, ty, pos, after, g⟩ ρ = true) (hv : ∀ w', Ext w w' → OpV P op ty ρ w' v) (hk : Wq P n all w rest M (upd ρ d v)) :
    Wq P n all w (⟨some d, op, ty, pos, after, g⟩ :: rest) M ρ := by
  intro hd hm a ha Q hQ
  refine wpQuiet_step fun K hK => ?_
  rw [wanted_eq ha hd, if_pos hw]
  refine ⟨v, fun w' hw' => ?_, hK _ (hk hd (fun o ho => hm o (List.mem_cons_of_mem _ ho)) _ (ha.put (dstsLt_mem hd _ (hm _ (List.mem_cons_self ..)) d rfl) v) Q hQ)⟩
  unfold Oper.quietAt
  rw [ha.eval]
  have : (execOp (evalE ρ) ⟨some d, op, ty, pos, after, g⟩) = (execOp (evalE ρ) ⟨none, op, ty, "", #[], none⟩) := by cases op <;> rfl
  rw [this, hv w' hw']
  exact ⟨rfl, rfl⟩
theorem Wq_skip (hw : wantedE all ⟨some d, op, ty, pos, after, g⟩ ρ = false) (hk : Wq P n all w rest M (upd ρ d undef)) :
    Wq P n all w (⟨some d, op, ty, pos, after, g⟩ :: rest) M ρ := by
  intro hd hm a ha Q hQ
  refine wpQuiet_step fun K hK => ?_
  rw [wanted_eq ha hd, if_neg (by rw [hw]; simp)]
  exact hK _ (hk hd (fun o ho => hm o (List.mem_cons_of_mem _ ho)) _ (ha.put (dstsLt_mem hd _ (hm _ (List.mem_cons_self ..)) d rfl) undef) Q hQ)
theorem Wq_split {b : Bool} (hw : wantedE all ⟨some d, op, ty, pos, after, g⟩ ρ = true) (hv : ∀ w', Ext w w' → OpV P op ty ρ w' (.bool b))
    (ht : b = true → Wq P n all w rest M (upd ρ d (.bool true))) (hf : b = false → Wq P n all w rest M (upd ρ d (.bool false))) :
    Wq P n all w (⟨some d, op, ty, pos, after, g⟩ :: rest) M ρ := by
  refine Wq_o hw hv ?_
  cases b
  · exact hf rfl
  · exact ht rfl
theorem Wq_split_dec {p : Prop} [Decidable p] (hw : wantedE all ⟨some d, op, ty, pos, after, g⟩ ρ = true) (hv : ∀ w', Ext w w' → OpV P op ty ρ w' (.bool (decide p)))
    (ht : p → Wq P n all w rest M (upd ρ d (.bool true))) (hf : ¬ p → Wq P n all w rest M (upd ρ d (.bool false))) :
    Wq P n all w (⟨some d, op, ty, pos, after, g⟩ :: rest) M ρ :=
  Wq_split hw hv (fun h => ht (of_decide_eq_true h)) (fun h => hf (of_decide_eq_false h))
theorem Wq_call {f : FuncId} {args : List Value} {r : Value} (hw : wantedE all ⟨some d, op, ty, pos, after, g⟩ ρ = true) (hv : ∀ w', Ext w w' → OpC P op ty ρ w' f args)
    (hf : ∀ w', Ext w w' → Does P f args w' (Ret w' r)) (hk : Wq P n all w rest M (upd ρ d r)) :
    Wq P n all w (⟨some d, op, ty, pos, after, g⟩ :: rest) M ρ := by
  intro hd hm a ha Q hQ
  refine wpQuiet_step fun K hK => ?_
  rw [wanted_eq ha hd, if_pos hw]
  refine ⟨r, fun w' hw' => ?_, hK _ (hk hd (fun o ho => hm o (List.mem_cons_of_mem _ ho)) _ (ha.put (dstsLt_mem hd _ (hm _ (List.mem_cons_self ..)) d rfl) r) Q hQ)⟩
  unfold Oper.quietAt
  rw [ha.eval]
  have : (execOp (evalE ρ) ⟨some d, op, ty, pos, after, g⟩) = (execOp (evalE ρ) ⟨none, op, ty, "", #[], none⟩) := by cases op <;> rfl
  rw [this, hv w' hw']
  exact ⟨rfl, Calls.mono (hf w' hw') fun e w'' ⟨v, he, hv', hx'⟩ => ⟨by rw [he, hv'], hw'.trans hx'⟩⟩
end

attribute [irreducible] Does W Wops Wq OpV OpW OpS OpC
end Go.Hs
namespace Go.Hs
open Go.IntWalk
variable {P : Program} {ρ : Env} {w : World} {ty t t' e : TypeId} {x y z c : Operand}

/-- A string of these bytes. -/
abbrev str (l : List UInt8) : Value := .string ⟨l.toArray⟩

theorem run_und {d : TypeDesc} (h : P.underlying t = some d) : (underlying t).run P w = .ok d w := by simp [underlying, program, Sem.run, h]

theorem opv_move {v : Value} (h : evalE ρ x = v) : OpV P (.move x) ty ρ w v := by simp [OpV, execOp, h]
theorem opv_assign {v : Value} (h : evalE ρ x = v) : OpV P (.assign x) ty ρ w v := by simp [OpV, execOp, h]
theorem opv_pick_t {v : Value} (hc : evalE ρ c = .bool true) (h : evalE ρ x = v) : OpV P (.pick c x y) ty ρ w v := by simp [OpV, execOp, hc, h, asBool]
theorem opv_pick_f {v : Value} (hc : evalE ρ c = .bool false) (h : evalE ρ y = v) : OpV P (.pick c x y) ty ρ w v := by simp [OpV, execOp, hc, h, asBool]
theorem opv_not {b : Bool} (h : evalE ρ x = .bool b) : OpV P (.unOp .not t x) ty ρ w (.bool (!b)) := by simp [OpV, execOp, h, Op.unary]
section ints
variable {k : IntKind} {a b : Int}
theorem opv_add (hx : evalE ρ x = .int .i64 a) (hy : evalE ρ y = .int .i64 b) (h : -9223372036854775808 ≤ a + b ∧ a + b ≤ 9223372036854775807) :
    OpV P (.binOp .add t x y t') ty ρ w (.int .i64 (a + b)) := by simp [OpV, execOp, hx, hy, eqGuard, binOp, Op.intArith]; exact i64_in _ h
theorem opv_sub (hx : evalE ρ x = .int .i64 a) (hy : evalE ρ y = .int .i64 b) (h : -9223372036854775808 ≤ a - b ∧ a - b ≤ 9223372036854775807) :
    OpV P (.binOp .sub t x y t') ty ρ w (.int .i64 (a - b)) := by simp [OpV, execOp, hx, hy, eqGuard, binOp, Op.intArith]; exact i64_in _ h
theorem opv_mul (hx : evalE ρ x = .int .i64 a) (hy : evalE ρ y = .int .i64 b) (h : -9223372036854775808 ≤ a * b ∧ a * b ≤ 9223372036854775807) :
    OpV P (.binOp .mul t x y t') ty ρ w (.int .i64 (a * b)) := by simp [OpV, execOp, hx, hy, eqGuard, binOp, Op.intArith]; exact i64_in _ h
theorem opv_quo (hx : evalE ρ x = .int .i64 a) (hy : evalE ρ y = .int .i64 b) (h : 0 ≤ a ∧ a ≤ 9223372036854775807 ∧ 1 ≤ b) :
    OpV P (.binOp .quo t x y t') ty ρ w (.int .i64 (a / b)) := by
  have h0 : ¬ b = 0 := by omega
  simp [OpV, execOp, hx, hy, eqGuard, binOp, Op.intDiv, h0]; exact i64_quo _ _ h
theorem opv_rem (hx : evalE ρ x = .int .i64 a) (hy : evalE ρ y = .int .i64 b) (h : 0 ≤ a ∧ 1 ≤ b) :
    OpV P (.binOp .rem t x y t') ty ρ w (.int .i64 (a % b)) := by
  have h0 : ¬ b = 0 := by omega
  simp [OpV, execOp, hx, hy, eqGuard, binOp, Op.intDiv, h0]; exact rem_in _ _ h.1
theorem opv_lss (hx : evalE ρ x = .int k a) (hy : evalE ρ y = .int k b) : OpV P (.binOp .lss t x y t') ty ρ w (.bool (decide (a < b))) := by simp [OpV, execOp, hx, hy, eqGuard, binOp, Op.intCmp]
theorem opv_leq (hx : evalE ρ x = .int k a) (hy : evalE ρ y = .int k b) : OpV P (.binOp .leq t x y t') ty ρ w (.bool (decide (a ≤ b))) := by simp [OpV, execOp, hx, hy, eqGuard, binOp, Op.intCmp]
theorem opv_gtr (hx : evalE ρ x = .int k a) (hy : evalE ρ y = .int k b) : OpV P (.binOp .gtr t x y t') ty ρ w (.bool (decide (b < a))) := by simp [OpV, execOp, hx, hy, eqGuard, binOp, Op.intCmp]
theorem opv_geq (hx : evalE ρ x = .int k a) (hy : evalE ρ y = .int k b) : OpV P (.binOp .geq t x y t') ty ρ w (.bool (decide (b ≤ a))) := by simp [OpV, execOp, hx, hy, eqGuard, binOp, Op.intCmp]
theorem opv_eql (hx : evalE ρ x = .int k a) (hy : evalE ρ y = .int k b) : OpV P (.binOp .eql t x y t') ty ρ w (.bool (decide (a = b))) := by
  simp [OpV, execOp, hx, hy, eqGuard, binOp, Op.intCmp]
  by_cases h : a = b
  · simp [h]
  · rw [decide_eq_false h]; simpa using h
theorem opv_neq (hx : evalE ρ x = .int k a) (hy : evalE ρ y = .int k b) : OpV P (.binOp .neq t x y t') ty ρ w (.bool (!decide (a = b))) := by
  simp [OpV, execOp, hx, hy, eqGuard, binOp, Op.intCmp]
  by_cases h : a = b
  · simp [h]
  · simp [h]
theorem opv_max (hx : evalE ρ x = .int k a) (hy : evalE ρ y = .int k b) {ts : Array TypeId} : OpV P (.call { callee := .builtin .max, args := #[x, y], argTypes := ts }) ty ρ w (.int k (max a b)) := by
  simp [OpV, execOp, resolve, hx, hy, invoke, builtin, Builtin.max_, Builtin.max2]
  split <;> omega
end ints

section bools
variable {a b : Bool}
end bools

section strings
variable {a b : List UInt8}
theorem opv_len_str {ts : TypeId} (ht : P.underlying ts = some .string) (hx : evalE ρ x = .string ⟨a.toArray⟩) :
    OpV P (.call { callee := .builtin .len, args := #[x], argTypes := #[ts] }) ty ρ w (.int .i64 (a.length : Int)) := by
  simp [OpV, execOp, resolve, hx, invoke, builtin, Builtin.len_, run_und ht, goInt]; try rfl
theorem opv_index_str {ts : TypeId} {k : Nat} (ht : P.underlying ts = some .string) (hx : evalE ρ x = .string ⟨a.toArray⟩) (hy : evalE ρ y = .int .i64 (k : Int)) (hk : k < a.length) :
    OpV P (.index ts x y) ty ρ w (.int .u8 ((a.getD k 0).toNat : Int)) := by
  have : (⟨a.toArray⟩ : ByteArray)[k]? = some (a.getD k 0) := by
    show (if h : k < (⟨a.toArray⟩ : ByteArray).size then _ else _) = _
    have hs : k < (⟨a.toArray⟩ : ByteArray).size := by show k < a.toArray.size; simpa using hk
    rw [dif_pos hs]
    simp [List.getD_eq_getElem?_getD, hk]
    rfl
  simp [OpV, execOp, hx, hy, Instr.index, asIntOf, run_und ht, this]
theorem size_mk (l : List UInt8) : (⟨l.toArray⟩ : ByteArray).size = l.length := rfl
theorem opv_eql_str (hx : evalE ρ x = .string ⟨a.toArray⟩) (hy : evalE ρ y = .string ⟨b.toArray⟩) : OpV P (.binOp .eql t x y t') ty ρ w (.bool (decide (a = b))) := by
  simp [OpV, execOp, hx, hy, eqGuard, binOp, Op.stringOp]
  by_cases h : a = b
  · simp [h]
  · rw [decide_eq_false h]; simpa using h
theorem opv_neq_str (hx : evalE ρ x = .string ⟨a.toArray⟩) (hy : evalE ρ y = .string ⟨b.toArray⟩) : OpV P (.binOp .neq t x y t') ty ρ w (.bool (!decide (a = b))) := by
  simp [OpV, execOp, hx, hy, eqGuard, binOp, Op.stringOp]
  by_cases h : a = b
  · simp [h]
  · simp [h]
theorem opv_lss_str (hx : evalE ρ x = .string ⟨a.toArray⟩) (hy : evalE ρ y = .string ⟨b.toArray⟩) : OpV P (.binOp .lss t x y t') ty ρ w (.bool (Op.bytesLess a b)) := by
  simp [OpV, execOp, hx, hy, eqGuard, binOp, Op.stringOp]
theorem append_mk (a b : List UInt8) : (⟨a.toArray⟩ : ByteArray) ++ ⟨b.toArray⟩ = ⟨(a ++ b).toArray⟩ := by
  apply ByteArray.ext; simp [ByteArray.data_append]
theorem opv_add_str (hx : evalE ρ x = .string ⟨a.toArray⟩) (hy : evalE ρ y = .string ⟨b.toArray⟩) (h : a.length + b.length ≤ 9223372036854775807) :
    OpV P (.binOp .add t x y t') ty ρ w (.string ⟨(a ++ b).toArray⟩) := by
  have h' : ¬ ((a.length + b.length : Nat) : Int) > IntKind.i64.max := by show ¬ ((a.length + b.length : Nat) : Int) > 9223372036854775807; omega
  simp only [OpV, execOp, hx, hy, eqGuard, binOp, Op.stringOp, size_mk, append_mk, h', if_false]
  simp
theorem extract_mk (a : List UInt8) (l h : Nat) : (⟨a.toArray⟩ : ByteArray).extract l h = ⟨((a.drop l).take (h - l)).toArray⟩ := by
  apply ByteArray.ext
  simp [ByteArray.data_extract, List.extract_eq_take_drop]
theorem opv_slice_str {ts : TypeId} {lo hi : Operand} {l h : Nat} (ht : P.underlying ts = some .string) (hx : evalE ρ x = .string ⟨a.toArray⟩) (hl : evalE ρ lo = .int .i64 (l : Int)) (hh : evalE ρ hi = .int .i64 (h : Int))
    (hb : l ≤ h ∧ h ≤ a.length) : OpV P (.slice ts x (some lo) (some hi) none) ty ρ w (.string ⟨((a.drop l).take (h - l)).toArray⟩) := by
  have h1 := hb.1
  have h2 := hb.2
  simp [OpV, execOp, hx, hl, hh, Instr.sliceAt, Instr.slice, run_und ht, Instr.sliceBounds, Instr.sliceBound, asIntOf, size_mk, h1, h2, extract_mk]
theorem opv_slice_str_lo {ts : TypeId} {lo : Operand} {l : Nat} (ht : P.underlying ts = some .string) (hx : evalE ρ x = .string ⟨a.toArray⟩) (hl : evalE ρ lo = .int .i64 (l : Int))
    (hb : l ≤ a.length) : OpV P (.slice ts x (some lo) none none) ty ρ w (.string ⟨(a.drop l).toArray⟩) := by
  have e : (a.drop l).take (a.length - l) = a.drop l := List.take_of_length_le (by simp)
  simp [OpV, execOp, hx, hl, Instr.sliceAt, Instr.slice, run_und ht, Instr.sliceBounds, Instr.sliceBound, asIntOf, size_mk, hb, extract_mk, e]
theorem toNat_cast {z : Int} (h : 0 ≤ z) : ((z.toNat : Nat) : Int) = z := Int.toNat_of_nonneg h
end strings

section slices
variable {a : Option Addr} {len cap k : Nat} {ts el : TypeId}
theorem opv_len_slice (ht : P.underlying ts = some (.slice el)) (hx : evalE ρ x = .slice a len cap) :
    OpV P (.call { callee := .builtin .len, args := #[x], argTypes := #[ts] }) ty ρ w (.int .i64 (len : Int)) := by
  simp [OpV, execOp, resolve, hx, invoke, builtin, Builtin.len_, run_und ht, goInt]
theorem opv_indexAddr {b o : Nat} (ht : P.underlying ts = some (.slice el)) (hs : ∀ w, (sizeOf el).run P w = .ok 1 w) (hx : evalE ρ x = .slice (some ⟨b, o, none⟩) len cap) (hy : evalE ρ y = .int .i64 (k : Int)) (hk : k < len) :
    OpV P (.indexAddr ts x y) ty ρ w (.pointer (some ⟨b, o + k, none⟩)) := by
  simp [OpV, execOp, hx, hy, Instr.indexAt, asIntOf, run_und ht, hs, hk]
  unfold Addr.add; split
  · simp_all
  · rfl
theorem opv_load {ad : Addr} {v : Value} {tl : TypeId} (ht : ∀ w, (isAgg tl).run P w = .ok false w) (hx : evalE ρ x = .pointer (some ad)) (hc : w.cell? ad = some v) :
    OpV P (.load tl x) ty ρ w v := by
  simp [OpV, execOp, hx, Instr.loadAt, Instr.sureAddr, loadVar, ht, hc]
def isCell : Value → Bool
  | .agg _ => false
  | .tuple _ => false
  | _ => true
theorem isCell_cells {v : Value} (h : isCell v = true) : v.cells = #[v] := by cases v <;> first | rfl | cases h
theorem run_store_cell {ad : Addr} {v v0 : Value} (h1 : isCell v = true) (hc : w.cell? ad = some v0) (hf : w.frozen? ad = false) (m : Mode) : (store ad v m).run P w = .ok () (w.setCell ad v) := by
  cases v <;> first | (simp [store, Sem.run, hc, hf]; done) | (exact absurd h1 (by simp [isCell]))
theorem ops_store {ad : Addr} {v v0 : Value} {tl : TypeId} (ht : ∀ w, (sizeOf tl).run P w = .ok 1 w) (hx : evalE ρ x = .pointer (some ad)) (hy : evalE ρ y = v) (h1 : isCell v = true) (hc : w.cell? ad = some v0) (hf : w.frozen? ad = false) :
    OpS P (.store tl x y) ty ρ w (w.setCell ad v) := by
  have h2 := isCell_cells h1
  simp [OpS, execOp, hx, hy, Instr.storeAt, Instr.sureAddr, storeVar, ht, h2, storeCells, Addr.add, run_store_cell h1 hc hf]
theorem opv_nilCheck {ad : Addr} (hx : evalE ρ x = .pointer (some ad)) : OpV P (.nilCheck x) ty ρ w (.pointer (some ad)) := by
  simp [OpV, execOp, hx]
theorem opv_fieldAddr {s : TypeId} {fs : Array Field} {f : Field} {i b o m : Nat} (ht : P.underlying s = some (.struct fs)) (hf : fs[i]? = some f) (hfi : f.offset = i) (hs : ∀ w, (sizeOf f.type).run P w = .ok (m + 1) w) (hx : evalE ρ x = .pointer (some ⟨b, o, none⟩)) :
    OpV P (.fieldAddr s x i) ty ρ w (.pointer (some ⟨b, o + i, none⟩)) := by
  simp [OpV, execOp, hx, Instr.fieldAt, run_und ht, Instr.sureAddr, hf, fieldPlace, hs, hfi]
  unfold Addr.add; split
  · simp_all
  · rfl
theorem opv_extract {vs : List Value} {i : Nat} {v : Value} (hx : evalE ρ x = .tuple vs.toArray) (hv : vs[i]? = some v) : OpV P (.extract x i) ty ρ w v := by
  simp [OpV, execOp, hx, Instr.extract, hv]
end slices
end Go.Hs
namespace Go.Hs

section
variable {α : Type} {E : World → Value → α → Prop} {w w' : World} {a : Option Addr} {xs : List α} {v : Value}
/-- From this address on the cells hold these, one behind the other. -/
def RSl (E : World → Value → α → Prop) (w : World) (a : Option Addr) (xs : List α) : Prop :=
  xs.length ≤ 9223372036854775807 ∧ (xs = [] ∨ ∃ b o, a = some ⟨b, o, none⟩ ∧ ∀ i (h : i < xs.length), ∃ u, w.cell? ⟨b, o + i, none⟩ = some u ∧ E w u xs[i])
/-- A slice that reads as this list. -/
def ESl (E : World → Value → α → Prop) (w : World) (v : Value) (xs : List α) : Prop := ∃ a c, v = .slice a xs.length c ∧ RSl E w a xs

class Mono {α : Type} (E : World → Value → α → Prop) : Prop where
  mono : ∀ {w w' : World} {v : Value} {x : α}, Ext w w' → E w v x → E w' v x

theorem RSl.mono [hE : Mono E] (he : Ext w w') (h : RSl E w a xs) : RSl E w' a xs := by
  refine ⟨h.1, h.2.imp id ?_⟩
  rintro ⟨b, o, ha, hc⟩
  refine ⟨b, o, ha, fun i hi => ?_⟩
  obtain ⟨u, h1, h2⟩ := hc i hi
  exact ⟨u, he.cell h1, hE.mono he h2⟩
instance mono_ESl [Mono E] : Mono (ESl E) := ⟨by
  rintro w w' v xs he ⟨a, c, rfl, h⟩
  exact ⟨a, c, rfl, h.mono he⟩⟩
theorem ESl.le (h : ESl E w v xs) : xs.length ≤ 9223372036854775807 := by obtain ⟨_, _, _, h⟩ := h; exact h.1
theorem RSl.le (h : RSl E w a xs) : xs.length ≤ 9223372036854775807 := h.1
theorem RSl.at (h : RSl E w a xs) {i : Nat} (hi : i < xs.length) : ∃ b o u, a = some ⟨b, o, none⟩ ∧ w.cell? ⟨b, o + i, none⟩ = some u ∧ E w u xs[i] := by
  rcases h.2 with rfl | ⟨b, o, ha, hc⟩
  · cases hi
  · obtain ⟨u, h1, h2⟩ := hc i hi
    exact ⟨b, o, u, ha, h1, h2⟩
theorem RSl.nil : RSl E w a [] := ⟨Nat.zero_le _, .inl rfl⟩
end

def EInt : World → Value → Int → Prop := fun _ v x => v = .int .i64 x
def EByte : World → Value → UInt8 → Prop := fun _ v x => v = .int .u8 (x.toNat : Int)
def EBool : World → Value → Bool → Prop := fun _ v x => v = .bool x
def EStr : World → Value → List UInt8 → Prop := fun _ v x => v = .string ⟨x.toArray⟩ ∧ x.length ≤ 9223372036854775807
abbrev Ints := ESl EInt
abbrev Bytes := ESl EByte
abbrev Strs := ESl EStr
abbrev Rows := ESl Ints
instance mono_EInt : Mono EInt := ⟨fun _ h => h⟩
instance mono_EByte : Mono EByte := ⟨fun _ h => h⟩
instance mono_EBool : Mono EBool := ⟨fun _ h => h⟩
instance mono_EStr : Mono EStr := ⟨fun _ h => h⟩

section
variable {P : Program} {ρ : Env} {w w0 : World} {ty ts el : TypeId} {x : Operand} {α : Type} {E : World → Value → α → Prop} {xs : List α} {v : Value}
theorem opv_len (ht : P.underlying ts = some (.slice el)) (hx : evalE ρ x = v) (h : ESl E w0 v xs) :
    OpV P (.call { callee := .builtin .len, args := #[x], argTypes := #[ts] }) ty ρ w (.int .i64 (xs.length : Int)) := by
  obtain ⟨a, c, rfl, _⟩ := h
  exact opv_len_slice ht hx
end

section
variable {P : Program} {n : Nat} {N : Env → World → Prop} {ρ : Env} {w w0 : World} {all : Array Oper} {rest : List Oper}
  {d d2 : Nat} {ty ty2 t el tl : TypeId} {pos pos2 : String} {after after2 : Array Edge} {g g2 : Option (Nat × Bool)} {x y : Operand} {k : Nat}
theorem Wo_get {α : Type} {E : World → Value → α → Prop} {xs : List α} (ht : P.underlying t = some (.slice el)) (hs : ∀ w, (sizeOf el).run P w = .ok 1 w) (hta : ∀ w, (isAgg tl).run P w = .ok false w)
    (hw : wantedE all ⟨some d, .indexAddr t x y, ty, pos, after, g⟩ ρ = true)
    (hw2 : ∀ v, wantedE all ⟨some d2, .load tl (.tmp d), ty2, pos2, after2, g2⟩ (upd ρ d v) = true)
    {v : Value} (hx : evalE ρ x = v) (hR : ESl E w0 v xs) (hE : Ext w0 w) (hy : evalE ρ y = .int .i64 (k : Int)) (hk : k < xs.length)
    (hk' : ∀ ad u, E w0 u xs[k] → Wops P n all rest N (upd (upd ρ d (.pointer (some ad))) d2 u) w) :
    Wops P n all (⟨some d, .indexAddr t x y, ty, pos, after, g⟩ :: ⟨some d2, .load tl (.tmp d), ty2, pos2, after2, g2⟩ :: rest) N ρ w := by
  obtain ⟨a, c, rfl, hR⟩ := hR
  obtain ⟨b, o, u, rfl, hc, hu⟩ := hR.at hk
  refine Wo hw (opv_indexAddr ht hs hx hy hk) ?_
  refine Wo (hw2 _) (opv_load hta ?_ (hE.cell hc)) (hk' _ u hu)
  show upd ρ d _ d = _
  unfold upd; rw [Nat.beq_refl]; rfl
theorem Wo_get_z {α : Type} {E : World → Value → α → Prop} {xs : List α} (ht : P.underlying t = some (.slice el)) (hs : ∀ w, (sizeOf el).run P w = .ok 1 w) (hta : ∀ w, (isAgg tl).run P w = .ok false w)
    (hw : wantedE all ⟨some d, .indexAddr t x y, ty, pos, after, g⟩ ρ = true)
    (hw2 : ∀ v, wantedE all ⟨some d2, .load tl (.tmp d), ty2, pos2, after2, g2⟩ (upd ρ d v) = true)
    {v : Value} (hx : evalE ρ x = v) (hR : ESl E w0 v xs) (hE : Ext w0 w) {z : Int} (hy : evalE ρ y = .int .i64 z) (hk : 0 ≤ z ∧ z.toNat < xs.length)
    (hk' : ∀ ad u, E w0 u xs[z.toNat] → Wops P n all rest N (upd (upd ρ d (.pointer (some ad))) d2 u) w) :
    Wops P n all (⟨some d, .indexAddr t x y, ty, pos, after, g⟩ :: ⟨some d2, .load tl (.tmp d), ty2, pos2, after2, g2⟩ :: rest) N ρ w :=
  Wo_get ht hs hta hw hw2 hx hR hE (by rw [hy, toNat_cast hk.1]) hk.2 hk'
end
section
variable {P : Program} {n : Nat} {N : Env → World → Prop} {X : Nat → Env → World → Prop} {R : Env → World → Prop} {M : Env → Prop} {ρ : Env} {w w0 : World} {all : Array Oper} {rest : List Oper}
  {d d2 : Nat} {op : Op} {ty ty2 t el tl : TypeId} {pos pos2 : String} {after after2 : Array Edge} {g g2 : Option (Nat × Bool)} {x y : Operand} {k : Nat}
theorem Wq_get {α : Type} {E : World → Value → α → Prop} {xs : List α} (ht : P.underlying t = some (.slice el)) (hs : ∀ w, (sizeOf el).run P w = .ok 1 w) (hta : ∀ w, (isAgg tl).run P w = .ok false w)
    (hw : wantedE all ⟨some d, .indexAddr t x y, ty, pos, after, g⟩ ρ = true)
    (hw2 : ∀ v, wantedE all ⟨some d2, .load tl (.tmp d), ty2, pos2, after2, g2⟩ (upd ρ d v) = true)
    {v : Value} (hx : evalE ρ x = v) (hR : ESl E w0 v xs) (hE : Ext w0 w) (hy : evalE ρ y = .int .i64 (k : Int)) (hk : k < xs.length)
    (hk' : ∀ ad u, E w0 u xs[k] → Wq P n all w rest M (upd (upd ρ d (.pointer (some ad))) d2 u)) :
    Wq P n all w (⟨some d, .indexAddr t x y, ty, pos, after, g⟩ :: ⟨some d2, .load tl (.tmp d), ty2, pos2, after2, g2⟩ :: rest) M ρ := by
  obtain ⟨a, c, rfl, hR⟩ := hR
  obtain ⟨b, o, u, rfl, hc, hu⟩ := hR.at hk
  refine Wq_o hw (fun _ _ => opv_indexAddr ht hs hx hy hk) ?_
  refine Wq_o (hw2 _) (fun w' hw' => opv_load hta ?_ ((hE.trans hw').cell hc)) (hk' _ u hu)
  show upd ρ d _ d = _
  unfold upd; rw [Nat.beq_refl]; rfl
theorem Wq_get_z {α : Type} {E : World → Value → α → Prop} {xs : List α} (ht : P.underlying t = some (.slice el)) (hs : ∀ w, (sizeOf el).run P w = .ok 1 w) (hta : ∀ w, (isAgg tl).run P w = .ok false w)
    (hw : wantedE all ⟨some d, .indexAddr t x y, ty, pos, after, g⟩ ρ = true)
    (hw2 : ∀ v, wantedE all ⟨some d2, .load tl (.tmp d), ty2, pos2, after2, g2⟩ (upd ρ d v) = true)
    {v : Value} (hx : evalE ρ x = v) (hR : ESl E w0 v xs) (hE : Ext w0 w) {z : Int} (hy : evalE ρ y = .int .i64 z) (hk : 0 ≤ z ∧ z.toNat < xs.length)
    (hk' : ∀ ad u, E w0 u xs[z.toNat] → Wq P n all w rest M (upd (upd ρ d (.pointer (some ad))) d2 u)) :
    Wq P n all w (⟨some d, .indexAddr t x y, ty, pos, after, g⟩ :: ⟨some d2, .load tl (.tmp d), ty2, pos2, after2, g2⟩ :: rest) M ρ :=
  Wq_get ht hs hta hw hw2 hx hR hE (by rw [hy, toNat_cast hk.1]) hk.2 hk'
end
end Go.Hs
namespace Go.Hs

/-- Block b holds just these cells, and may be written. -/
def Blk (w : World) (b : Nat) (cs : List Value) : Prop := ∃ t, w.heap[b]? = some (.cells cs.toArray t (0, 0))

/-- What lies from block lo on is as it was. -/
def Keep (lo : Nat) (w w' : World) : Prop := ∀ k, lo ≤ k → k < w.heap.size → w'.heap[k]? = w.heap[k]?

section
variable {w w' w0 : World} {b b' i lo : Nat} {cs cs' : List Value} {v : Value}
theorem Blk.lt (h : Blk w b cs) : b < w.heap.size := by
  obtain ⟨t, h⟩ := h
  rcases Nat.lt_or_ge b w.heap.size with h1 | h1
  · exact h1
  · rw [Array.getElem?_eq_none h1] at h; cases h
theorem Blk.cell (h : Blk w b cs) (hi : cs[i]? = some v) : w.cell? ⟨b, i, none⟩ = some v := by
  obtain ⟨t, h⟩ := h
  simp [World.cell?, h, hi]
theorem Blk.frozen (h : Blk w b cs) : w.frozen? ⟨b, i, none⟩ = false := by
  obtain ⟨t, h⟩ := h
  simp [World.frozen?, h]
theorem Blk.of_heap (h : Blk w b cs) (e : w'.heap[b]? = w.heap[b]?) : Blk w' b cs := by
  obtain ⟨t, h⟩ := h
  exact ⟨t, by rw [e, h]⟩
theorem Blk.ext (h : Blk w b cs) (e : Ext w w') : Blk w' b cs := h.of_heap (e.block b h.lt)
theorem Blk.keep (h : Blk w b cs) (k : Keep lo w w') (hb : lo ≤ b) : Blk w' b cs := h.of_heap (k b hb h.lt)
theorem Blk.set (h : Blk w b cs) (v : Value) : Blk (w.setCell ⟨b, i, none⟩ v) b (cs.set i v) := by
  obtain ⟨t, h⟩ := h
  refine ⟨t, ?_⟩
  simp [World.setCell, Array.getElem?_modify, h]
theorem heap_setCell_other {p : Addr} (v : Value) (hb : b ≠ p.block) : (w.setCell p v).heap[b]? = w.heap[b]? := Go.RowKit.Below.heap_setCell _ _ _ _ hb
theorem Blk.new (w : World) (cs : List Value) (t : TypeId) : Blk (w.alloc (.cells cs.toArray t)) w.heap.size cs := ⟨t, heap_alloc_new w _⟩

theorem Keep.refl : Keep lo w w := fun _ _ _ => rfl
theorem Keep.mono {lo' : Nat} (h : Keep lo w w') (hl : lo ≤ lo') : Keep lo' w w' := fun k h1 h2 => h k (Nat.le_trans hl h1) h2
theorem Ext.keep (h : Ext w w') : Keep lo w w' := fun k _ h2 => h.block k h2
theorem Keep.setCell {p : Addr} (hp : p.block < lo) (v : Value) : Keep lo w (w.setCell p v) := fun k h1 _ => heap_setCell_other v (by omega)
theorem Keep.trans {w'' : World} (h : Keep lo w w') (hs : w.heap.size ≤ w'.heap.size) (k : Keep lo w' w'') : Keep lo w w'' := fun i h1 h2 => (k i h1 (by omega)).trans (h i h1 h2)
theorem size_setCell (p : Addr) (v : Value) : (w.setCell p v).heap.size = w.heap.size := by simp [World.setCell]
end

/-- It reads as x, by blocks from lo on alone. -/
def Above {α : Type} (lo : Nat) (E : World → Value → α → Prop) (w : World) (v : Value) (x : α) : Prop :=
  ∀ w1, Keep lo w w1 → w.heap.size ≤ w1.heap.size → E w1 v x
section
variable {α : Type} {E : World → Value → α → Prop} {lo : Nat} {w w' : World} {v : Value} {x : α}
theorem Above.here (h : Above lo E w v x) : E w v x := h w Keep.refl (Nat.le_refl _)
theorem Above.keep (h : Above lo E w v x) (k : Keep lo w w') (hs : w.heap.size ≤ w'.heap.size) : Above lo E w' v x := fun w1 k1 h1 => h w1 (k.trans hs k1) (Nat.le_trans hs h1)
theorem Above.mono {lo' : Nat} (h : Above lo E w v x) (hl : lo' ≤ lo) : Above lo' E w v x := fun w1 k h1 => h w1 (k.mono hl) h1
theorem Above.ext (h : Above lo E w v x) (k : Ext w w') : Above lo E w' v x := h.keep k.keep k.size
instance mono_Above : Mono (Above lo E) := ⟨fun e h => h.ext e⟩
end

/-- What a call leaves: one of these values, of which this is known. -/
def RetX {β : Type} (w : World) (val : β → Value) (p : β → World → Prop) : Value → World → Prop := fun v w' => Ext w w' ∧ ∃ y, v = val y ∧ p y w'
theorem Blk.slice {α : Type} {E : World → Value → α → Prop} {w : World} {b c : Nat} {cs : List Value} {xs : List α} (h : Blk w b cs) (hl : cs.length = xs.length) (hm : xs.length ≤ 9223372036854775807)
    (hE : ∀ (i : Nat) (h1 : i < cs.length) (h2 : i < xs.length), E w cs[i] xs[i]) : ESl E w (.slice (some ⟨b, 0, none⟩) xs.length c) xs := by
  refine ⟨_, _, rfl, hm, .inr ⟨b, 0, rfl, fun i hi => ⟨cs[i], ?_, hE i (by omega) hi⟩⟩⟩
  rw [Nat.zero_add]
  exact h.cell (List.getElem?_eq_getElem (by omega))

/-- The very value. -/
def EVal : World → Value → Value → Prop := fun _ v x => v = x
instance mono_EVal : Mono EVal := ⟨fun _ h => h⟩
def Flat (P : Program) (t : TypeId) (zs : List Value) : Prop := ∃ fs : Array Field, P.underlying t = some (.struct fs) ∧ (∀ w, (zeroValue t).run P w = .ok (.agg zs.toArray) w) ∧
  ∀ w, (fs.mapM fun (f : Field) => (do pure (f.offset, ← sizeOf f.type) : Sem (Nat × Nat))).run P w = .ok ((List.range zs.length).map fun i => (i, 1)).toArray w

def fillF : List Value → List (Nat × Value) → Option (List Value)
  | cs, [] => some cs
  | cs, (i, v) :: rest => bif isCell v && Nat.blt i cs.length then fillF (cs.set i v) rest else none

theorem fill_eq {k : Nat} {place : Nat → Option (Nat × Nat)} (hpl : ∀ i, i < k → place i = some (i, 1)) : ∀ (ps : List (Nat × Value)) (cs out : List Value), cs.length = k → fillF cs ps = some out →
    Instr.fill place cs.toArray ps = some out.toArray
  | [], cs, out, _, h => by simp [fillF] at h; subst h; rfl
  | (i, v) :: rest, cs, out, hk, h => by
    unfold fillF at h
    cases hc : (isCell v && Nat.blt i cs.length)
    · rw [hc] at h; cases h
    · rw [hc] at h
      simp only [cond_true] at h
      simp only [Bool.and_eq_true] at hc
      have hi : i < cs.length := by simpa using hc.2
      unfold Instr.fill
      rw [hpl i (by omega)]
      have e1 : v.cells = #[v] := isCell_cells hc.1
      simp only [e1, List.size_toArray, List.length_cons, List.length_nil]
      rw [if_neg (by simp; omega)]
      have := fill_eq hpl rest (cs.set i v) out (by simpa using hk) h
      simpa using this

section
variable {P : Program} {n : Nat} {N : Env → World → Prop} {ρ : Env} {w w0 : World} {all : Array Oper} {rest : List Oper}
  {d : Nat} {ty t el : TypeId} {pos : String} {after : Array Edge} {g : Option (Nat × Bool)} {x y : Operand} {v : Value} {zs cs : List Value} {ps : List (Nat × Value)} {b i : Nat}

theorem opv_build {parts : Array (Nat × Operand)} (hF : Flat P t zs) (hp : parts.toList.map (fun p => (p.1, evalE ρ p.2)) = ps) (hc : fillF zs ps = some cs) :
    OpV P (.build t parts) ty ρ w (.agg cs.toArray) := by
  obtain ⟨fs, hund, hzero, hplaces⟩ := hF
  have e : (Array.map (fun x => match x with | (i, x) => (i, evalE ρ x)) parts).toList = ps := by rw [← hp]; simp
  have hz : (Value.agg zs.toArray).cells = zs.toArray := rfl
  have hf := fill_eq (k := zs.length) (place := fun i => (((List.range zs.length).map fun i => (i, 1)).toArray)[i]?) (fun i hi => by simp [hi]) ps zs cs rfl hc
  simp only [OpV, execOp, Instr.build, Sem.run_bind, hzero, Result.andThen_ok, run_und hund, hplaces, hz, e, hf, Sem.run_pure]

theorem Wo_box (hw : wantedE all ⟨some d, .box t x, ty, pos, after, g⟩ ρ = true) (hx : evalE ρ x = v) (hcs : v.cells = cs.toArray)
    (hk : ∀ b w1, w.heap.size ≤ b → Ext w w1 → Blk w1 b cs → Wops P n all rest N (upd ρ d (.pointer (some ⟨b, 0, none⟩))) w1) :
    Wops P n all (⟨some d, .box t x, ty, pos, after, g⟩ :: rest) N ρ w :=
  Wo_w hw (show OpW P (.box t x) ty ρ w (.pointer (some ⟨w.heap.size, 0, none⟩)) (w.alloc (.cells cs.toArray t)) by
    simp [OpW, execOp, hx, Instr.box, newVar, newRow, hcs]) (hk _ _ (Nat.le_refl _) ((Ext.refl w).alloc _) (Blk.new w cs t))

theorem Wo_buildSlice {k : Nat} {parts : Array (Nat × Operand)} {z : Value} (hw : wantedE all ⟨some d, .buildSlice t k parts, ty, pos, after, g⟩ ρ = true) (ht : P.underlying t = some (.slice el)) (hs : ∀ w, (sizeOf el).run P w = .ok 1 w)
    (hz : ∀ w, (zeroValue el).run P w = .ok z w) (h1 : isCell z = true) (hb : (Nat.ble 1 k && Nat.ble k 1000) = true) (hp : parts.toList.map (fun p => (p.1, evalE ρ p.2)) = ps) (hc : fillF (List.replicate k z) ps = some cs)
    (hk : ∀ b w1, w.heap.size ≤ b → Ext w w1 → Blk w1 b cs → Wops P n all rest N (upd ρ d (.slice (some ⟨b, 0, none⟩) k k)) w1) :
    Wops P n all (⟨some d, .buildSlice t k parts, ty, pos, after, g⟩ :: rest) N ρ w := by
  have hb' : 1 ≤ k ∧ k ≤ 1000 := by simpa using hb
  have e : (Array.map (fun x => match x with | (i, x) => (i, evalE ρ x)) parts).toList = ps := by rw [← hp]; simp
  have hr : (Array.map (fun i => (#[z] : Array Value)[i % (#[z] : Array Value).size]!) (Array.range k)) = (List.replicate k z).toArray := by
    apply Array.ext'
    simp only [Array.toList_map, Array.toList_range]
    apply List.ext_getElem
    · simp
    · intro i h1 h2; simp [Nat.mod_one]
  have hf := fill_eq (k := k) (place := fun i => some (i * 1, 1)) (fun i hi => by simp) ps (List.replicate k z) cs (by simp) hc
  have hz0 : z.cells = #[z] := isCell_cells h1
  refine Wo_w hw (show OpW P (.buildSlice t k parts) ty ρ w (.slice (some ⟨w.heap.size, 0, none⟩) k k) (w.alloc (.cells cs.toArray el)) from ?_) (hk _ _ (Nat.le_refl _) ((Ext.refl w).alloc _) (Blk.new w cs el))
  simp only [OpW, execOp, Instr.buildSlice, Sem.run_bind, Result.andThen_ok, run_und ht, hs, Nat.mul_one]
  rw [if_neg (by omega), if_neg (by omega)]
  simp only [Sem.run_bind, hz, Result.andThen_ok, Sem.run_pure, hz0, e]
  rw [hr]
  simp only [Nat.mul_one] at hf
  rw [hf]
  simp [newRow]
/-- A store into a block of the call's own. -/
theorem Wo_st (hw : wantedE all ⟨none, .store t x y, ty, pos, after, g⟩ ρ = true) (ht : ∀ w, (sizeOf t).run P w = .ok 1 w) (hx : evalE ρ x = .pointer (some ⟨b, i, none⟩)) (hy : evalE ρ y = v) (hc : isCell v = true)
    (hb : Blk w b cs) (hi : i < cs.length) (h0 : w0.heap.size ≤ b) (hE : Ext w0 w)
    (hk : ∀ w1, Ext w0 w1 → Blk w1 b (cs.set i v) → (∀ k, k ≠ b → w1.heap[k]? = w.heap[k]?) → w1.heap.size = w.heap.size → Wops P n all rest N ρ w1) :
    Wops P n all (⟨none, .store t x y, ty, pos, after, g⟩ :: rest) N ρ w :=
  Wo_store hw (ops_store ht hx hy hc (hb.cell (List.getElem?_eq_getElem hi)) hb.frozen)
    (hk _ (hE.setCell h0 v) (hb.set v) (fun _ h => heap_setCell_other v h) (size_setCell _ _))

end
end Go.Hs
namespace Go.Hs
open Go.ChangeShapes Go.WideShapes Go.ChangeAt Go.RowKit Go.Deep
open Go.ChangeMaps (open_string shut_string)

section
variable {P : Program}
/-- Whatever reads at type t as one cell reads so. -/
def Reads {α : Type} (P : Program) (t : TypeId) (E : World → Value → α → Prop) : Prop :=
  ∀ (H : Type) (enc : TypeId × Value → H) (w : World) (base : Nat) (sp : Nat → Bool) (held : Bool) (fuel : Nat) (cs : List Value) (x : DataW H × List MemPlace),
    DataW.trod enc P w base sp held fuel t cs = some x → ∃ v y, cs = [v] ∧ E w v y

theorem reads_byte {t : TypeId} (ht : P.underlying t = some (.int .u8)) : Reads P t EByte := by
  intro H enc w base sp held fuel cs x h
  obtain ⟨n, rfl, _, hw⟩ := DataW.trod_int ht h
  have hb := bounds_u8 hw
  refine ⟨_, UInt8.ofNat n.toNat, rfl, ?_⟩
  show Value.int .u8 n = _
  have : ((UInt8.ofNat n.toNat).toNat : Int) = n := by
    rw [UInt8.toNat_ofNat']
    have : n.toNat % 2 ^ 8 = n.toNat := Nat.mod_eq_of_lt (by omega)
    rw [this]
    omega
  rw [this]
theorem spot_none {w : World} {a : Addr} {v : Value} (h : w.cell? a = some v) : a.spot = none := by
  unfold World.cell? at h
  split at h
  · split at h
    · cases h
    · rename_i hs; simpa using hs
  · cases h
theorem reads_slice {α : Type} [Inhabited α] {E : World → Value → α → Prop} {t e : TypeId} (ht : P.underlying t = some (.slice e)) (ce : P.cellsOf e = 1) (hE : Reads P e E) : Reads P t (ESl E) := by
  intro H enc w base sp held fuel cs x h
  rcases open_slice ht h with ⟨rfl, _⟩ | ⟨a, len, cap, m, n, D, Pl, rfl, hb, hl, hm, hmm, _, hx⟩
  · exact ⟨_, [], rfl, none, 0, rfl, RSl.nil⟩
  · have hlm : len ≤ m := by rw [hmm]; split <;> omega
    have each : ∀ i, i < len → ∃ p : Value × α, w.cell? (a.add i) = some p.1 ∧ E w p.1 p.2 := by
      intro i hi
      obtain ⟨cs', h1, h2⟩ := hx i (by omega)
      rw [ce] at h1
      obtain ⟨v, y, rfl, hv⟩ := hE _ _ _ _ _ _ _ _ _ h2
      refine ⟨(v, y), ?_, hv⟩
      simp only [World.cells?, Nat.mul_one] at h1
      split at h1
      · simp only [List.range_succ, List.range_zero, List.nil_append, List.mapM_cons, List.mapM_nil, Option.pure_def, Option.bind_eq_bind] at h1
        have e0 : (a.add i).add 0 = a.add i := by simp [Addr.add]
        rw [e0] at h1
        cases hc : w.cell? (a.add i) with
        | none => rw [hc] at h1; cases h1
        | some u => rw [hc] at h1; simp at h1; rw [h1]
      · cases h1
    classical
    let f : Nat → Value × α := fun i => if hi : i < len then (each i hi).choose else (undef, default)
    have hf : ∀ i, i < len → w.cell? (a.add i) = some (f i).1 ∧ E w (f i).1 (f i).2 := by
      intro i hi
      have : f i = (each i hi).choose := dif_pos hi
      rw [this]
      exact (each i hi).choose_spec
    refine ⟨.slice (some a) len cap, (List.range len).map fun i => (f i).2, rfl, some a, cap, by simp, ?_⟩
    refine ⟨by simp; unfold maxLen at hm; omega, ?_⟩
    by_cases h0 : len = 0
    · left; subst h0; rfl
    · right
      have hs : a.spot = none := by
        have := spot_none (hf 0 (by omega)).1
        simpa [Addr.add] using this
      obtain ⟨b, o, sp'⟩ := a
      simp only at hs
      subst hs
      refine ⟨b, o, rfl, fun i hi => ?_⟩
      simp only [List.length_map, List.length_range] at hi
      have e1 : (⟨b, o, none⟩ : Addr).add i = ⟨b, o + i, none⟩ := by
        unfold Addr.add; split
        · simp_all
        · rfl
      refine ⟨(f i).1, ?_, ?_⟩
      · rw [← e1]; exact (hf i hi).1
      · simp only [List.getElem_map, List.getElem_range]; exact (hf i hi).2

theorem read_slice {α : Type} {E : World → Value → α → Prop} {t e : TypeId} {H : Type} {enc : TypeId × Value → H} {w : World} {r : Reach} {b0 base : Nat} {sp : Nat → Bool} {held : Bool} {v : Value} {d : DataW H} {ps : List MemPlace}
    (ht : P.underlying t = some (.slice e)) (hE : Reads P t (ESl E)) (hval : Value.okWide P w r b0 t v) (hd : DataW.Trod enc P w base sp held t v d ps) : ∃ xs, ESl E w v xs := by
  obtain ⟨a, len, cap, rfl⟩ := okWide_slice ht hval
  obtain ⟨fuel, hf⟩ := hd
  obtain ⟨u, xs, hu, h⟩ := hE _ _ _ _ _ _ _ _ _ hf
  simp [Value.cells] at hu
  subst hu
  exact ⟨xs, h⟩
end
end Go.Hs
namespace Go.Hs

def Wh (P : Program) (n : Nat) (all : Array Oper) (S : World → Prop) (fuel : Nat) (listed : Array Bool) (N : Env → World → Prop) (ρ : Env) (w : World) : Prop :=
  dstsLt n all.toList = true → Region.noSelect all = true → ∀ a, Rep n ρ a → ∀ Q : Exit → Act → World → Prop, (∀ c a w, ¬ Q (.panic c) a w) → (∀ a' ρ' w', Rep n ρ' a' → N ρ' w' → Q .normal a' w') →
    wpAnyH P .any all Q S fuel listed a w

/-- Every one of these may come up next. -/
def WhAll (P : Program) (n : Nat) (all : Array Oper) (S : World → Prop) (fuel : Nat) (listed : Array Bool) (N : Env → World → Prop) (ρ : Env) (w : World) : List Nat → Prop
  | [] => True
  | i :: r => (∃ o, all[i]? = some o ∧ Wops P n all [o] (fun ρ' w' => S w' ∧ Wh P n all S fuel (listed.setIfInBounds i true) N ρ' w') ρ w) ∧ WhAll P n all S fuel listed N ρ w r

section
variable {P : Program} {n : Nat} {N : Env → World → Prop} {X : Nat → Env → World → Prop} {R : Env → World → Prop} {ρ : Env} {w : World} {all : Array Oper} {S : World → Prop} {fuel : Nat} {listed : Array Bool}
  {d : Nat} {op : Op} {ty : TypeId} {pos : String} {after : Array Edge} {g : Option (Nat × Bool)} {i : Nat}

theorem W_held {id : Nat} {ops : List Oper} (S : World → Prop) (hm : P.follows .mixedOrders = true) (hd : dstsLt n ops = true) (hs : Region.noSelect ops.toArray = true)
    (h : ∀ w1, Ext w w1 → (∀ k : Nat, w1.heap[k]? = w.heap[k]?) → w1.heap.size = w.heap.size → Wh P n ops.toArray S ops.length (Array.replicate ops.length false) N ρ w1) : W P n (.region id ops.toArray true) N X R ρ w := by
  unfold W
  intro a ha
  refine wp_region_held (S := S) hm ?_
  exact h { w with drawn := w.drawn + 1 } ((Ext.refl w).drawn _) (fun _ => rfl) rfl (by simpa using hd) hs a ha (post n N X R) (fun _ _ _ h => h) (fun a' ρ' w' h1 h2 => ⟨ρ', h1, h2⟩)

theorem Wh_take {v : Value} (i : Nat) (hi : all[i]? = some ⟨some d, op, ty, pos, after, g⟩) (hf : Region.free .any all listed i = true) (hr : (Region.ready .any all listed).contains i = true)
    (hw : wantedE all ⟨some d, op, ty, pos, after, g⟩ ρ = true) (hv : ∀ w', S w' → OpV P op ty ρ w' v) (hS : S w) (hk : Wh P n all S fuel (listed.setIfInBounds i true) N (upd ρ d v) w) :
    Wh P n all S (fuel + 1) listed N ρ w := by
  intro hd hs a ha Q hp hQ
  have hmem : (⟨some d, op, ty, pos, after, g⟩ : Oper) ∈ all.toList := Array.mem_toList_iff.2 (Array.mem_of_getElem? hi)
  refine wpAnyH_take (v := v) hi hs hf hr (fun c a w h => absurd h (hp _ _ _)) (.inl ⟨?_, fun w' hw' => ?_⟩) hS (hk hd hs _ (ha.put (dstsLt_mem hd _ hmem d rfl) v) Q hp hQ)
  · rw [wanted_eq ha hd, hw]
  · have : (execOp a.eval ⟨some d, op, ty, pos, after, g⟩) = (execOp a.eval ⟨none, op, ty, "", #[], none⟩) := by cases op <;> rfl
    rw [this, ha.eval]
    have := hv w' hw'
    unfold OpV at this
    exact this
theorem Wh_done (hr : Region.ready .any all listed = []) (h : N ρ w) : Wh P n all S fuel listed N ρ w :=
  fun _ _ a ha _ _ hQ => wpAnyH_done hr (hQ a ρ w ha h) _

theorem wpOp_of_list {o : Oper} {a : Act} {K : Act → World → Prop} {Q : Exit → Act → World → Prop} (hi : all[i]? = some o)
    (h : wpList P all (fun e a w => match e with | .normal => K a w | e => Q e a w) [o] a w) : wpOp P all Q i K a w := by
  unfold wpOp
  rw [hi]
  simp only [wpList] at h ⊢
  split
  · rename_i hw
    simp only [hw, if_true] at h
    rcases h with h | ⟨h1, h2⟩
    · left
      unfold Oper.wp at *
      generalize (execOp a.eval o).run P w = r at *
      cases r with
      | ok n w' =>
        cases n <;> simp only [Oper.upon] at h ⊢ <;> first | exact h | exact Calls.mono h (fun e w'' he => by cases e <;> exact he) | exact Rows.mono h (fun _ _ he => he)
      | halt x w' => cases x <;> simp only [Oper.upon] at h ⊢ <;> exact h
    · exact .inr ⟨h1, h2⟩
  · rename_i hw
    simp only [hw] at h
    exact h
theorem Wh_all {rs : List Nat} (hr : Region.ready .any all listed = rs) (hne : rs.isEmpty = false) (h : WhAll P n all S fuel listed N ρ w rs) : Wh P n all S (fuel + 1) listed N ρ w := by
  intro hd hs a ha Q hp hQ
  refine wpAnyH_all hr (by rintro rfl; cases hne) ?_
  clear hr hne
  induction rs with
  | nil => intro i hi; cases hi
  | cons j r ih =>
    obtain ⟨⟨o, ho, hW⟩, h2⟩ := h
    intro i hi
    rcases List.mem_cons.1 hi with rfl | hi
    · refine wpOp_of_list ho ?_
      have hmem : o ∈ all.toList := Array.mem_toList_iff.2 (Array.mem_of_getElem? ho)
      unfold Wops at hW
      refine hW hd (fun x hx => by rw [List.mem_singleton.1 hx]; exact hmem) a ha _ ?_
      rintro a' ρ' w' h3 ⟨h4, h5⟩
      exact ⟨h4, h5 hd hs a' h3 Q hp hQ⟩
    · exact ih h2 i hi
theorem WhAll_nil : WhAll P n all S fuel listed N ρ w [] := trivial
theorem WhAll_cons {o : Oper} {r : List Nat} (hi : all[i]? = some o) (h : Wops P n all [o] (fun ρ' w' => S w' ∧ Wh P n all S fuel (listed.setIfInBounds i true) N ρ' w') ρ w)
    (h2 : WhAll P n all S fuel listed N ρ w r) : WhAll P n all S fuel listed N ρ w (i :: r) := ⟨⟨o, hi, h⟩, h2⟩

theorem opv_xor {a b : Int} {x y : Operand} {t t' : TypeId} (hx : evalE ρ x = .int .i64 a) (hy : evalE ρ y = .int .i64 b) (h : 0 ≤ a ∧ a ≤ 9223372036854775807 ∧ 0 ≤ b ∧ b ≤ 9223372036854775807) :
    OpV P (.binOp .xor t x y t') ty ρ w (.int .i64 ((a.toNat ^^^ b.toNat : Nat) : Int)) := by
  obtain ⟨A, rfl⟩ := Int.eq_ofNat_of_zero_le h.1
  obtain ⟨B, rfl⟩ := Int.eq_ofNat_of_zero_le h.2.2.1
  have hx' : A ^^^ B < 2 ^ 63 := Nat.xor_lt_two_pow (by omega) (by omega)
  have key : IntKind.i64.wrap ((BitVec.ofInt 64 (A : Int) ^^^ BitVec.ofInt 64 (B : Int)).toNat : Int) = ((A ^^^ B : Nat) : Int) := by
    have e1 : (BitVec.ofInt 64 (A : Int)).toNat = A := by simp; omega
    have e2 : (BitVec.ofInt 64 (B : Int)).toNat = B := by simp; omega
    rw [BitVec.toNat_xor, e1, e2, IntKind.wrap_i64]
    omega
  simp [OpV, execOp, hx, hy, eqGuard, binOp, Op.intBits]
  exact key
theorem opv_conv_int {s t : TypeId} {x : Operand} {k : IntKind} {a : Int} {T : TypeDesc} (hs : P.underlying s = some T) (ht : P.underlying t = some (.int .i64)) (hx : evalE ρ x = .int k a) (h : -9223372036854775808 ≤ a ∧ a ≤ 9223372036854775807) :
    OpV P (.convert s t x) ty ρ w (.int .i64 a) := by
  have e : IntKind.i64.wrap a = a := by rw [IntKind.wrap_i64]; omega
  have : (convert s t (.int k a)).run P w = .ok (.int .i64 a) w := by simp [convert, run_und hs, run_und ht, Conv.intToInt, e]
  simp [OpV, execOp, hx, this]
end

section
variable {P : Program} {ρ : Env} {w : World} {ty ts el : TypeId} {x : Operand} {len cap b o : Nat}
/-- xs[:h] of a slice that has a place. -/
theorem opv_slice_sl_hi {hi : Operand} {h : Int} (ht : P.underlying ts = some (.slice el)) (hs : ∀ w, (sizeOf el).run P w = .ok 1 w) (hx : evalE ρ x = .slice (some ⟨b, o, none⟩) len cap) (hh : evalE ρ hi = .int .i64 h)
    (hb : 0 ≤ h ∧ h ≤ (cap : Int)) : OpV P (.slice ts x none (some hi) none) ty ρ w (.slice (some ⟨b, o, none⟩) h.toNat cap) := by
  obtain ⟨H, rfl⟩ := Int.eq_ofNat_of_zero_le hb.1
  have h1 : H ≤ cap := by omega
  have e : (⟨b, o, none⟩ : Addr).add 0 = ⟨b, o, none⟩ := by simp [Addr.add]
  simp [OpV, execOp, hx, hh, Instr.sliceAt, Instr.slice, run_und ht, Instr.sliceBounds, Instr.sliceBound, asIntOf, h1, hs, e]
/-- xs[l:] of a slice that has a place. -/
theorem opv_slice_sl_lo {lo : Operand} {l : Int} (ht : P.underlying ts = some (.slice el)) (hs : ∀ w, (sizeOf el).run P w = .ok 1 w) (hx : evalE ρ x = .slice (some ⟨b, o, none⟩) len cap) (hl : evalE ρ lo = .int .i64 l)
    (hb : 0 ≤ l ∧ l ≤ (len : Int) ∧ l < (cap : Int)) : OpV P (.slice ts x (some lo) none none) ty ρ w (.slice (some ⟨b, o + l.toNat, none⟩) (len - l.toNat) (cap - l.toNat)) := by
  obtain ⟨L, rfl⟩ := Int.eq_ofNat_of_zero_le hb.1
  have h1 : L ≤ len := by omega
  have h2 : ¬ cap = L := by omega
  have e : (⟨b, o, none⟩ : Addr).add L = ⟨b, o + L, none⟩ := by
    unfold Addr.add; split
    · simp_all
    · rfl
  simp [OpV, execOp, hx, hl, Instr.sliceAt, Instr.slice, run_und ht, Instr.sliceBounds, Instr.sliceBound, asIntOf, h1, hs, e, h2]
end
/-- A slice whose length is within its room. -/
def CapOk (v : Value) : Prop := ∃ a l c, v = .slice a l c ∧ l ≤ c
section
open Go.ChangeShapes Go.WideShapes Go.ChangeAt Go.RowKit Go.Deep
theorem read_cap {P : Program} {t e : TypeId} {H : Type} {enc : TypeId × Value → H} {w : World} {r : Reach} {b0 base : Nat} {sp : Nat → Bool} {held : Bool} {v : Value} {d : DataW H} {ps : List MemPlace}
    (ht : P.underlying t = some (.slice e)) (hval : Value.okWide P w r b0 t v) (hd : DataW.Trod enc P w base sp held t v d ps) : CapOk v := by
  obtain ⟨a, len, cap, rfl⟩ := okWide_slice ht hval
  obtain ⟨fuel, hf⟩ := hd
  refine ⟨a, len, cap, rfl, ?_⟩
  rcases open_slice ht hf with ⟨h1, _⟩ | ⟨a', len', cap', m, n, D, Pl, h1, hb, hl, hm, hmm, _, hx⟩
  · simp [Value.cells] at h1; omega
  · simp [Value.cells] at h1; omega
end
theorem ESl.take {α : Type} {E : World → Value → α → Prop} {w : World} {b o len cap cap' : Nat} {xs : List α} (h : ESl E w (.slice (some ⟨b, o, none⟩) len cap) xs) (k : Nat) (hk : k ≤ len) :
    ESl E w (.slice (some ⟨b, o, none⟩) k cap') (xs.take k) := by
  obtain ⟨a, c, e, hm, hc⟩ := h
  obtain ⟨rfl, rfl, rfl⟩ : some (⟨b, o, none⟩ : Addr) = a ∧ len = xs.length ∧ cap = c := by simpa using e
  refine ⟨_, _, by rw [List.length_take, Nat.min_eq_left hk], by simp; omega, ?_⟩
  rcases hc with rfl | ⟨b', o', e, hc⟩
  · left; simp
  · right
    cases e
    refine ⟨b, o, rfl, fun i hi => ?_⟩
    obtain ⟨u, h1, h2⟩ := hc i (by simp at hi; omega)
    exact ⟨u, h1, by simpa using h2⟩
/-- A table of short texts. -/
def Texts (m : Nat) : List Value → Prop
  | [] => True
  | v :: l => (∃ s : List UInt8, v = str s ∧ m ≤ s.length ∧ s.length ≤ 8) ∧ Texts m l
theorem Texts.at {m : Nat} : ∀ {cs : List Value} {i : Nat}, Texts m cs → i < cs.length → ∃ s : List UInt8, cs[i]? = some (str s) ∧ m ≤ s.length ∧ s.length ≤ 8
  | v :: l, 0, h, _ => by obtain ⟨⟨s, rfl, hs⟩, _⟩ := h; exact ⟨s, rfl, hs⟩
  | v :: l, i + 1, h, hi => by
    obtain ⟨s, h1, h2⟩ := Texts.at h.2 (by simpa using hi)
    exact ⟨s, by simpa using h1, h2⟩
section
variable {P : Program} {n : Nat} {N : Env → World → Prop} {ρ : Env} {w w0 : World} {all : Array Oper} {rest : List Oper}
  {d : Nat} {ty tl : TypeId} {pos : String} {after : Array Edge} {g : Option (Nat × Bool)} {x : Operand} {b i : Nat} {cs : List Value}
theorem Wo_tbl (m : Nat) (hta : ∀ w, (isAgg tl).run P w = .ok false w) (hw : wantedE all ⟨some d, .load tl x, ty, pos, after, g⟩ ρ = true) (hx : evalE ρ x = .pointer (some ⟨b, i, none⟩))
    (hB : Blk w b cs) (hT : Texts m cs) (hi : i < cs.length) (hk : ∀ s : List UInt8, m ≤ s.length ∧ s.length ≤ 8 → Wops P n all rest N (upd ρ d (str s)) w) :
    Wops P n all (⟨some d, .load tl x, ty, pos, after, g⟩ :: rest) N ρ w := by
  obtain ⟨s, h1, h2⟩ := hT.at hi
  exact Wo hw (opv_load hta hx (hB.cell h1)) (hk s h2)
end
section
variable {w w' w0 : World} {br b lo m m' : Nat} {cs : List Value}
/-- The draws' reader stands in block br: its bytes are older than w0, and it has been asked m times at the most. -/
def Rdr (w0 w : World) (br m : Nat) : Prop := Ext w0 w ∧ w0.heap.size ≤ br ∧ br < w.heap.size ∧ ∃ vb bs p, Bytes w0 vb bs ∧ bs.length ≤ 2000 ∧ Blk w br [vb, .int .i64 (p : Nat)] ∧ p ≤ m
theorem Rdr.le (h : Rdr w0 w br m) (hm : m ≤ m') : Rdr w0 w br m' := by
  obtain ⟨h1, h2, h3, vb, bs, p, h4, h5, h6, h7⟩ := h
  exact ⟨h1, h2, h3, vb, bs, p, h4, h5, h6, by omega⟩
theorem Rdr.lt (h : Rdr w0 w br m) : br < w.heap.size := h.2.2.1
theorem Rdr.ge (h : Rdr w0 w br m) : w0.heap.size ≤ br := h.2.1
theorem Rdr.old (h : Rdr w0 w br m) : Ext w0 w := h.1
theorem Rdr.ext (h : Rdr w0 w br m) (e : Ext w w') : Rdr w0 w' br m := by
  obtain ⟨h1, h2, h3, vb, bs, p, h4, h5, h6, h7⟩ := h
  exact ⟨h1.trans e, h2, Nat.lt_of_lt_of_le h3 e.size, vb, bs, p, h4, h5, h6.ext e, h7⟩
/-- a store elsewhere -/
theorem Rdr.wrote (h : Rdr w0 w br m) (e : Ext w0 w') (k : w'.heap[br]? = w.heap[br]?) (hs : w'.heap.size = w.heap.size) : Rdr w0 w' br m := by
  obtain ⟨h1, h2, h3, vb, bs, p, h4, h5, h6, h7⟩ := h
  exact ⟨e, h2, by rw [hs]; exact h3, vb, bs, p, h4, h5, h6.of_heap k, h7⟩
theorem Blk.grown {row : Option Nat} (h : Blk w b cs) (g : w.grownBy w' row) (hne : some b ≠ row) : Blk w' b cs := h.of_heap (g.block b h.lt hne)
theorem grownBy_refl (w : World) (row : Option Nat) : w.grownBy w row := ⟨rfl, rfl, rfl, Nat.le_refl _, fun _ _ _ => rfl⟩
theorem grownBy_trans {w1 w2 w3 : World} {row : Option Nat} (h : w1.grownBy w2 row) (k : w2.grownBy w3 row) : w1.grownBy w3 row :=
  ⟨k.os.trans h.os, k.tape.trans h.tape, k.output.trans h.output, Nat.le_trans h.size k.size, fun i hi hr => (k.block i (Nat.lt_of_lt_of_le hi h.size) hr).trans (h.block i hi hr)⟩
theorem Ext.grownBy (e : Ext w w') (row : Option Nat) : w.grownBy w' row := ⟨e.os, e.tape, e.output, e.size, fun i hi _ => e.block i hi⟩
theorem grownBy_ext {w1 : World} {row : Option Nat} (h : w1.grownBy w row) (e : Ext w w') : w1.grownBy w' row := grownBy_trans h (e.grownBy row)
theorem Keep.ofGrown (g : w.grownBy w' (some br)) (h : br < lo) : Keep lo w w' := fun k h1 h2 => g.block k h2 (by simp; omega)
theorem Above.grown {α : Type} {E : World → Value → α → Prop} {v : Value} {x : α} (h : Above lo E w v x) (g : w.grownBy w' (some br)) (hl : br < lo) : Above lo E w' v x := h.keep (Keep.ofGrown g hl) g.size
theorem grownBy_wrote {w1 : World} {row : Option Nat} (h : w1.grownBy w row) (e0 : Ext w0 w) (e : Ext w0 w') (K : ∀ k, k ≠ b → w'.heap[k]? = w.heap[k]?) (hz : w'.heap.size = w.heap.size) (hb : w1.heap.size ≤ b ∨ row = some b) : w1.grownBy w' row :=
  ⟨by rw [e.os, ← e0.os, h.os], by rw [e.tape, ← e0.tape, h.tape], by rw [e.output, ← e0.output, h.output], by rw [hz]; exact h.size, fun k hk hr => by
    have hkb : k ≠ b := by
      rintro rfl
      rcases hb with hb | hb
      · omega
      · exact hr hb.symm
    rw [K k hkb]; exact h.block k hk hr⟩
/-- What a draw leaves. -/
def RetD {β : Type} (w0 w : World) (br m : Nat) (val : β → Value) (p : β → World → Prop) : Value → World → Prop := fun v w' => ∃ y, v = val y ∧ w.grownBy w' (some br) ∧ Rdr w0 w' br m ∧ p y w'
end
section
variable {P : Program} {n : Nat} {N : Env → World → Prop} {ρ : Env} {w w0 : World} {all : Array Oper} {rest : List Oper} {M : Env → Prop}
  {d d2 : Nat} {ty ty2 t el tl : TypeId} {pos pos2 : String} {after after2 : Array Edge} {g g2 : Option (Nat × Bool)} {x y : Operand} {k : Nat} {xs : List UInt8}
theorem Wo_getB_z (ht : P.underlying t = some (.slice el)) (hs : ∀ w, (sizeOf el).run P w = .ok 1 w) (hta : ∀ w, (isAgg tl).run P w = .ok false w)
    (hw : wantedE all ⟨some d, .indexAddr t x y, ty, pos, after, g⟩ ρ = true)
    (hw2 : ∀ v, wantedE all ⟨some d2, .load tl (.tmp d), ty2, pos2, after2, g2⟩ (upd ρ d v) = true)
    {v : Value} (hx : evalE ρ x = v) (hR : Bytes w0 v xs) (hE : Ext w0 w) {z : Int} (hy : evalE ρ y = .int .i64 z) (hk : 0 ≤ z ∧ z.toNat < xs.length)
    (hk' : ∀ ad (u : Nat), u = xs[z.toNat].toNat → u < 256 → Wops P n all rest N (upd (upd ρ d (.pointer (some ad))) d2 (.int .u8 (u : Int))) w) :
    Wops P n all (⟨some d, .indexAddr t x y, ty, pos, after, g⟩ :: ⟨some d2, .load tl (.tmp d), ty2, pos2, after2, g2⟩ :: rest) N ρ w :=
  Wo_get_z ht hs hta hw hw2 hx hR hE hy hk (fun ad u hu => by obtain rfl := hu; exact hk' ad _ rfl (UInt8.toNat_lt _))
theorem Wq_getB_z (ht : P.underlying t = some (.slice el)) (hs : ∀ w, (sizeOf el).run P w = .ok 1 w) (hta : ∀ w, (isAgg tl).run P w = .ok false w)
    (hw : wantedE all ⟨some d, .indexAddr t x y, ty, pos, after, g⟩ ρ = true)
    (hw2 : ∀ v, wantedE all ⟨some d2, .load tl (.tmp d), ty2, pos2, after2, g2⟩ (upd ρ d v) = true)
    {v : Value} (hx : evalE ρ x = v) (hR : Bytes w0 v xs) (hE : Ext w0 w) {z : Int} (hy : evalE ρ y = .int .i64 z) (hk : 0 ≤ z ∧ z.toNat < xs.length)
    (hk' : ∀ ad (u : Nat), u = xs[z.toNat].toNat → u < 256 → Wq P n all w rest M (upd (upd ρ d (.pointer (some ad))) d2 (.int .u8 (u : Int)))) :
    Wq P n all w (⟨some d, .indexAddr t x y, ty, pos, after, g⟩ :: ⟨some d2, .load tl (.tmp d), ty2, pos2, after2, g2⟩ :: rest) M ρ :=
  Wq_get_z ht hs hta hw hw2 hx hR hE hy hk (fun ad u hu => by obtain rfl := hu; exact hk' ad _ rfl (UInt8.toNat_lt _))
end
attribute [irreducible] Wh
end Go.Hs
set_option linter.unusedVariables false
namespace Go
variable {H : Type} {enc : TypeId × Value → H}
theorem returnsInHanded_laid_shaped {a : Assume} {C : Checked} {os : Os} {f : FuncId} {fn : Func} {s : ChangeSpec} {conds : List PathCond} {apart fresh handsOn again : Bool} {X : World → Array Value → Prop}
    (hX : ∀ (w w' : World) (args : Array Value), w.heap = w'.heap → X w args → X w' args)
    (own : ownKnob C.prog.godebug = none) (started : os.Started) (noInit : C.prog.inits.idxOf? f = none) (hfn : C.prog.funcs[f]? = some fn)
    (witness : ∃ (w : World) (tape : Tape) (i : Input), w.os = os ∧ (w.forCall tape i).Shaped C.prog ∧ i.vars = [] ∧ Input.okWide C.prog (w.forCall tape i) .any w.heap.size f i ∧
      ((s.pre enc C.prog fn conds apart (w.forCall tape i).memory i.args ∧ X (w.forCall tape i).memory i.args) ∧ sizedMet enc C.prog fn (OpenSpec.ofChange s) apart (w.forCall tape i).memory i.args) ∧ a.holds C.prog (lone (Frame.enter C.prog f i.args .normal) [] (w.forCall tape i)))
    (contract : ∀ (W : World) (base : Nat) (args : Array Value) (ds gs : List (DataW H)) (before : List MemPlace),
      (∀ (j : Nat) t v, fn.params[j]? = some t → args[j]? = some v → Value.okWide C.prog W .any base t v) →
      DataW.Whole enc C.prog fn.params.toList s.vars apart W args.toList ds gs before → W.ShapedOpen C.prog →
      Calls C.prog f args W fun e W' => ∃ v, e = .returned v ∧ s.post enc C.prog fn apart fresh handsOn again W args v W') :
    ReturnsInHanded a C os f .any (fun w args => (s.pre enc C.prog fn conds apart w args ∧ X w args) ∧ sizedMet enc C.prog fn (OpenSpec.ofChange s) apart w args) (s.post enc C.prog fn apart fresh handsOn again) := by
  refine returnsInHanded_of_calls own started noInit witness ?_
  intro w tape i _ hsh _ hok hpre hholds
  obtain ⟨_, _, _, fn', hfn', _, _, _, _, hval⟩ := hok
  have e : fn' = fn := Option.some.inj (hfn'.symm.trans hfn)
  subst e
  obtain ⟨⟨⟨ds, gs, before, hw, hc⟩, hx⟩, hz⟩ := hpre
  have hw' := DataW.Whole.of_heap (w' := w.forCall tape i) (by rfl) hw
  refine (contract (w.forCall tape i) w.heap.size i.args ds gs before hval hw' hsh).mono fun e W' ⟨v, he, hp⟩ => ?_
  subst he
  exact ChangeSpec.post_blind hp
end Go
set_option linter.unusedVariables false
namespace Go.Hs
open Go.RowKit (Below)

/-- Nothing that was there has turned, but for these blocks. -/
structure Only (fp : List Nat) (w w' : World) : Prop where
  os : w'.os = w.os
  tape : w'.tape = w.tape
  output : w'.output = w.output
  size : w.heap.size ≤ w'.heap.size
  block : ∀ k, k ∉ fp → k < w.heap.size → w'.heap[k]? = w.heap[k]?

section
variable {w w' w'' w0 : World} {fp fq : List Nat} {lo : Nat}
theorem Only.refl : Only fp w w := ⟨rfl, rfl, rfl, Nat.le_refl _, fun _ _ _ => rfl⟩
theorem Only.trans (h : Only fp w w') (k : Only fp w' w'') : Only fp w w'' :=
  ⟨k.os.trans h.os, k.tape.trans h.tape, k.output.trans h.output, Nat.le_trans h.size k.size, fun i h1 h2 => (k.block i h1 (Nat.lt_of_lt_of_le h2 h.size)).trans (h.block i h1 h2)⟩
theorem Only.mono (h : Only fp w w') (hs : ∀ k ∈ fp, k ∈ fq) : Only fq w w' := ⟨h.os, h.tape, h.output, h.size, fun k h1 h2 => h.block k (fun hk => h1 (hs k hk)) h2⟩
theorem Ext.only (h : Ext w w') : Only fp w w' := ⟨h.os, h.tape, h.output, h.size, fun k _ h2 => h.block k h2⟩
theorem Only.ext (h : Only fp w w') (e : Ext w0 w) (hf : ∀ k ∈ fp, w0.heap.size ≤ k) : Ext w0 w' :=
  ⟨h.os.trans e.os, h.tape.trans e.tape, h.output.trans e.output, Nat.le_trans e.size h.size, fun k hk => (h.block k (fun hm => by have := hf k hm; omega) (Nat.lt_of_lt_of_le hk e.size)).trans (e.block k hk)⟩
theorem Only.keep (h : Only fp w w') (hf : ∀ k ∈ fp, k < lo) : Keep lo w w' := fun k h1 h2 => h.block k (fun hm => by have := hf k hm; omega) h2
theorem Only.grownBy {ob : Option Nat} (h : w.grownBy w' ob) (hf : ∀ k, ob = some k → k ∈ fp) : Only fp w w' :=
  ⟨h.os, h.tape, h.output, h.size, fun k h1 h2 => h.block k h2 (fun e => h1 (hf k e.symm))⟩
theorem Only.setCell {b : Nat} {i : Nat} {v : Value} (hb : b ∈ fp) : Only fp w (w.setCell ⟨b, i, none⟩ v) :=
  ⟨rfl, rfl, rfl, by rw [size_setCell]; exact Nat.le_refl _, fun k h1 _ => heap_setCell_other v (fun e => h1 (by simp only at e; rw [e]; exact hb))⟩
end

theorem add_mk (b o j : Nat) : (⟨b, o, none⟩ : Addr).add j = ⟨b, o + j, none⟩ := by
  unfold Addr.add; split
  · simp_all
  · rfl
/-- A reading with the blocks that it has for itself. -/
class Loc {α : Type} (X : World → List Nat → Value → α → Prop) : Prop where
  loc : ∀ {w w' : World} {fp : List Nat} {v : Value} {x : α}, (∀ k ∈ fp, w'.heap[k]? = w.heap[k]?) → X w fp v x → X w' fp v x
  lt : ∀ {w : World} {fp : List Nat} {v : Value} {x : α}, X w fp v x → ∀ k ∈ fp, k < w.heap.size
  cell : ∀ {w : World} {fp : List Nat} {v : Value} {x : α}, X w fp v x → isCell v = true

class Shows {α : Type} (X : World → List Nat → Value → α → Prop) (E : outParam (World → Value → α → Prop)) : Prop where
  shows : ∀ {w : World} {fp : List Nat} {v : Value} {x : α}, X w fp v x → E w v x

def XInt : World → List Nat → Value → Int → Prop := fun _ fp v x => fp = [] ∧ v = .int .i64 x
def XBool : World → List Nat → Value → Bool → Prop := fun _ fp v x => fp = [] ∧ v = .bool x
def XStr : World → List Nat → Value → List UInt8 → Prop := fun _ fp v x => fp = [] ∧ v = .string ⟨x.toArray⟩ ∧ x.length ≤ 9223372036854775807
instance : Loc XInt := ⟨fun _ h => h, (fun h k hk => by rw [h.1] at hk; cases hk), fun h => by rw [h.2]; rfl⟩
instance : Loc XBool := ⟨fun _ h => h, (fun h k hk => by rw [h.1] at hk; cases hk), fun h => by rw [h.2]; rfl⟩
instance : Loc XStr := ⟨fun _ h => h, (fun h k hk => by rw [h.1] at hk; cases hk), fun h => by rw [h.2.1]; rfl⟩
instance : Shows XInt EInt := ⟨fun h => h.2⟩
instance : Shows XBool EBool := ⟨fun h => h.2⟩
instance : Shows XStr EStr := ⟨fun h => h.2⟩

def XAll {α : Type} (X : World → List Nat → Value → α → Prop) (w : World) : List (List Nat) → List Value → List α → Prop
  | [], [], [] => True
  | f :: fs, c :: cs, x :: xs => X w f c x ∧ XAll X w fs cs xs
  | _, _, _ => False

section
variable {α : Type} {X : World → List Nat → Value → α → Prop} {w w' : World} {fs fs' : List (List Nat)} {cs cs' : List Value} {xs xs' : List α}
theorem XAll.len : ∀ {fs : List (List Nat)} {cs : List Value} {xs : List α}, XAll X w fs cs xs → fs.length = xs.length ∧ cs.length = xs.length
  | [], [], [], _ => ⟨rfl, rfl⟩
  | f :: fs, c :: cs, x :: xs, h => by have := XAll.len h.2; simp; omega
  | [], _ :: _, _, h => h.elim
  | [], [], _ :: _, h => h.elim
  | _ :: _, [], _, h => h.elim
  | _ :: _, _ :: _, [], h => h.elim
theorem XAll.append : ∀ {fs : List (List Nat)} {cs : List Value} {xs : List α}, XAll X w fs cs xs → XAll X w fs' cs' xs' → XAll X w (fs ++ fs') (cs ++ cs') (xs ++ xs')
  | [], [], [], _, k => k
  | f :: fs, c :: cs, x :: xs, h, k => ⟨h.1, XAll.append h.2 k⟩
  | [], _ :: _, _, h, _ => h.elim
  | [], [], _ :: _, h, _ => h.elim
  | _ :: _, [], _, h, _ => h.elim
  | _ :: _, _ :: _, [], h, _ => h.elim
theorem XAll.at : ∀ {fs : List (List Nat)} {cs : List Value} {xs : List α} {i : Nat}, XAll X w fs cs xs → (hi : i < xs.length) → ∃ f c, fs[i]? = some f ∧ cs[i]? = some c ∧ X w f c xs[i]
  | f :: fs, c :: cs, x :: xs, 0, h, _ => ⟨f, c, rfl, rfl, h.1⟩
  | f :: fs, c :: cs, x :: xs, i + 1, h, hi => by
    obtain ⟨f', c', h1, h2, h3⟩ := XAll.at h.2 (i := i) (by simpa using hi)
    exact ⟨f', c', by simpa using h1, by simpa using h2, by simpa using h3⟩
  | [], [], [], _, _, hi => by simp at hi
  | [], _ :: _, _, _, h, _ => h.elim
  | [], [], _ :: _, _, h, _ => h.elim
  | _ :: _, [], _, _, h, _ => h.elim
  | _ :: _, _ :: _, [], _, h, _ => h.elim
theorem XAll.loc [Loc X] : ∀ {fs : List (List Nat)} {cs : List Value} {xs : List α}, (∀ k ∈ fs.flatten, w'.heap[k]? = w.heap[k]?) → XAll X w fs cs xs → XAll X w' fs cs xs
  | [], [], [], _, _ => trivial
  | f :: fs, c :: cs, x :: xs, hk, h => ⟨Loc.loc (fun k hm => hk k (by simp [hm])) h.1, XAll.loc (fun k hm => hk k (by simp only [List.flatten_cons, List.mem_append]; exact .inr hm)) h.2⟩
  | [], _ :: _, _, _, h => h.elim
  | [], [], _ :: _, _, h => h.elim
  | _ :: _, [], _, _, h => h.elim
  | _ :: _, _ :: _, [], _, h => h.elim
theorem XAll.lt [Loc X] : ∀ {fs : List (List Nat)} {cs : List Value} {xs : List α}, XAll X w fs cs xs → ∀ k ∈ fs.flatten, k < w.heap.size
  | [], [], [], _, k, hk => by cases hk
  | f :: fs, c :: cs, x :: xs, h, k, hk => by
    simp only [List.flatten_cons, List.mem_append] at hk
    rcases hk with hk | hk
    · exact Loc.lt h.1 k hk
    · exact XAll.lt h.2 k hk
  | [], _ :: _, _, h, _, _ => h.elim
  | [], [], _ :: _, h, _, _ => h.elim
  | _ :: _, [], _, h, _, _ => h.elim
  | _ :: _, _ :: _, [], h, _, _ => h.elim
theorem XAll.cells [Loc X] : ∀ {fs : List (List Nat)} {cs : List Value} {xs : List α}, XAll X w fs cs xs → ∀ u ∈ cs, isCell u = true
  | [], [], [], _, u, hu => by cases hu
  | f :: fs, c :: cs, x :: xs, h, u, hu => by
    rcases List.mem_cons.1 hu with rfl | hu
    · exact Loc.cell h.1
    · exact XAll.cells h.2 u hu
  | [], _ :: _, _, h, _, _ => h.elim
  | [], [], _ :: _, h, _, _ => h.elim
  | _ :: _, [], _, h, _, _ => h.elim
  | _ :: _, _ :: _, [], h, _, _ => h.elim
/-- Element i turned, all others as they were. -/
theorem XAll.turned [Loc X] : ∀ {fs : List (List Nat)} {cs : List Value} {xs : List α} {i : Nat} {f : List Nat} {u : Value} {x : α}, XAll X w fs cs xs → i < xs.length → X w' f u x →
    (∀ (j : Nat) g, j ≠ i → fs[j]? = some g → ∀ k ∈ g, w'.heap[k]? = w.heap[k]?) → XAll X w' (fs.set i f) (cs.set i u) (xs.set i x)
  | g :: fs, c :: cs, x :: xs, 0, f, u, y, h, _, hx, hk => by
    refine ⟨hx, XAll.loc (fun k hm => ?_) h.2⟩
    obtain ⟨g', hg, hm⟩ := List.mem_flatten.1 hm
    obtain ⟨j, hj, rfl⟩ := List.mem_iff_getElem.1 hg
    exact hk (j + 1) _ (by omega) (by simp [hj]) k hm
  | g :: fs, c :: cs, x :: xs, i + 1, f, u, y, h, hi, hx, hk =>
    ⟨Loc.loc (hk 0 g (by omega) rfl) h.1, XAll.turned h.2 (by simpa using hi) hx (fun j g' hj hg => hk (j + 1) g' (by omega) (by simpa using hg))⟩
  | [], [], [], _, _, _, _, _, hi, _, _ => by simp at hi
  | [], _ :: _, _, _, _, _, _, h, _, _, _ => h.elim
  | [], [], _ :: _, _, _, _, _, h, _, _, _ => h.elim
  | _ :: _, [], _, _, _, _, _, h, _, _, _ => h.elim
  | _ :: _, _ :: _, [], _, _, _, _, h, _, _, _ => h.elim
end

def XSl {α : Type} (e : TypeId) (X : World → List Nat → Value → α → Prop) (w : World) (fp : List Nat) (v : Value) (xs : List α) : Prop :=
  ∃ cs fps, w.ownsRow 0 e 1 v xs.length cs ∧ fp = v.ownBlock.toList ++ fps.flatten ∧ XAll X w fps cs xs

section
variable {α : Type} {X : World → List Nat → Value → α → Prop} {w w' : World} {fp : List Nat} {v : Value} {xs : List α} {e : TypeId}
theorem ownsRow_loc {n : Nat} {cs : List Value} (hk : ∀ k, v.ownBlock = some k → w'.heap[k]? = w.heap[k]?) (h : w.ownsRow 0 e 1 v n cs) : w'.ownsRow 0 e 1 v n cs := by
  refine ⟨h.1, ?_⟩
  rcases h.2 with hn | ⟨g, cap, cur, rfl, hb, hg, rest⟩
  · exact .inl hn
  · exact .inr ⟨g, cap, cur, rfl, hb, by rw [hk g rfl]; exact hg, rest⟩
instance loc_XSl [Loc X] : Loc (XSl e X) := ⟨by
    rintro w w' fp v xs hk ⟨cs, fps, h1, rfl, h3⟩
    exact ⟨cs, fps, ownsRow_loc (fun k e => hk k (by simp [e])) h1, rfl, h3.loc (fun k hm => hk k (by simp only [List.mem_append]; exact .inr hm))⟩, by
    rintro w fp v xs ⟨cs, fps, h1, rfl, h3⟩ k hk
    rcases List.mem_append.1 hk with hk | hk
    · exact (h1.lt k (by simpa using hk)).2
    · exact h3.lt k hk, by
    rintro w fp v xs ⟨cs, fps, h1, rfl, h3⟩
    rcases h1.2 with ⟨rfl, _⟩ | ⟨g, cap, cur, rfl, _⟩ <;> rfl⟩
instance shows_XSl {E : World → Value → α → Prop} [Shows X E] : Shows (XSl e X) (ESl E) := ⟨by
    rintro w fp v xs ⟨cs, fps, h1, rfl, h3⟩
    have hl := h3.len
    rcases h1.2 with ⟨rfl, h0⟩ | ⟨g, cap, cur, rfl, hb, hg, hnc, hcm, hcs, ht⟩
    · have : xs = [] := List.eq_nil_of_length_eq_zero h0
      subst this
      exact ⟨none, 0, rfl, RSl.nil⟩
    · refine ⟨_, _, rfl, by unfold maxLen at hcm; omega, .inr ⟨g, 0, rfl, fun i hi => ?_⟩⟩
      obtain ⟨f, c, h4, h5, h6⟩ := h3.at hi
      refine ⟨c, ?_, Shows.shows h6⟩
      have := h1.cells (g := g) rfl i c h5
      rw [add_mk] at this
      exact this⟩
end

/-- Data that has its blocks for itself, all from lo on. -/
def Owned {α : Type} (lo : Nat) (X : World → List Nat → Value → α → Prop) (w : World) (v : Value) (x : α) : Prop :=
  ∃ fp : List Nat, fp.Nodup ∧ (∀ k ∈ fp, lo ≤ k) ∧ X w fp v x

/-- .. all from lo on, ahead of hi. -/
def OwnedB {α : Type} (lo hi : Nat) (X : World → List Nat → Value → α → Prop) (w : World) (v : Value) (x : α) : Prop :=
  ∃ fp : List Nat, fp.Nodup ∧ (∀ k ∈ fp, lo ≤ k ∧ k < hi) ∧ X w fp v x

/-- What a call leaves that hands back data of its own. -/
def RetO {α : Type} (w : World) (X : World → List Nat → Value → α → Prop) (x : α) : Value → World → Prop := fun v w' => Ext w w' ∧ Owned w.heap.size X w' v x

section
variable {α : Type} {X : World → List Nat → Value → α → Prop} {E : World → Value → α → Prop} {w w' w0 wb : World} {fp : List Nat} {v u : Value} {x y : α} {xs ys : List α} {e : TypeId} {lo lo' : Nat}
theorem Owned.keep [Loc X] (h : Owned lo X w v x) (k : Keep lo w w') : Owned lo X w' v x := by
  obtain ⟨fp, h1, h2, h3⟩ := h
  exact ⟨fp, h1, h2, Loc.loc (fun i hi => k i (h2 i hi) (Loc.lt h3 i hi)) h3⟩
theorem Owned.ext [Loc X] (h : Owned lo X w v x) (k : Ext w w') : Owned lo X w' v x := h.keep k.keep
theorem Owned.mono (h : Owned lo X w v x) (hl : lo' ≤ lo) : Owned lo' X w v x := by
  obtain ⟨fp, h1, h2, h3⟩ := h
  exact ⟨fp, h1, fun k hk => Nat.le_trans hl (h2 k hk), h3⟩
theorem Owned.above [Loc X] [Shows X E] (h : Owned lo X w v x) : Above lo E w v x := fun w1 k _ => by
  obtain ⟨fp, h1, h2, h3⟩ := h.keep k
  exact Shows.shows h3
theorem Owned.read [Loc X] [Shows X E] (h : Owned lo X w v x) : E w v x := h.above.here
theorem Owned.toB [Loc X] (h : Owned lo X w v x) : OwnedB lo w.heap.size X w v x := by
  obtain ⟨fp, h1, h2, h3⟩ := h
  exact ⟨fp, h1, fun k hk => ⟨h2 k hk, Loc.lt h3 k hk⟩, h3⟩
theorem OwnedB.o {hi : Nat} (h : OwnedB lo hi X w v x) : Owned lo X w v x := by
  obtain ⟨fp, h1, h2, h3⟩ := h
  exact ⟨fp, h1, fun k hk => (h2 k hk).1, h3⟩
theorem OwnedB.ext [Loc X] {hi : Nat} (h : OwnedB lo hi X w v x) (e : Ext w w') : OwnedB lo hi X w' v x := by
  obtain ⟨fp, h1, h2, h3⟩ := h
  exact ⟨fp, h1, h2, Loc.loc (fun k hk => e.block k (Loc.lt h3 k hk)) h3⟩
theorem OwnedB.wrote [Loc X] {hi b : Nat} (h : OwnedB lo hi X w v x) (K : ∀ k, k ≠ b → w'.heap[k]? = w.heap[k]?) (hb : b < lo ∨ hi ≤ b) : OwnedB lo hi X w' v x := by
  obtain ⟨fp, h1, h2, h3⟩ := h
  exact ⟨fp, h1, h2, Loc.loc (fun k hk => K k (by have := h2 k hk; omega)) h3⟩
theorem OwnedB.read [Loc X] [Shows X E] {hi : Nat} (h : OwnedB lo hi X w v x) : E w v x := h.o.read
theorem OwnedB.above [Loc X] [Shows X E] {hi : Nat} (h : OwnedB lo hi X w v x) : Above lo E w v x := h.o.above
instance mono_OwnedB [Loc X] {hi : Nat} : Mono (OwnedB lo hi X) := ⟨fun e h => h.ext e⟩
instance mono_Owned [Loc X] : Mono (Owned lo X) := ⟨fun e h => h.ext e⟩
theorem Owned.nil : Owned lo (XSl e X) w (.slice none 0 0) [] := ⟨[], List.nodup_nil, (fun _ h => by cases h), [], [], World.ownsRow_nil w 0 e 1, rfl, trivial⟩
theorem XAll.rep {z : Value} {x : α} (n : Nat) (hx : X w [] z x) : XAll X w (List.replicate n []) (List.replicate n z) (List.replicate n x) := by
  induction n with
  | zero => trivial
  | succ n ih => exact ⟨hx, ih⟩
theorem ownsRow_block {b : Nat} {cs : List Value} (hb : w.heap[b]? = some (.cells cs.toArray e (0, 0))) (hm : cs.length ≤ maxLen) :
    w.ownsRow 0 e 1 (.slice (some ⟨b, 0, none⟩) cs.length cs.length) cs.length cs :=
  ⟨by simp, .inr ⟨b, cs.length, cs.toArray, rfl, Nat.zero_le _, hb, Nat.le_refl _, hm, by simp, by simp⟩⟩
/-- A block all of whose cells hold elements without blocks of their own. -/
theorem Owned.block {b n : Nat} {cs : List Value} (hb : w.heap[b]? = some (.cells cs.toArray e (0, 0))) (hl : lo ≤ b) (hn : cs.length = n) (hm : n ≤ maxLen) (hx : XAll X w (List.replicate n []) cs xs) :
    Owned lo (XSl e X) w (.slice (some ⟨b, 0, none⟩) n n) xs := by
  subst hn
  have hlen := hx.len
  refine ⟨[b], List.nodup_cons.2 ⟨by simp, List.nodup_nil⟩, fun k hk => by simp at hk; omega, cs, List.replicate cs.length [], ?_, ?_, hx⟩
  · rw [← hlen.2]; exact ownsRow_block hb hm
  · have : (List.replicate cs.length ([] : List Nat)).flatten = [] := by
      generalize cs.length = n
      induction n with
      | zero => rfl
      | succ n ih => rw [List.replicate_succ, List.flatten_cons, ih]; rfl
    rw [this]; rfl
theorem Owned.made {b n : Nat} {z : Value} (hb : w.heap[b]? = some (.cells (List.replicate n z).toArray e (0, 0))) (hl : lo ≤ b) (hm : n ≤ maxLen) (hx : X w [] z x) :
    Owned lo (XSl e X) w (.slice (some ⟨b, 0, none⟩) n n) (List.replicate n x) := by
  exact Owned.block hb hl (by simp) hm (XAll.rep n hx)
end

section
variable {P : Program} {w : World} {lo : Nat} {t ty e : TypeId} {i : TypeInfo} {z : Value} {v : Value} {n : Nat} {cs : List Value}
theorem oneCell_of {u : Value} (h : isCell u = true) : u.oneCell' = true := by cases u <;> first | rfl | cases h
theorem run_app (ht : P.underlying t = some (.slice e)) (hi : P.info? e = some i) (hz : i.zero = some z) (hs : i.size = 1) (hby : i.bytes ≤ 64) (hz1 : isCell z = true)
    (hown : w.ownsRow lo e 1 v n cs) (a : Addr) (m c : Nat) (news : List Value) (hl : news.length = m) (hnews : ∀ j u, news[j]? = some u → w.cell? (a.add j) = some u) (h1 : ∀ u ∈ news, isCell u = true)
    (hbig : n + m ≤ 1099511627776) (hlo : lo ≤ w.heap.size) :
    ∃ v' w', (Builtin.append_ #[t, t] ty #[v, .slice (some a) m c]).run P w = .ok v' w' ∧ w'.ownsRow lo e 1 v' (n + m) (cs ++ news) ∧ w.grownBy w' v.ownBlock ∧
      (v'.ownBlock = v.ownBlock ∨ ∃ g, v'.ownBlock = some g ∧ w.heap.size ≤ g) := by
  have h1' : ∀ u ∈ news, u.oneCell' = true := fun u hu => oneCell_of (h1 u hu)
  have hzs : z.cells.size = 1 := by rw [isCell_cells hz1]; rfl
  have hmul : (n + m) * i.bytes ≤ 140737488355328 := by
    have := Nat.mul_le_mul hbig hby
    omega
  obtain ⟨v', w', hr, h2, h3, h4⟩ := run_append_own (P := P) w lo t ty e i z 1 i.bytes ht hi hz hs rfl hzs (by omega) v n cs hown a m c news (by omega) hnews h1' (by unfold maxLen; omega) hmul hlo
  refine ⟨v', w', hr, h2, h3, ?_⟩
  have hl' : news.length = m * i.size := by rw [hs]; omega
  rcases hown.2 with ⟨rfl, rfl⟩ | ⟨g, cap, cur, rfl, hbg, hg, hnc, hcm, hcs, htake⟩
  · by_cases hm : m = 0
    · left; rw [h4.2 ⟨rfl, hm⟩]
    · have hr2 := run_append_nil (P := P) w t ty e i z ht hi hz a m c news hl' hnews (by omega) (by omega) (by simp only [Nat.zero_add] at hmul; omega)
      rw [hr] at hr2
      injection hr2 with e1 e2
      right; exact ⟨w.heap.size, by rw [e1]; rfl, Nat.le_refl _⟩
  · by_cases hroom : n + m ≤ cap
    · obtain ⟨w2, hr2, _⟩ := run_append_fits (P := P) w lo t ty e i 1 ht hi hs g n cap cs hown a m c news (by omega) hnews h1' hroom
      rw [hr] at hr2
      injection hr2 with e1 e2
      left; rw [e1]; rfl
    · have holds : ∀ j u, cs[j]? = some u → w.cell? ((⟨g, 0, none⟩ : Addr).add j) = some u := hown.cells (g := g) rfl
      have hlc : cs.length = n * i.size := by rw [hs]; exact hown.1
      have hr2 := run_append_grow (P := P) w t ty e i z ht hi hz ⟨g, 0, none⟩ n cap cs hlc holds a m c news hl' hnews (by omega) (by omega) (growslice_fits (by omega) hmul)
      rw [hr] at hr2
      injection hr2 with e1 e2
      right; exact ⟨w.heap.size, by rw [e1]; rfl, Nat.le_refl _⟩
end

section
variable {α : Type} {X : World → List Nat → Value → α → Prop} {w wb : World} {v : Value} {xs ys : List α} {e t ty : TypeId} {lo : Nat} {P : Program} {i : TypeInfo} {z : Value}
/-- New elements, each with blocks of its own, put behind. -/
theorem Owned.app [Loc X] (ht : P.underlying t = some (.slice e)) (hi : P.info? e = some i) (hz : i.zero = some z) (hs : i.size = 1) (hby : i.bytes ≤ 64) (hz1 : isCell z = true)
    {hi' : Nat} (h : OwnedB lo hi' (XSl e X) w v xs) (a : Addr) (m c : Nat) (news : List Value) (fu : List (List Nat)) (hl : news.length = m) (hnews : ∀ j u, news[j]? = some u → w.cell? (a.add j) = some u)
    (hx : XAll X w fu news ys) (hnd : fu.flatten.Nodup) (hlf : ∀ k ∈ fu.flatten, hi' ≤ k)
    (hbig : xs.length + m ≤ 1099511627776) (hlo : lo ≤ hi') (hlw : lo ≤ w.heap.size) :
    ∃ v' w', (Builtin.append_ #[t, t] ty #[v, .slice (some a) m c]).run P w = .ok v' w' ∧ Owned lo (XSl e X) w' v' (xs ++ ys) ∧ w.grownBy w' v.ownBlock ∧
      (v'.ownBlock = v.ownBlock ∨ ∃ g, v'.ownBlock = some g ∧ w.heap.size ≤ g) := by
  obtain ⟨fp, hn, hB, hX⟩ := h
  have hge : ∀ k ∈ fp, lo ≤ k := fun k hk => (hB k hk).1
  have hX' := hX
  have hdis' : ∀ k ∈ fu.flatten, k ∉ fp := fun k hk hm => by have := hlf k hk; have := (hB k hm).2; omega
  obtain ⟨cs, fps, hr, rfl, hA⟩ := hX
  have hys := hx.len
  obtain ⟨v', w', h1, h2, h3, h4⟩ := run_app (P := P) (ty := ty) ht hi hz hs hby hz1 hr a m c news hl hnews hx.cells (by omega) (Nat.zero_le _)
  refine ⟨v', w', h1, ?_, h3, h4⟩
  have hlt := Loc.lt hX'
  have hltu := hx.lt
  have nin : ∀ k ∈ fps.flatten, some k ≠ v.ownBlock := by
    intro k hk e
    have h5 := (List.nodup_append.1 hn).2.2
    exact h5 k (by rw [← e]; simp) k hk rfl
  have ninu : ∀ k ∈ fu.flatten, some k ≠ v.ownBlock := by
    intro k hk e
    exact hdis' k hk (by rw [← e]; simp)
  refine ⟨v'.ownBlock.toList ++ (fps ++ fu).flatten, ?_, ?_, cs ++ news, fps ++ fu, ?_, rfl, ?_⟩
  · rw [List.flatten_append]
    rw [List.nodup_append] at hn
    have base : (fps.flatten ++ fu.flatten).Nodup := List.nodup_append.2 ⟨hn.2.1, hnd, fun a ha b hb hab => hdis' b hb (by subst hab; exact List.mem_append_right _ ha)⟩
    rcases h4 with h4 | ⟨g, h4, hg⟩
    · rw [h4]
      refine List.nodup_append.2 ⟨hn.1, base, fun a ha b hb hab => ?_⟩
      subst hab
      rcases List.mem_append.1 hb with hb | hb
      · exact hn.2.2 a ha a hb rfl
      · exact hdis' a hb (List.mem_append_left _ ha)
    · rw [h4]
      refine List.nodup_append.2 ⟨by simp, base, fun a ha b hb hab => ?_⟩
      subst hab
      simp at ha
      subst ha
      rcases List.mem_append.1 hb with hb | hb
      · have := hlt a (List.mem_append_right _ hb); omega
      · have := hltu a hb; omega
  · intro k hk
    rw [List.flatten_append] at hk
    rcases List.mem_append.1 hk with hk | hk
    · rcases h4 with h4 | ⟨g, h4, hg⟩
      · rw [h4] at hk; exact hge k (List.mem_append_left _ hk)
      · rw [h4] at hk; simp at hk; omega
    · rcases List.mem_append.1 hk with hk | hk
      · exact hge k (List.mem_append_right _ hk)
      · have := hlf k hk; omega
  · have : (xs ++ ys).length = xs.length + m := by rw [List.length_append]; omega
    rw [this]; exact h2
  · refine XAll.append (hA.loc fun k hk => ?_) (hx.loc fun k hk => ?_)
    · exact h3.block k (hlt k (List.mem_append_right _ hk)) (nin k hk)
    · exact h3.block k (hltu k hk) (ninu k hk)
end

class Scal {α : Type} (X : World → List Nat → Value → α → Prop) (E : outParam (World → Value → α → Prop)) : Prop where
  give : ∀ {w : World} {v : Value} {x : α}, E w v x → X w [] v x
  turn : ∀ {w w' : World} {v : Value} {x : α}, E w v x → E w' v x
instance : Scal XInt EInt := ⟨fun h => ⟨rfl, h⟩, fun h => h⟩
instance : Scal XBool EBool := ⟨fun h => ⟨rfl, h⟩, fun h => h⟩
instance : Scal XStr EStr := ⟨fun h => ⟨rfl, h⟩, fun h => h⟩

section
variable {α : Type} {X : World → List Nat → Value → α → Prop} {E : World → Value → α → Prop} {w w' w0 wb : World} {v u xv : Value} {x y : α} {xs ys : List α} {e : TypeId} {lo lo' : Nat}
theorem Owned.scal [Scal X E] (h : E w v x) : Owned lo X w v x := ⟨[], List.nodup_nil, (fun _ h => by cases h), Scal.give h⟩
theorem Owned.int {n : Int} : Owned lo XInt w (.int .i64 n) n := Owned.scal (E := EInt) rfl
theorem Owned.bool {b : Bool} : Owned lo XBool w (.bool b) b := Owned.scal (E := EBool) rfl
theorem Owned.str {s : List UInt8} (h : s.length ≤ 9223372036854775807) : Owned lo XStr w (str s) s := Owned.scal (E := EStr) ⟨rfl, h⟩
theorem Owned.lt_own (h : Owned lo (XSl e X) w v xs) {k : Nat} (hk : v.ownBlock = some k) : lo ≤ k ∧ k < w.heap.size := by
  obtain ⟨fp, h1, h2, cs, fps, h3, rfl, h5⟩ := h
  exact ⟨h2 k (by simp [hk]), (h3.lt k hk).2⟩
/-- An own slice that is not empty has a place. -/
theorem Owned.lit (h : Owned lo (XSl e X) w v xs) (hp : 0 < xs.length) : ∃ b c, v = .slice (some ⟨b, 0, none⟩) xs.length c ∧ xs.length ≤ c := by
  obtain ⟨fp, h1, h2, cs, fps, h3, rfl, h5⟩ := h
  rcases h3.2 with ⟨rfl, h0⟩ | ⟨g, cap, cur, rfl, _, _, hc, _⟩
  · omega
  · exact ⟨g, cap, rfl, hc⟩

/-- It does not look at this slice's block. -/
def Besides {β : Type} (ob : Option Nat) (E : World → Value → β → Prop) (w : World) (v : Value) (x : β) : Prop :=
  ∀ w1, (∀ k, ob ≠ some k → k < w.heap.size → w1.heap[k]? = w.heap[k]?) → w.heap.size ≤ w1.heap.size → E w1 v x
/-- What an append leaves of the rest. -/
def Moves (w : World) (v : Value) (w' : World) (v' : Value) : Prop := w.grownBy w' v.ownBlock ∧ (v'.ownBlock = v.ownBlock ∨ ∃ g, v'.ownBlock = some g ∧ w.heap.size ≤ g)
section
variable {β : Type} {F : World → Value → β → Prop} {z : Value} {q : β} {v' : Value}
theorem Besides.here {ob : Option Nat} (h : Besides ob F w z q) : F w z q := h w (fun _ _ _ => rfl) (Nat.le_refl _)
theorem Besides.moves (h : Besides v.ownBlock F w z q) (m : Moves w v w' v') : Besides v'.ownBlock F w' z q := by
  intro w1 h1 h2
  have hs := m.1.size
  refine h w1 (fun k hk hlt => ?_) (by omega)
  have e1 : w'.heap[k]? = w.heap[k]? := m.1.block k hlt (fun e => hk e.symm)
  rw [← e1]
  refine h1 k (fun e => ?_) (by omega)
  rcases m.2 with h4 | ⟨g, h4, hg⟩
  · rw [h4] at e; exact hk e
  · rw [h4] at e; cases e; omega
theorem Besides.ext {ob : Option Nat} (h : Besides ob F w z q) (e : Ext w w') : Besides ob F w' z q := fun w1 h1 h2 => by
  have hs := e.size
  exact h w1 (fun k hk hlt => by rw [← e.block k hlt]; exact h1 k hk (by omega)) (by omega)
theorem OwnedB.moves {γ : Type} {Y : World → List Nat → Value → γ → Prop} [Loc Y] {zs : γ} {lt ht hi : Nat} {e' : TypeId} {u : Value} {α' : Type} {X' : World → List Nat → Value → α' → Prop} {xs' : List α'} (h : OwnedB lo hi Y w u zs) (m : Moves w v w' v')
    (k : OwnedB lt ht (XSl e' X') w v xs') (hd : ht ≤ lo ∨ hi ≤ lt) : OwnedB lo hi Y w' u zs := by
  obtain ⟨fp, h1, h2, h3⟩ := h
  refine ⟨fp, h1, h2, Loc.loc (fun i hi' => m.1.block i (Loc.lt h3 i hi') (fun e => ?_)) h3⟩
  obtain ⟨fq, k1, k2, cs, fps, k3, rfl, k4⟩ := k
  have := k2 i (by simp [← e])
  have := h2 i hi'
  omega
theorem Moves.ext {lt ht : Nat} {e' : TypeId} {α' : Type} {X' : World → List Nat → Value → α' → Prop} {xs' : List α'} (m : Moves w v w' v') (k : OwnedB lt ht (XSl e' X') w v xs') (h : Ext w0 w) (hl : w0.heap.size ≤ lt) : Ext w0 w' := by
  obtain ⟨fq, k1, k2, cs, fps, k3, rfl, k4⟩ := k
  exact ⟨m.1.os.trans h.os, m.1.tape.trans h.tape, m.1.output.trans h.output, Nat.le_trans h.size m.1.size, fun i hi => (m.1.block i (Nat.lt_of_lt_of_le hi h.size) (fun e => by have := k2 i (by simp [← e]); omega)).trans (h.block i hi)⟩
theorem Blk.moves {lt ht b : Nat} {cs : List Value} {e' : TypeId} {α' : Type} {X' : World → List Nat → Value → α' → Prop} {xs' : List α'} (h : Blk w b cs) (m : Moves w v w' v') (k : OwnedB lt ht (XSl e' X') w v xs') (hd : ht ≤ b ∨ b < lt) : Blk w' b cs := by
  refine h.of_heap (m.1.block b h.lt (fun e => ?_))
  obtain ⟨fq, k1, k2, cs, fps, k3, rfl, k4⟩ := k
  have := k2 b (by simp [← e])
  omega
theorem Besides.start (h : Owned lo (XSl e X) wb v xs) (hq : Above wb.heap.size F w z q) : Besides v.ownBlock F w z q := fun w1 h1 h2 =>
  hq w1 (fun k hk hlt => h1 k (fun e => by have := (h.lt_own e).2; omega) hlt) h2
end
end

section
variable {P : Program} {n : Nat} {N : Env → World → Prop} {ρ : Env} {w w0 wb : World} {all : Array Oper} {rest : List Oper}
  {d : Nat} {ty t e : TypeId} {pos : String} {after : Array Edge} {g : Option (Nat × Bool)} {s x y : Operand} {v u xv : Value} {b c lo : Nat} {i : TypeInfo} {z : Value}
  {α : Type} {X : World → List Nat → Value → α → Prop} {E : World → Value → α → Prop} {xs ys : List α} {q : α}
theorem Wo_run {v : Value} {w' : World} {op : Op} (hw : wantedE all ⟨some d, op, ty, pos, after, g⟩ ρ = true) (hv : (execOp (evalE ρ) ⟨none, op, ty, "", #[], none⟩).run P w = .ok (.value v) w') (hk : Wops P n all rest N (upd ρ d v) w') :
    Wops P n all (⟨some d, op, ty, pos, after, g⟩ :: rest) N ρ w := Wo_w hw (by unfold OpW; exact hv) hk
/-- What a program tells of an element's type: one cell, of few bytes. -/
structure El (P : Program) (t e : TypeId) (z : Value) : Prop where
  und : P.underlying t = some (.slice e)
  info : ∃ i, P.info? e = some i ∧ i.zero = some z ∧ i.size = 1 ∧ i.bytes ≤ 64
  zero : isCell z = true
theorem El.of (hu : P.underlying t = some (.slice e)) (h : (P.info? e).map (fun i => (i.zero, i.size, Nat.ble i.bytes 64)) = some (some z, 1, true)) (hz : isCell z = true) : El P t e z := by
  refine ⟨hu, ?_, hz⟩
  cases hi : P.info? e with
  | none => rw [hi] at h; cases h
  | some i =>
    rw [hi] at h
    simp only [Option.map_some, Option.some.injEq, Prod.mk.injEq] at h
    exact ⟨i, rfl, h.1, h.2.1, by simpa using h.2.2⟩
theorem Wo_app1 [Loc X] (hw : wantedE all ⟨some d, .call { callee := .builtin .append, args := #[s, x], argTypes := #[t, t] }, ty, pos, after, g⟩ ρ = true) (hel : El P t e z)
    (hv : evalE ρ s = v) (hx : evalE ρ x = .slice (some ⟨b, 0, none⟩) 1 c) (hB : Blk w b [u]) {hi lu : Nat} (h : OwnedB lo hi (XSl e X) w v xs) (hu : Owned lu X w u q) (hlu : hi ≤ lu)
    (hbig : xs.length + 1 ≤ 1099511627776) (hlo : lo ≤ hi) (hlw : lo ≤ w.heap.size) (h0 : Ext w0 w) (hl0 : w0.heap.size ≤ lo)
    (hk : ∀ v' w', Owned lo (XSl e X) w' v' (xs ++ [q]) → Ext w0 w' → Moves w v w' v' → Wops P n all rest N (upd ρ d v') w') :
    Wops P n all (⟨some d, .call { callee := .builtin .append, args := #[s, x], argTypes := #[t, t] }, ty, pos, after, g⟩ :: rest) N ρ w := by
  obtain ⟨i, hi, hz, hs, hby⟩ := hel.info
  obtain ⟨fu, hn, hge, hX⟩ := hu
  have hcell : w.cell? ⟨b, 0, none⟩ = some u := hB.cell rfl
  obtain ⟨v', w', h1, h2, h3, h4⟩ := Owned.app (P := P) (ty := ty) (ys := [q]) hel.und hi hz hs hby hel.zero h ⟨b, 0, none⟩ 1 c [u] [fu] rfl (fun j u' hj => by
    cases j with
    | zero => simp at hj; subst hj; simpa [Addr.add] using hcell
    | succ j => simp at hj) ⟨hX, trivial⟩ (by simpa using hn) (by simp only [List.flatten_cons, List.flatten_nil, List.append_nil]; intro k hk; exact Nat.le_trans hlu (hge k hk)) hbig hlo hlw
  refine Wo_run (v := v') (w' := w') hw ?_ (hk v' w' h2 ((Only.grownBy (fp := v.ownBlock.toList) h3 (fun k hk => by simp [hk])).ext h0 (fun k hk => ?_)) ⟨h3, h4⟩)
  · simp only [execOp, resolve, invoke, builtin, Sem.run_bind, Sem.run_pure, Result.andThen_ok, List.map_toArray, List.map_cons, List.map_nil, hv, hx, h1]
  · have : v.ownBlock = some k := by simpa using hk
    have := (h.o.lt_own this).1
    omega
/-- append(xs, ys...) -/
theorem Wo_appS [Loc X] [Scal X E] (hw : wantedE all ⟨some d, .call { callee := .builtin .append, args := #[s, x], argTypes := #[t, t] }, ty, pos, after, g⟩ ρ = true) (hel : El P t e z)
    (hv : evalE ρ s = v) (hx : evalE ρ x = xv) (hy : ESl E w xv ys) {hi : Nat} (h : OwnedB lo hi (XSl e X) w v xs)
    (hbig : xs.length + ys.length ≤ 1099511627776) (hlo : lo ≤ hi) (hlw : lo ≤ w.heap.size) (h0 : Ext w0 w) (hl0 : w0.heap.size ≤ lo)
    (hk : ∀ v' w', Owned lo (XSl e X) w' v' (xs ++ ys) → Ext w0 w' → Moves w v w' v' → Wops P n all rest N (upd ρ d v') w') :
    Wops P n all (⟨some d, .call { callee := .builtin .append, args := #[s, x], argTypes := #[t, t] }, ty, pos, after, g⟩ :: rest) N ρ w := by
  obtain ⟨i, hi, hz, hs, hby⟩ := hel.info
  obtain ⟨a, c, rfl, hm, hR⟩ := hy
  have hcells : ∃ ad : Addr, (a = some ad ∨ (a = none ∧ ys = [])) ∧ ∃ news : List Value, news.length = ys.length ∧ (∀ j u, news[j]? = some u → w.cell? (ad.add j) = some u) ∧ XAll X w (List.replicate ys.length []) news ys := by
    rcases hR with rfl | ⟨b, o, rfl, hc⟩
    · cases a with
      | none => exact ⟨⟨0, 0, none⟩, .inr ⟨rfl, rfl⟩, [], rfl, fun j u h => by simp at h, trivial⟩
      | some ad => exact ⟨ad, .inl rfl, [], rfl, fun j u h => by simp at h, trivial⟩
    · refine ⟨⟨b, o, none⟩, .inl rfl, ?_⟩
      clear hk hv hx hm hbig
      induction ys generalizing o with
      | nil => exact ⟨[], rfl, fun j u h => by simp at h, trivial⟩
      | cons y ys ih =>
        obtain ⟨u, hu, hE⟩ := hc 0 (by simp)
        obtain ⟨news, h1, h2, h3⟩ := ih (o := o + 1) (fun i hi => by
          obtain ⟨u, h5, h6⟩ := hc (i + 1) (by simpa using hi)
          exact ⟨u, by rw [← h5]; congr 2; omega, by simpa using h6⟩)
        have add := add_mk b
        refine ⟨u :: news, by simp [h1], fun j u' hj => ?_, ⟨Scal.give hE, h3⟩⟩
        cases j with
        | zero => simp at hj; subst hj; rw [add]; simpa using hu
        | succ j =>
          have := h2 j u' (by simpa using hj)
          rw [add] at this ⊢
          rw [← this]; congr 2; omega
  obtain ⟨ad, had, news, hnl, hnews, hXA⟩ := hcells
  have hflat : (List.replicate ys.length ([] : List Nat)).flatten = [] := by
    generalize ys.length = n
    induction n with
    | zero => rfl
    | succ n ih => rw [List.replicate_succ, List.flatten_cons, ih]; rfl
  rcases had with rfl | ⟨rfl, rfl⟩
  · obtain ⟨v', w', h1, h2, h3, h4⟩ := Owned.app (P := P) (ty := ty) (ys := ys) hel.und hi hz hs hby hel.zero h ad ys.length c news (List.replicate ys.length []) hnl hnews hXA (by rw [hflat]; exact List.nodup_nil) (by rw [hflat]; intro k hk; cases hk) hbig hlo hlw
    refine Wo_run (v := v') (w' := w') hw ?_ (hk v' w' h2 ((Only.grownBy (fp := v.ownBlock.toList) h3 (fun k hk => by simp [hk])).ext h0 (fun k hk => ?_)) ⟨h3, h4⟩)
    · simp only [execOp, resolve, invoke, builtin, Sem.run_bind, Sem.run_pure, Result.andThen_ok, List.map_toArray, List.map_cons, List.map_nil, hv, hx, h1]
    · have : v.ownBlock = some k := by simpa using hk
      have := (h.o.lt_own this).1
      omega
  · have h' := h.o
    have hrun : (Builtin.append_ #[t, t] ty #[v, .slice none 0 c]).run P w = .ok v w := by
      obtain ⟨fp, _, _, cs, fps, h3, _, _⟩ := h'
      rcases h3.2 with ⟨rfl, h0⟩ | ⟨g, cap, cur, rfl, _, _, hnc, _⟩
      · simp [Builtin.append_, run_underlying hel.und, sizeOf, typeInfo, hi, Builtin.lenOf, Builtin.firstCells]
      · simp [Builtin.append_, run_underlying hel.und, sizeOf, typeInfo, hi, Builtin.lenOf, Builtin.firstCells, hnc, storeCells]
    refine Wo_run (v := v) (w' := w) hw ?_ (hk v w (by simpa using h') h0 ⟨⟨rfl, rfl, rfl, Nat.le_refl _, fun _ _ _ => rfl⟩, .inl rfl⟩)
    simp only [execOp, resolve, invoke, builtin, Sem.run_bind, Sem.run_pure, Result.andThen_ok, List.map_toArray, List.map_cons, List.map_nil, hv, hx, List.length_nil, hrun]
end
end Go.Hs
set_option linter.unusedVariables false
namespace Go.Hs

section
variable {P : Program} {n : Nat} {N : Env → World → Prop} {ρ : Env} {w w0 wb : World} {all : Array Oper} {rest : List Oper}
  {d d2 : Nat} {ty ty2 t e e2 tl el' : TypeId} {pos pos2 : String} {after after2 : Array Edge} {g g2 : Option (Nat × Bool)} {s x y : Operand} {v u xv : Value} {b c lo i j br cr : Nat} {z : Value} {k : IntKind} {a : Int}
  {α : Type} {X : World → List Nat → Value → α → Prop} {E : World → Value → α → Prop} {xs ys : List α} {q : α}

theorem Wo_make0 (hw : wantedE all ⟨some d, .makeSlice t x x, ty, pos, after, g⟩ ρ = true) (hel : El P t e z) (hx : evalE ρ x = .int k a) (ha : 0 ≤ a ∧ a ≤ 1099511627776)
    (hk : ∀ b w1, w.heap.size ≤ b → b < w1.heap.size → Ext w w1 → w1.heap[b]? = some (.cells (List.replicate a.toNat z).toArray e (0, 0)) → Wops P n all rest N (upd ρ d (.slice (some ⟨b, 0, none⟩) a.toNat a.toNat)) w1) :
    Wops P n all (⟨some d, .makeSlice t x x, ty, pos, after, g⟩ :: rest) N ρ w := by
  obtain ⟨i, hi, hz, hs, hby⟩ := hel.info
  have hm : ((i.bytes : Int) * a) ≤ 281474976710656 := by
    obtain ⟨A, rfl⟩ := Int.eq_ofNat_of_zero_le ha.1
    have : i.bytes * A ≤ 64 * 1099511627776 := Nat.mul_le_mul hby (by omega)
    have h2 : ((i.bytes * A : Nat) : Int) ≤ 70368744177664 := by omega
    have h3 : ((i.bytes * A : Nat) : Int) = (i.bytes : Int) * (A : Int) := Int.natCast_mul _ _
    rw [← h3]; omega
  have hr := run_make (P := P) w t e i z hel.und hi hz k k a a ha.1 (Int.le_refl _) hm (by omega)
  have hc : madeCells z.cells (a.toNat * i.size) = (List.replicate a.toNat z).toArray := by
    rw [hs, Nat.mul_one, isCell_cells hel.zero]
    apply Array.ext'
    rw [toList_madeCells_one]
  rw [hc] at hr
  refine Wo_run (v := .slice (some ⟨w.heap.size, 0, none⟩) a.toNat a.toNat) (w' := w.alloc (.cells (List.replicate a.toNat z).toArray e)) hw ?_ (hk _ _ (Nat.le_refl _) (by simp) ((Ext.refl w).alloc _) (heap_alloc_new w _))
  simp only [execOp, Sem.run_bind, Sem.run_pure, Result.andThen_ok, hx, hr]
theorem Wo_make {x0 : α} (hw : wantedE all ⟨some d, .makeSlice t x x, ty, pos, after, g⟩ ρ = true) (hel : El P t e z) {m : Nat} (hx : evalE ρ x = .int k (m : Int)) (ha : m ≤ 1099511627776) (hz : ∀ w, X w [] z x0)
    (hk : ∀ b w1, w.heap.size ≤ b → b < w1.heap.size → Ext w w1 → Owned w.heap.size (XSl e X) w1 (.slice (some ⟨b, 0, none⟩) m m) (List.replicate m x0) → Wops P n all rest N (upd ρ d (.slice (some ⟨b, 0, none⟩) m m)) w1) :
    Wops P n all (⟨some d, .makeSlice t x x, ty, pos, after, g⟩ :: rest) N ρ w :=
  Wo_make0 hw hel hx (by omega) fun b w1 h1 h2 h3 h4 => hk b w1 h1 h2 h3 (Owned.made h4 h1 (by unfold maxLen; omega) (hz w1))
theorem Wo_makeI (hw : wantedE all ⟨some d, .makeSlice t x x, ty, pos, after, g⟩ ρ = true) (hel : El P t e (.int .i64 0)) {m : Nat} (hx : evalE ρ x = .int k (m : Int)) (ha : m ≤ 1099511627776)
    (hk : ∀ b w1, w.heap.size ≤ b → b < w1.heap.size → Ext w w1 → Owned w.heap.size (XSl e XInt) w1 (.slice (some ⟨b, 0, none⟩) m m) (List.replicate m 0) → Wops P n all rest N (upd ρ d (.slice (some ⟨b, 0, none⟩) m m)) w1) :
    Wops P n all (⟨some d, .makeSlice t x x, ty, pos, after, g⟩ :: rest) N ρ w := Wo_make hw hel hx ha (fun _ => ⟨rfl, rfl⟩) hk
theorem XSl.nil (w : World) : XSl e X w [] (.slice none 0 0) [] := ⟨[], [], World.ownsRow_nil w 0 e 1, rfl, trivial⟩
theorem int_z {a : Int} (h : 0 ≤ a) (hx : evalE ρ x = .int k a) : evalE ρ x = .int k (a.toNat : Nat) := by rw [hx, toNat_cast h]

/-- []T{} -/
theorem Wo_lit0 (X : World → List Nat → Value → α → Prop) (hw : wantedE all ⟨some d, .buildSlice t 0 #[], ty, pos, after, g⟩ ρ = true) (hel : El P t e z) (hs : ∀ w, (sizeOf e).run P w = .ok 1 w)
    (hk : ∀ b w1, w.heap.size ≤ b → b < w1.heap.size → Ext w w1 → Owned w.heap.size (XSl e X) w1 (.slice (some ⟨b, 0, none⟩) 0 0) [] → Wops P n all rest N (upd ρ d (.slice (some ⟨b, 0, none⟩) 0 0)) w1) :
    Wops P n all (⟨some d, .buildSlice t 0 #[], ty, pos, after, g⟩ :: rest) N ρ w := by
  refine Wo_run (v := .slice (some ⟨w.heap.size, 0, none⟩) 0 0) (w' := w.alloc (.cells [].toArray e)) hw ?_ (hk _ _ (Nat.le_refl _) (by simp) ((Ext.refl w).alloc _)
    (Owned.block (cs := []) (xs := []) (heap_alloc_new w _) (Nat.le_refl _) rfl (by unfold maxLen; omega) trivial))
  simp [execOp, Instr.buildSlice, run_und hel.und, hs, newRow, show Array.range 0 = #[] from rfl, Instr.fill]

theorem flatten_set_nodup {fs : List (List Nat)} {f fi : List Nat} : ∀ {i : Nat}, fs.flatten.Nodup → f.Nodup → (∀ k ∈ f, k ∉ fs.flatten) → (fs.set i f).flatten.Nodup ∧ ∀ k ∈ (fs.set i f).flatten, k ∈ f ∨ k ∈ fs.flatten := by
  induction fs with
  | nil => intro i h1 h2 h3; simp
  | cons g fs ih =>
    intro i h1 h2 h3
    rw [List.flatten_cons, List.nodup_append] at h1
    have hf : ∀ k ∈ f, k ∉ fs.flatten := fun k hk hm => h3 k hk (by rw [List.flatten_cons]; exact List.mem_append_right _ hm)
    cases i with
    | zero =>
      simp only [List.set_cons_zero, List.flatten_cons]
      refine ⟨List.nodup_append.2 ⟨h2, h1.2.1, fun a ha b hb hab => hf a ha (by rw [hab]; exact hb)⟩, fun k hk => ?_⟩
      rcases List.mem_append.1 hk with hk | hk
      · exact .inl hk
      · exact .inr (List.mem_append_right _ hk)
    | succ i =>
      obtain ⟨h4, h5⟩ := ih (i := i) h1.2.1 h2 hf
      simp only [List.set_cons_succ, List.flatten_cons]
      refine ⟨List.nodup_append.2 ⟨h1.1, h4, fun a ha b hb hab => ?_⟩, fun k hk => ?_⟩
      · subst hab
        rcases h5 a hb with h6 | h6
        · exact h3 a h6 (by rw [List.flatten_cons]; exact List.mem_append_left _ ha)
        · exact h1.2.2 a ha a h6 rfl
      · rcases List.mem_append.1 hk with hk | hk
        · exact .inr (List.mem_append_left _ hk)
        · rcases h5 k hk with h6 | h6
          · exact .inl h6
          · exact .inr (List.mem_append_right _ h6)

theorem flatten_apart {fs : List (List Nat)} : ∀ {i j k : Nat} {f g : List Nat}, fs.flatten.Nodup → fs[i]? = some f → fs[j]? = some g → i ≠ j → k ∈ f → k ∈ g → False := by
  induction fs with
  | nil => intro i j k f g _ h; simp at h
  | cons a fs ih =>
    intro i j k f g hn h1 h2 hne hf hg
    rw [List.flatten_cons, List.nodup_append] at hn
    cases i with
    | zero =>
      cases j with
      | zero => exact hne rfl
      | succ j =>
        simp at h1; subst h1
        exact hn.2.2 k hf k (List.mem_flatten.2 ⟨g, List.mem_of_getElem? (by simpa using h2), hg⟩) rfl
    | succ i =>
      cases j with
      | zero =>
        simp at h2; subst h2
        exact hn.2.2 k hg k (List.mem_flatten.2 ⟨f, List.mem_of_getElem? (by simpa using h1), hf⟩) rfl
      | succ j => exact ih hn.2.1 (by simpa using h1) (by simpa using h2) (by omega) hf hg
theorem Owned.cellAt [Loc X] (h : Owned lo (XSl e X) w (.slice (some ⟨b, 0, none⟩) i c) xs) {j : Nat} (hj : j < xs.length) : ∃ u, w.cell? ⟨b, j, none⟩ = some u ∧ w.frozen? ⟨b, j, none⟩ = false := by
  obtain ⟨fp, h1, h2, cs, fps, h3, rfl, h5⟩ := h
  have hl := h5.len
  have hn : i = xs.length := by
    rcases h3.2 with ⟨h6, _⟩ | ⟨g, cap, cur, h6, _⟩
    · cases h6
    · cases h6; rfl
  subst hn
  refine ⟨cs[j]'(by omega), ?_, h3.frozenAt j⟩
  rw [h3.cellAt j (by omega)]
  simp

theorem XInt_flat {w : World} : ∀ {fps : List (List Nat)} {cs : List Value} {xs : List Int}, XAll XInt w fps cs xs → fps.flatten = []
  | [], _, _, _ => rfl
  | f :: fs, c :: cs, x :: xs, h => by rw [List.flatten_cons, h.1.1, XInt_flat h.2]; rfl
  | _ :: _, [], _, h => h.elim
  | _ :: _, _ :: _, [], h => h.elim
/-- Its blocks are that one alone. -/
theorem XI_fp {w : World} {e : TypeId} {fp : List Nat} {v : Value} {xs : List Int} (h : XSl e XInt w fp v xs) : fp = v.ownBlock.toList := by
  obtain ⟨cs, fps, h3, rfl, h5⟩ := h
  rw [XInt_flat h5]; simp
/-- An element replaced. -/
theorem OwnedB.set [Loc X] {hi lu : Nat} (h : OwnedB lo hi (XSl e X) w (.slice (some ⟨b, 0, none⟩) i c) xs) {j : Nat} (hj : j < xs.length) (hu : Owned lu X w u q) (hlu : hi ≤ lu) (hlo : lo ≤ hi) :
    Owned lo (XSl e X) (w.setCell ⟨b, j, none⟩ u) (.slice (some ⟨b, 0, none⟩) i c) (xs.set j q) := by
  obtain ⟨fp, h1, hB, hX⟩ := h
  have h2 : ∀ k ∈ fp, lo ≤ k := fun k hk => (hB k hk).1
  have hltb : ∀ k ∈ fp, k < hi := fun k hk => (hB k hk).2
  obtain ⟨fu, n1, n2', hXu⟩ := hu
  have n2 : ∀ k ∈ fu, hi ≤ k := fun k hk => Nat.le_trans hlu (n2' k hk)
  obtain ⟨cs, fps, h3, rfl, h5⟩ := hX
  have hl := h5.len
  have hn : i = xs.length := by
    rcases h3.2 with ⟨h6, _⟩ | ⟨g, cap, cur, h6, _⟩
    · cases h6
    · cases h6; rfl
  subst hn
  have hst := h3.stored j u
  have h1' : (b :: fps.flatten).Nodup := h1
  rw [List.nodup_cons] at h1'
  have hdis : ∀ k ∈ fu, k ∉ fps.flatten := fun k hk hm => by
    have := n2 k hk; have := hltb k (List.mem_append_right _ hm); omega
  have hbu : b ∉ fu := fun hm => by
    have := n2 b hm; have := hltb b (by simp [Value.ownBlock]); omega
  obtain ⟨h6, h7⟩ := flatten_set_nodup (i := j) (fi := []) h1'.2 n1 hdis
  refine ⟨b :: (fps.set j fu).flatten, List.nodup_cons.2 ⟨fun hm => ?_, h6⟩, fun k hk => ?_, cs.set j u, fps.set j fu, by simpa using hst.1, rfl, ?_⟩
  · rcases h7 b hm with h8 | h8
    · exact hbu h8
    · exact h1'.1 h8
  · rcases List.mem_cons.1 hk with rfl | hk
    · exact h2 k (by simp [Value.ownBlock])
    · rcases h7 k hk with h8 | h8
      · have := n2 k h8; omega
      · exact h2 k (List.mem_append_right _ h8)
  · refine h5.turned hj (Loc.loc (fun k hk => heap_setCell_other u (fun e => hbu (by simp only at e; rw [← e]; exact hk))) hXu) (fun m g' hm hg k hk => heap_setCell_other u (fun e => h1'.1 ?_))
    simp only at e
    rw [← e]
    exact List.mem_flatten.2 ⟨g', List.mem_of_getElem? hg, hk⟩

theorem Wo_set [Loc X] (hw : wantedE all ⟨none, .store t x y, ty, pos, after, g⟩ ρ = true) (ht : ∀ w, (sizeOf t).run P w = .ok 1 w) (hx : evalE ρ x = .pointer (some ⟨b, 0 + j, none⟩)) (hy : evalE ρ y = u)
    {hi lu : Nat} (h : OwnedB lo hi (XSl e X) w (.slice (some ⟨b, 0, none⟩) i c) xs) (hj : j < xs.length) (hu : Owned lu X w u q) (hlu : hi ≤ lu) (hlo : lo ≤ hi)
    (hk : ∀ w1, Owned lo (XSl e X) w1 (.slice (some ⟨b, 0, none⟩) i c) (xs.set j q) → Only [b] w w1 → (∀ k, k ≠ b → w1.heap[k]? = w.heap[k]?) → w1.heap.size = w.heap.size → Wops P n all rest N ρ w1) :
    Wops P n all (⟨none, .store t x y, ty, pos, after, g⟩ :: rest) N ρ w := by
  rw [Nat.zero_add] at hx
  obtain ⟨u0, h1, h2⟩ := h.o.cellAt hj
  have hc : isCell u = true := by obtain ⟨_, _, _, h3⟩ := hu; exact Loc.cell h3
  exact Wo_store hw (ops_store ht hx hy hc h1 h2) (hk _ (h.set hj hu hlu hlo) (Only.setCell (List.mem_singleton.2 rfl)) (fun k h3 => heap_setCell_other u h3) (size_setCell _ _))

/-- The place of row i. -/
def RowAt (w : World) (v : Value) (i br n cr : Nat) : Prop := ∃ b m c, v = .slice (some ⟨b, 0, none⟩) m c ∧ br ≠ b ∧ w.cell? ⟨b, i, none⟩ = some (.slice (some ⟨br, 0, none⟩) n cr)
theorem RowAt.of_heap {w' : World} {m : Nat} (h : RowAt w v i br m cr) (hk : ∀ k, k ≠ br → w'.heap[k]? = w.heap[k]?) : RowAt w' v i br m cr := by
  obtain ⟨b, m', c, rfl, h1, h2⟩ := h
  refine ⟨b, m', c, rfl, h1, ?_⟩
  rw [World.cell?_of_block (hk b (fun e => h1 e.symm)), h2]
theorem RowAt.ext {w' : World} {m : Nat} (h : RowAt w v i br m cr) (e : Ext w w') : RowAt w' v i br m cr := by
  obtain ⟨b, m', c, rfl, h1, h2⟩ := h
  exact ⟨b, m', c, rfl, h1, e.cell h2⟩
theorem Owned.rowAt {p : List (List Int)} (h : Owned lo (XSl e (XSl e2 XInt)) w v p) (hi : i < p.length) (hn : 0 < p[i].length) : ∃ br cr, RowAt w v i br p[i].length cr ∧ lo ≤ br ∧ br < w.heap.size := by
  obtain ⟨fp, h1, h2, cs, fps, h3, rfl, h5⟩ := h
  obtain ⟨f, u, h6, h7, h8⟩ := h5.at hi
  rcases h3.2 with ⟨rfl, h9⟩ | ⟨g, cap, cur, rfl, _⟩
  · omega
  obtain ⟨cs', fps', k3, rfl, k5⟩ := h8
  have hlt := k3.lt
  rcases k3.2 with ⟨rfl, h9⟩ | ⟨g', cap', cur', rfl, _⟩
  · omega
  have hmem : g' ∈ fps.flatten := List.mem_flatten.2 ⟨_, List.mem_of_getElem? h6, by simp [Value.ownBlock]⟩
  have h1' : (g :: fps.flatten).Nodup := h1
  rw [List.nodup_cons] at h1'
  refine ⟨g', cap', ⟨g, _, _, rfl, fun e => h1'.1 (by rw [← e]; exact hmem), ?_⟩, h2 g' (List.mem_append_right _ hmem), (hlt g' rfl).2⟩
  have hl := h5.len
  rw [h3.cellAt i (by omega), h7]
theorem Only.ext1 {b : Nat} (h : Only [b] w w0) {w' : World} (e : Ext w' w) (hb : w'.heap.size ≤ b) : Ext w' w0 := h.ext e (fun k hk => by rw [List.mem_singleton.1 hk]; exact hb)
theorem Owned.setRow {p : List (List Int)} {m : Nat} {q : Int} (h : Owned lo (XSl e (XSl e2 XInt)) w v p) (hi : i < p.length) (hR : RowAt w v i br m cr) (hj : j < p[i].length) :
    Owned lo (XSl e (XSl e2 XInt)) (w.setCell ⟨br, j, none⟩ (.int .i64 q)) v (p.set i (p[i].set j q)) ∧ lo ≤ br ∧ ∃ u, w.cell? ⟨br, j, none⟩ = some u ∧ w.frozen? ⟨br, j, none⟩ = false := by
  obtain ⟨fp, h1, h2, cs, fps, h3, rfl, h5⟩ := h
  obtain ⟨f, u, h6, h7, h8⟩ := h5.at hi
  have hl := h5.len
  obtain ⟨b, m', c, rfl, hne, hcell⟩ := hR
  have hm : m' = p.length := by
    rcases h3.2 with ⟨h6, _⟩ | ⟨g, cap, cur, h6, _⟩
    · cases h6
    · cases h6; rfl
  subst hm
  rw [h3.cellAt i (by omega), h7] at hcell
  cases hcell
  have h8' := h8
  obtain ⟨cs', fps', k3, rfl, k5⟩ := h8
  have hmm : m = p[i].length := by
    rcases k3.2 with ⟨h6, _⟩ | ⟨g, cap, cur, h6, _⟩
    · cases h6
    · cases h6; rfl
  subst hmm
  have hfl : ∀ {fps' : List (List Nat)} {cs' : List Value} {xs : List Int}, XAll XInt w fps' cs' xs → fps'.flatten = [] := by
    intro fps'
    induction fps' with
    | nil => intro _ _ _; rfl
    | cons f fs ih =>
      intro cs' xs h
      cases cs' with
      | nil => exact h.elim
      | cons c cs' => cases xs with
        | nil => exact h.elim
        | cons x xs => rw [List.flatten_cons, h.1.1, ih h.2]; rfl
  have hf0 := hfl k5
  have hmem : ∀ k ∈ (Value.slice (some ⟨br, 0, none⟩) p[i].length cr).ownBlock.toList ++ fps'.flatten, k = br := by
    intro k hk
    rw [hf0] at hk
    simpa [Value.ownBlock] using hk
  have hbm : br ∈ fps.flatten := List.mem_flatten.2 ⟨_, List.mem_of_getElem? h6, by simp [Value.ownBlock]⟩
  have hst := k3.stored j (.int .i64 q)
  have h1' : (b :: fps.flatten).Nodup := h1
  rw [List.nodup_cons] at h1'
  have kl := k5.len
  refine ⟨?_, h2 br (List.mem_append_right _ hbm), cs'[j]'(by omega), ?_, k3.frozenAt j⟩
  · have hnew : XSl e2 XInt (w.setCell ⟨br, j, none⟩ (.int .i64 q)) ((Value.slice (some ⟨br, 0, none⟩) p[i].length cr).ownBlock.toList ++ fps'.flatten) (.slice (some ⟨br, 0, none⟩) p[i].length cr) (p[i].set j q) := by
      have hfi : fps'.set j [] = fps' := by
        obtain ⟨f', c', h6', h7', h8'⟩ := k5.at hj
        rw [h8'.1] at h6'
        apply List.ext_getElem?
        intro a
        rw [List.getElem?_set]
        split
        · rename_i e; subst e; have hh := (List.getElem?_eq_some_iff.1 h6').1; rw [h6']; simp; omega
        · rfl
      refine ⟨cs'.set j (.int .i64 q), fps', by simpa using hst.1, rfl, ?_⟩
      have := k5.turned (w' := w.setCell ⟨br, j, none⟩ (.int .i64 q)) (f := []) (u := .int .i64 q) (x := q) hj ⟨rfl, rfl⟩ (fun m' g' hm hg k hk => by
        exfalso
        have : k ∈ fps'.flatten := List.mem_flatten.2 ⟨g', List.mem_of_getElem? hg, hk⟩
        rw [hf0] at this; cases this)
      rw [hfi] at this
      exact this
    have hsame : fps.set i ((Value.slice (some ⟨br, 0, none⟩) p[i].length cr).ownBlock.toList ++ fps'.flatten) = fps := by
      apply List.ext_getElem?
      intro a
      rw [List.getElem?_set]
      split
      · rename_i e; subst e; have hh := (List.getElem?_eq_some_iff.1 h6).1; rw [h6]; simp; omega
      · rfl
    have hcsame : cs.set i (.slice (some ⟨br, 0, none⟩) p[i].length cr) = cs := by
      apply List.ext_getElem?
      intro a
      rw [List.getElem?_set]
      split
      · rename_i e; subst e; have hh := (List.getElem?_eq_some_iff.1 h7).1; rw [h7]; simp; omega
      · rfl
    refine ⟨_, h1, h2, cs, fps, ?_, rfl, ?_⟩
    · have : (p.set i (p[i].set j q)).length = p.length := by simp
      rw [this]
      exact ownsRow_loc (fun k hk => by
        have hk' : b = k := by simpa [Value.ownBlock] using hk
        subst hk'; exact heap_setCell_other _ (fun e => hne e.symm)) h3
    · have := h5.turned (w' := w.setCell ⟨br, j, none⟩ (.int .i64 q)) hi hnew (fun m' g' hm hg k hk => heap_setCell_other _ (fun e => by
        simp only at e
        subst e
        -- k = br lies in row i and in row m'
        have hnd := h1'.2
        exact flatten_apart hnd h6 hg (fun e => hm e.symm) (by simp [Value.ownBlock]) hk))
      rw [hsame, hcsame] at this
      exact this
  · rw [k3.cellAt j (by omega)]
    simp
/-- p[i] of own rows: where it lies. -/
theorem Wo_rowAt (ht : P.underlying t = some (.slice el')) (hs : ∀ w, (sizeOf el').run P w = .ok 1 w) (hta : ∀ w, (isAgg tl).run P w = .ok false w)
    (hw : wantedE all ⟨some d, .indexAddr t x y, ty, pos, after, g⟩ ρ = true)
    (hw2 : ∀ v, wantedE all ⟨some d2, .load tl (.tmp d), ty2, pos2, after2, g2⟩ (upd ρ d v) = true)
    {m : Nat} {a : Int} (hx : evalE ρ x = v) (hv : ∃ b c, v = .slice (some ⟨b, 0, none⟩) m c) (hy : evalE ρ y = .int .i64 a) (hR : RowAt w v a.toNat br i cr) (ha : 0 ≤ a ∧ a.toNat < m)
    (hk : ∀ ad, Wops P n all rest N (upd (upd ρ d (.pointer (some ad))) d2 (.slice (some ⟨br, 0, none⟩) i cr)) w) :
    Wops P n all (⟨some d, .indexAddr t x y, ty, pos, after, g⟩ :: ⟨some d2, .load tl (.tmp d), ty2, pos2, after2, g2⟩ :: rest) N ρ w := by
  obtain ⟨b, c, rfl⟩ := hv
  obtain ⟨b', m', c', e, hne, hc⟩ := hR
  cases e
  refine Wo hw (opv_indexAddr ht hs hx (by rw [hy, toNat_cast ha.1]) ha.2) ?_
  have hc' : w.cell? ⟨b, 0 + a.toNat, none⟩ = some (.slice (some ⟨br, 0, none⟩) i cr) := by rw [Nat.zero_add]; exact hc
  refine Wo (hw2 _) (opv_load hta ?_ hc') (hk _)
  show upd ρ d _ d = _
  unfold upd; rw [Nat.beq_refl]; rfl
/-- p[i][j] = q in own rows. -/
theorem Wo_gset {p : List (List Int)} {m : Nat} {q : Int} (hw : wantedE all ⟨none, .store t x y, ty, pos, after, g⟩ ρ = true) (ht : ∀ w, (sizeOf t).run P w = .ok 1 w) (hx : evalE ρ x = .pointer (some ⟨br, 0 + j, none⟩)) (hy : evalE ρ y = .int .i64 q)
    {hi' : Nat} (h : OwnedB lo hi' (XSl e (XSl e2 XInt)) w v p) (hR : RowAt w v i br m cr) (hi : i < p.length) (hj : j < p[i].length)
    (hk : ∀ w1, Owned lo (XSl e (XSl e2 XInt)) w1 v (p.set i (p[i].set j q)) → RowAt w1 v i br m cr → Only [br] w w1 → (∀ k, k ≠ br → w1.heap[k]? = w.heap[k]?) → w1.heap.size = w.heap.size → Wops P n all rest N ρ w1) :
    Wops P n all (⟨none, .store t x y, ty, pos, after, g⟩ :: rest) N ρ w := by
  rw [Nat.zero_add] at hx
  obtain ⟨h1, h2, u, h3, h4⟩ := h.o.setRow (q := q) hi hR hj
  have hf : ∀ k, k ≠ br → (w.setCell ⟨br, j, none⟩ (.int .i64 q)).heap[k]? = w.heap[k]? := fun k h3 => heap_setCell_other _ h3
  exact Wo_store hw (ops_store ht hx hy rfl h3 h4) (hk _ h1 (hR.of_heap hf) (Only.setCell (List.mem_singleton.2 rfl)) hf (size_setCell _ _))
end

theorem opv_indexAddr_z {P : Program} {ρ : Env} {w : World} {ty ts el : TypeId} {x y : Operand} {len cap b o : Nat} {z : Int} (ht : P.underlying ts = some (.slice el)) (hs : ∀ w, (sizeOf el).run P w = .ok 1 w) (hx : evalE ρ x = .slice (some ⟨b, o, none⟩) len cap) (hy : evalE ρ y = .int .i64 z)
    (hk : 0 ≤ z ∧ z.toNat < len) : OpV P (.indexAddr ts x y) ty ρ w (.pointer (some ⟨b, o + z.toNat, none⟩)) := opv_indexAddr ht hs hx (by rw [hy, toNat_cast hk.1]) hk.2
section
variable {P : Program} {ρ : Env} {w : World} {ty : TypeId}
end
section
variable {P : Program} {n : Nat} {N : Env → World → Prop} {ρ : Env} {w : World} {all : Array Oper} {rest : List Oper} {d : Nat} {ty t : TypeId} {pos : String} {after : Array Edge} {g : Option (Nat × Bool)} {z : Value}
end

/-- Nothing outside lo .. hi has turned. -/
structure Span (lo hi : Nat) (w w' : World) : Prop where
  os : w'.os = w.os
  tape : w'.tape = w.tape
  output : w'.output = w.output
  size : w.heap.size ≤ w'.heap.size
  block : ∀ k, (k < lo ∨ hi ≤ k) → k < w.heap.size → w'.heap[k]? = w.heap[k]?
section
variable {α : Type} {X : World → List Nat → Value → α → Prop} {E : World → Value → α → Prop} {w w' w'' w0 : World} {v u : Value} {x : α} {xs : List α} {e : TypeId} {lo hi lt ht b i : Nat} {fp : List Nat}
theorem Span.refl : Span lo hi w w := ⟨rfl, rfl, rfl, Nat.le_refl _, fun _ _ _ => rfl⟩
theorem Span.trans (h : Span lo hi w w') (k : Span lo hi w' w'') : Span lo hi w w'' :=
  ⟨k.os.trans h.os, k.tape.trans h.tape, k.output.trans h.output, Nat.le_trans h.size k.size, fun i h1 h2 => (k.block i h1 (Nat.lt_of_lt_of_le h2 h.size)).trans (h.block i h1 h2)⟩
theorem Span.mono {lo' hi' : Nat} (h : Span lo hi w w') (h1 : lo' ≤ lo) (h2 : hi ≤ hi') : Span lo' hi' w w' := ⟨h.os, h.tape, h.output, h.size, fun k hk hl => h.block k (by omega) hl⟩
theorem OwnedB.only (h : OwnedB lo hi X w v x) : ∃ fp, fp.Nodup ∧ (∀ k ∈ fp, lo ≤ k ∧ k < hi) ∧ X w fp v x := h
theorem Ext.wroteAt {a w1 : World} (p : Ext a w) (e0 : Ext w0 w) (e : Ext w0 w1) (K : ∀ k, k ≠ b → w1.heap[k]? = w.heap[k]?) (hz : w1.heap.size = w.heap.size) (hb : a.heap.size ≤ b) : Ext a w1 :=
  ⟨e.os.trans (e0.os.symm.trans p.os), e.tape.trans (e0.tape.symm.trans p.tape), e.output.trans (e0.output.symm.trans p.output), by rw [hz]; exact p.size, fun k hk => (K k (by omega)).trans (p.block k hk)⟩
end
end Go.Hs
namespace Go.Proofs.YtgphoihilheoeaaDoor
open Go.Hs
set_option maxRecDepth 10000

theorem el80 : El Tryd.prog 80 3 (.int .i64 0) := El.of Tryd.underlying80 (by kernel_rfl) rfl

theorem el49 : El Tryd.prog 49 80 (.slice none 0 0) := El.of Tryd.underlying49 (by kernel_rfl) rfl

theorem el51 : El Tryd.prog 51 49 (.slice none 0 0) := El.of Tryd.underlying51 (by kernel_rfl) rfl

theorem el65 : El Tryd.prog 65 9 (str []) := El.of Tryd.underlying65 (by kernel_rfl) rfl

abbrev XI := XSl 3 XInt

abbrev XR := XSl 80 (XSl 3 XInt)

end Go.Proofs.YtgphoihilheoeaaDoor
namespace Go.Hs

def bit (p : List (List Int)) (i j : Nat) : Int := (p.getD i []).getD j 0
def Pic (p : List (List Int)) : Prop := 1 ≤ p.length ∧ p.length ≤ 5 ∧ ∀ r ∈ p, r.length = p.length ∧ ∀ x ∈ r, x = 0 ∨ x = 1
instance (p : List (List Int)) : Decidable (Pic p) := by unfold Pic; infer_instance
/-- rows of arrows, of some more nodes -/
def Gr (p : List (List Int)) : Prop := 1 ≤ p.length ∧ p.length ≤ 11 ∧ ∀ r ∈ p, r.length = p.length ∧ ∀ x ∈ r, x = 0 ∨ x = 1
theorem Pic.gr {p : List (List Int)} (h : Pic p) : Gr p := ⟨h.1, Nat.le_trans h.2.1 (by decide), h.2.2⟩
instance (p : List (List Int)) : Coe (Pic p) (Gr p) := ⟨Pic.gr⟩
def Nod (p : List (List Int)) (z : Int) : Prop := Pic p ∧ 0 ≤ z ∧ z < p.length
instance (p : List (List Int)) (z : Int) : Decidable (Nod p z) := by unfold Nod; infer_instance
theorem getD_lt {α : Type} {l : List α} {i : Nat} {d : α} (h : i < l.length) : l.getD i d = l[i] := by simp [List.getD_eq_getElem?_getD, h]
theorem Gr.row {p : List (List Int)} (h : Gr p) {i : Nat} (hi : i < p.length) : p[i].length = p.length := (h.2.2 _ (List.getElem_mem hi)).1
theorem Pic.row {p : List (List Int)} (h : Pic p) {i : Nat} (hi : i < p.length) : p[i].length = p.length := (h.2.2 _ (List.getElem_mem hi)).1
/-- the places of the 1s of a row -/
def arrR (r : List Int) : List Nat := (List.range r.length).filter fun j => decide (r.getD j 0 = 1)
def arr (p : List (List Int)) (i : Nat) : List Nat := arrR (p.getD i [])
def ints (l : List Nat) : List Int := l.map fun (n : Nat) => (n : Int)
theorem ints_len (l : List Nat) : (ints l).length = l.length := by simp [ints]
theorem ints_append (a b : List Nat) : ints (a ++ b) = ints a ++ ints b := by simp [ints]
theorem mem_arrR {r : List Int} {j : Nat} : j ∈ arrR r ↔ j < r.length ∧ r.getD j 0 = 1 := by simp [arrR]
theorem arrR_len (r : List Int) : (arrR r).length ≤ r.length := by
  unfold arrR; exact Nat.le_trans (List.length_filter_le _ _) (by simp)
theorem mem_arr {p : List (List Int)} (h : Gr p) {i j : Nat} (hi : i < p.length) : j ∈ arr p i ↔ j < p.length ∧ bit p i j = 1 := by
  unfold arr bit
  rw [mem_arrR, getD_lt hi, h.row hi]
theorem filter_range_succ (f : Nat → Bool) (k : Nat) : (List.range (k + 1)).filter f = (List.range k).filter f ++ if f k then [k] else [] := by
  rw [List.range_succ, List.filter_append]; simp [List.filter_cons]
theorem ext_take {α : Type} {xs ys : List α} (hl : xs.length = ys.length) (h : xs.take xs.length = ys.take xs.length) : xs = ys := by
  rw [List.take_length, hl, List.take_length] at h; exact h
theorem take_snoc {α : Type} (l : List α) (k : Nat) (h : k < l.length) : l.take (k + 1) = l.take k ++ [l[k]] := by
  rw [List.take_succ_eq_append_getElem h]
end Go.Hs
namespace Go.Proofs.YtgphoihilheoeaaDoor
open Go.Hs
set_option maxRecDepth 10000
set_option maxHeartbeats 4000000
set_option linter.unusedVariables false
set_option linter.unusedSimpArgs false

theorem mixed : Tryd.prog.follows .mixedOrders = true := by kernel_rfl


end Go.Proofs.YtgphoihilheoeaaDoor
namespace Go.Proofs.YtgphoihilheoeaaDoor
open Go.Hs
set_option maxRecDepth 10000
set_option maxHeartbeats 4000000
set_option linter.unusedVariables false
set_option linter.unusedSimpArgs false
theorem take_eq_snoc {α : Type} {xs ys : List α} {k : Nat} (h1 : k < xs.length) (h2 : k < ys.length) : (xs.take (k + 1) = ys.take (k + 1)) ↔ (xs.take k = ys.take k ∧ xs[k] = ys[k]) := by
  rw [take_snoc _ _ h1, take_snoc _ _ h2]
  constructor
  · intro h
    have := List.append_inj' h rfl
    exact ⟨this.1, by simpa using this.2⟩
  · rintro ⟨h, h'⟩; rw [h, h']
theorem ne_at {α : Type} {xs ys : List α} {k : Nat} (h1 : k < xs.length) (h2 : k < ys.length) (h : xs[k] ≠ ys[k]) : xs ≠ ys := by
  rintro rfl; exact h rfl

end Go.Proofs.YtgphoihilheoeaaDoor
namespace Go.Proofs.YtgphoihilheoeaaDoor
open Go.Hs
set_option maxRecDepth 10000
set_option maxHeartbeats 4000000
set_option linter.unusedVariables false
set_option linter.unusedSimpArgs false

theorem l1In_ok (n a b : Int) (w : World) : Does Tryd.prog 42 [.int .i64 n, .int .i64 a, .int .i64 b] w (Ret w (.bool (decide (a ≤ n ∧ n ≤ b)))) := by
  refine fn_of_W1 Tryd.func42 rfl Tryd.results42 Tryd.ntmps42 rfl ?_
  focus
    refine W_seq ?_; refine W_region rfl ?_; refine Wo rfl (opv_assign (v := .bool _) rfl) ?_; refine Wo_nil ?_; refine W_seq ?_; refine W_region rfl ?_; refine Wo rfl (opv_move (v := .int _ _) rfl) ?_
    refine Wo rfl (opv_move (v := .int _ _) rfl) ?_; refine Wo rfl (opv_geq rfl rfl) ?_; refine Wo_split_dec rfl (opv_move (v := .bool _) rfl) (fun h1 => ?_) (fun h1 => ?_); refine Wo rfl (opv_move (v := .int _ _) rfl) ?_
    refine Wo rfl (opv_move (v := .int _ _) rfl) ?_; refine Wo rfl (opv_leq rfl rfl) ?_; refine Wo rfl (opv_pick_t (v := .bool _) rfl rfl) ?_; refine Wo rfl (opv_assign (v := .bool _) rfl) ?_; refine Wo_nil ?_; refine W_ret ?_
    refine at_ret (v := .bool _) rfl ?_; refine ⟨congrArg Value.bool ?_, (Ext.refl _)⟩; rotate_left; refine Wo_skip rfl ?_; refine Wo_skip rfl ?_; refine Wo_skip rfl ?_; refine Wo rfl (opv_pick_f (v := .bool _) rfl rfl) ?_
    refine Wo rfl (opv_assign (v := .bool _) rfl) ?_; refine Wo_nil ?_; refine W_ret ?_; refine at_ret (v := .bool _) rfl ?_; refine ⟨congrArg Value.bool ?_, (Ext.refl _)⟩; rotate_left
  · exact decide_eq_decide.2 (by omega)
  · exact (decide_eq_false (by omega)).symm

def Bits (r : List Int) : Prop := ∀ x ∈ r, x = 0 ∨ x = 1
instance (r : List Int) : Decidable (Bits r) := by unfold Bits; infer_instance
theorem PictureOk_ok (w : World) (v : Value) (p : List (List Int)) (h : ESl Ints w v p) : Does Tryd.prog 70 [v] w (Ret w (.bool (decide (Pic p)))) := by
  have hle := h.le
  refine fn_of_W1 Tryd.func70 rfl Tryd.results70 Tryd.ntmps70 rfl ?_
  focus
    refine W_seq ?_; refine W_region rfl ?_; refine Wo rfl (opv_assign (v := .bool _) rfl) ?_; refine Wo_nil ?_; refine W_seq ?_; refine W_seq ?_; refine W_region rfl ?_; refine Wo rfl (opv_assign (v := .int _ _) rfl) ?_
    refine Wo_nil ?_; refine W_block ?_
  refine W_loop [2, 3, 4, 5, 6, 7, 8, 9, 10, 11, 12, 13, 14, 15, 16, 17, 18, 19, 20, 21, 22, 23, 24, 25, 26, 27, 28, 29, 30, 31, 32, 33] (fun (k : Nat) => [(3, .int .i64 (k : Nat))]) (fun k w' => Ext w w' ∧ k ≤ p.length ∧ ∀ r ∈ p.take k, r.length = p.length ∧ Bits r) (fun x => p.length - x) 0 (by repeat (first | exact trivial | refine And.intro rfl ?_)) ?_ ?_
  · exact ⟨Ext.refl _, Nat.zero_le _, by simp⟩
  rintro k ρj w1 ⟨E1, hk, hb⟩
  by_cases hlt : k < p.length
  · focus
      have szE1 := E1.size; refine W_seq ?_; refine W_seq ?_; refine W_region rfl ?_; refine Wo rfl (opv_move (v := .int _ _) rfl) ?_; refine Wo rfl (opv_move (v := v) rfl) ?_; refine Wo rfl (opv_len Tryd.underlying49 rfl h) ?_
      refine Wo rfl (opv_lss rfl rfl) ?_; refine Wo_nil ?_; refine W_cond_dec rfl (fun h1 => ?_) (fun h1 => ?_); refine W_skip ?_; refine W_seq ?_; refine W_block ?_; refine W_seq ?_; refine W_seq ?_; refine W_region rfl ?_
      refine Wo rfl (opv_move (v := v) rfl) ?_; refine Wo rfl (opv_move (v := .int _ _) rfl) ?_; refine Wo_get Tryd.underlying49 Tryd.sizeOf80 Tryd.isAgg80 rfl (fun _ => rfl) rfl h E1 rfl (by first | omega | (simp <;> omega)) ?_
      rintro _ u1 hu1; refine Wo rfl (opv_len Tryd.underlying80 rfl hu1) ?_; refine Wo rfl (opv_move (v := v) rfl) ?_; refine Wo rfl (opv_len Tryd.underlying49 rfl h) ?_; refine Wo rfl (opv_neq rfl rfl) ?_; refine Wo_nil ?_
      refine W_cond_ndec rfl (fun h2 => ?_) (fun h2 => ?_); refine W_seq ?_; refine W_region rfl ?_; refine Wo rfl (opv_assign (v := .bool _) rfl) ?_; refine Wo_nil ?_; refine W_ret ?_; refine at_ret (v := .bool _) rfl ?_
      refine ⟨congrArg Value.bool ?_, E1⟩; rotate_left; refine W_skip ?_; refine W_seq ?_; refine W_region rfl ?_; refine Wo rfl (opv_assign (v := .int _ _) rfl) ?_; refine Wo_nil ?_; refine W_block ?_; rotate_left; (exfalso; omega)
    · refine (decide_eq_false ?_).symm
      rintro ⟨_, _, h9⟩
      have := (h9 _ (List.getElem_mem hlt)).1
      omega
    refine W_loop [2, 4, 19, 20, 21, 22, 23, 24, 25, 26, 27, 28, 29, 30, 31, 32, 33] (fun (j : Nat) => [(4, .int .i64 (j : Nat))]) (fun j w' => Ext w w' ∧ j ≤ p.length ∧ Bits (p[k].take j)) (fun x => p.length - x) 0 (by repeat (first | exact trivial | refine And.intro rfl ?_)) ?_ ?_
    · exact ⟨E1, Nat.zero_le _, by simp [Bits]⟩
    rintro j ρi w2 ⟨E2, hj, hbj⟩
    focus
      have szE2 := E2.size; have szE1 := E1.size; refine W_seq ?_; refine W_seq ?_; refine W_region rfl ?_; refine Wo rfl (opv_move (v := .int _ _) rfl) ?_; refine Wo rfl (opv_move (v := v) rfl) ?_
      refine Wo rfl (opv_len Tryd.underlying49 rfl h) ?_; refine Wo rfl (opv_lss rfl rfl) ?_; refine Wo_nil ?_; refine W_cond_dec rfl (fun h3 => ?_) (fun h3 => ?_); refine W_skip ?_; refine W_seq ?_; refine W_block ?_; refine W_seq ?_
      refine W_region rfl ?_; refine Wo rfl (opv_move (v := v) rfl) ?_; refine Wo rfl (opv_move (v := .int _ _) rfl) ?_
      refine Wo_get Tryd.underlying49 Tryd.sizeOf80 Tryd.isAgg80 rfl (fun _ => rfl) rfl h E2 rfl (by first | omega | (simp <;> omega)) ?_; rintro _ u2 hu2; refine Wo rfl (opv_move (v := .int _ _) rfl) ?_
      refine Wo_get Tryd.underlying80 Tryd.sizeOf3 Tryd.isAgg3 rfl (fun _ => rfl) rfl hu2 E2 rfl (by first | omega | (simp <;> omega)) ?_; rintro _ _ rfl
      refine Wo_call rfl (opc3 (a := .int _ _) (b := .int _ _) (c := .int _ _) Tryd.call42 rfl rfl rfl) (l1In_ok _ _ _ _) ?_; rintro _ w3 ⟨rfl, E3⟩; have hs1 := E3.size; refine Wo rfl (opv_not rfl) ?_; refine Wo_nil ?_
      refine W_cond_ndec rfl (fun h4 => ?_) (fun h4 => ?_); refine W_seq ?_; refine W_region rfl ?_; refine Wo rfl (opv_assign (v := .bool _) rfl) ?_; refine Wo_nil ?_; refine W_ret ?_; refine at_ret (v := .bool _) rfl ?_
      refine ⟨congrArg Value.bool ?_, (E2.trans E3)⟩; rotate_left; refine W_skip ?_; refine W_region rfl ?_; refine Wo rfl (opv_move (v := .int _ _) rfl) ?_; refine Wo rfl (opv_add rfl rfl (by omega)) ?_
      refine Wo rfl (opv_assign (v := .int _ _) rfl) ?_; refine Wo_nil ?_; rotate_left; refine W_exit ?_; refine exitX_same ?_; refine W_region rfl ?_; refine Wo rfl (opv_move (v := .int _ _) rfl) ?_
      refine Wo rfl (opv_add rfl rfl (by omega)) ?_; refine Wo rfl (opv_assign (v := .int _ _) rfl) ?_; refine Wo_nil ?_; rotate_left
    · refine (decide_eq_false ?_).symm
      rintro ⟨_, _, h9⟩
      have := (h9 _ (List.getElem_mem hlt)).2 _ (List.getElem_mem (show j < p[k].length by omega))
      omega
    · refine ⟨(j + 1), by repeat (first | exact trivial | refine And.intro rfl ?_), by repeat (first | with_reducible exact Same.refl | refine Same.upd rfl ?_ | refine Same.upds rfl ?_ | refine Same.mix rfl ?_), ?_, ?_⟩
      · refine ⟨E2.trans E3, by omega, ?_⟩
        rw [take_snoc _ _ (by omega)]
        intro x hx
        rcases List.mem_append.1 hx with hx | hx
        · exact hbj x hx
        · rw [List.mem_singleton.1 hx]; omega
      · omega
    · refine ⟨(k + 1), by repeat (first | exact trivial | refine And.intro rfl ?_), by repeat (first | with_reducible exact Same.refl | refine Same.upd rfl ?_ | refine Same.upds rfl ?_ | refine Same.mix rfl ?_), ?_, ?_⟩
      · refine ⟨E2, by omega, ?_⟩
        rw [take_snoc _ _ (by omega)]
        intro r hr
        rcases List.mem_append.1 hr with hr | hr
        · exact hb r hr
        · rw [List.mem_singleton.1 hr]
          obtain rfl : j = p.length := by omega
          refine ⟨by omega, ?_⟩
          have e : p[k].take p.length = p[k] := List.take_of_length_le (by omega)
          rw [e] at hbj
          exact hbj
      · omega
  · obtain rfl : k = p.length := by omega
    focus
      have szE1 := E1.size; refine W_seq ?_; refine W_seq ?_; refine W_region rfl ?_; refine Wo rfl (opv_move (v := .int _ _) rfl) ?_; refine Wo rfl (opv_move (v := v) rfl) ?_; refine Wo rfl (opv_len Tryd.underlying49 rfl h) ?_
      refine Wo rfl (opv_lss rfl rfl) ?_; refine Wo_nil ?_; refine W_cond_dec rfl (fun h1 => ?_) (fun h1 => ?_); (exfalso; omega); refine W_exit ?_; refine exitX_same ?_; refine W_seq ?_; refine W_region rfl ?_
      refine Wo rfl (opv_move (v := v) rfl) ?_; refine Wo rfl (opv_len Tryd.underlying49 rfl h) ?_; refine Wo_call rfl (opc3 (a := .int _ _) (b := .int _ _) (c := .int _ _) Tryd.call42 rfl rfl rfl) (l1In_ok _ _ _ _) ?_
      rintro _ w2 ⟨rfl, E2⟩; have hs1 := E2.size; refine Wo rfl (opv_assign (v := .bool _) rfl) ?_; refine Wo_nil ?_; refine W_ret ?_; refine at_ret (v := .bool _) rfl ?_; refine ⟨congrArg Value.bool ?_, (E1.trans E2)⟩
    have hb' : ∀ r ∈ p, r.length = p.length ∧ Bits r := by simpa using hb
    exact decide_eq_decide.2 ⟨fun h => ⟨by omega, by omega, hb'⟩, fun ⟨h3, h4, _⟩ => by omega⟩

theorem NodeOk_ok (w : World) (v : Value) (p : List (List Int)) (h : ESl Ints w v p) (z : Int) : Does Tryd.prog 59 [v, .int .i64 z] w (Ret w (.bool (decide (Nod p z)))) := by
  have hle := h.le
  refine fn_of_W1 Tryd.func59 rfl Tryd.results59 Tryd.ntmps59 rfl ?_
  focus
    refine W_seq ?_; refine W_region rfl ?_; refine Wo rfl (opv_assign (v := .bool _) rfl) ?_; refine Wo_nil ?_; refine W_seq ?_; refine W_region rfl ?_; refine Wo rfl (opv_move (v := v) rfl) ?_
    refine Wo_call rfl (opc1 (a := v) Tryd.call70 rfl) (PictureOk_ok _ _ _ (h)) ?_; rintro _ w1 ⟨rfl, E1⟩; have hs1 := E1.size; refine Wo_split_dec rfl (opv_move (v := .bool _) rfl) (fun h1 => ?_) (fun h1 => ?_)
    refine Wo rfl (opv_move (v := .int _ _) rfl) ?_; refine Wo rfl (opv_move (v := v) rfl) ?_; refine Wo rfl (opv_len Tryd.underlying49 rfl h) ?_; refine Wo rfl (opv_sub rfl rfl (by omega)) ?_
    refine Wo_call rfl (opc3 (a := .int _ _) (b := .int _ _) (c := .int _ _) Tryd.call42 rfl rfl rfl) (l1In_ok _ _ _ _) ?_; rintro _ w2 ⟨rfl, E2⟩; have hs2 := E2.size; refine Wo rfl (opv_pick_t (v := .bool _) rfl rfl) ?_
    refine Wo rfl (opv_assign (v := .bool _) rfl) ?_; refine Wo_nil ?_; refine W_ret ?_; refine at_ret (v := .bool _) rfl ?_; refine ⟨congrArg Value.bool ?_, (E1.trans E2)⟩; rotate_left; refine Wo_skip rfl ?_; refine Wo_skip rfl ?_
    refine Wo_skip rfl ?_; refine Wo_skip rfl ?_; refine Wo_skip rfl ?_; refine Wo rfl (opv_pick_f (v := .bool _) rfl rfl) ?_; refine Wo rfl (opv_assign (v := .bool _) rfl) ?_; refine Wo_nil ?_; refine W_ret ?_
    refine at_ret (v := .bool _) rfl ?_; refine ⟨congrArg Value.bool ?_, E1⟩; rotate_left
  · exact decide_eq_decide.2 ⟨fun h => ⟨by assumption, by omega, by omega⟩, fun h => ⟨h.2.1, by have := h.2.2; omega⟩⟩
  · exact (decide_eq_false (fun ⟨h, _⟩ => by contradiction)).symm

theorem arrowsOf_ok (w : World) (v : Value) (p : List (List Int)) (h : ESl Ints w v p) (z : Int) (hz : 0 ≤ z ∧ z < p.length) (hn : (p.getD z.toNat []).length ≤ 1099511627776) :
    Does Tryd.prog 106 [v, .int .i64 z] w (RetO w XI (ints (arr p z.toNat))) := by
  have hle := h.le
  have hzl : z.toNat < p.length := by omega
  unfold arr
  rw [getD_lt hzl] at hn ⊢
  refine fn_of_W1 Tryd.func106 rfl Tryd.results106 Tryd.ntmps106 rfl ?_
  focus
    refine W_seq ?_; refine W_region rfl ?_; refine Wo rfl (opv_assign (v := .slice _ _ _) rfl) ?_; refine Wo_nil ?_; refine W_seq ?_; refine W_region rfl ?_; refine Wo_lit0 XInt rfl el80 Tryd.sizeOf3 ?_; rintro b1 w1 hb1 b1lt E1 hO1
    have hs1 := E1.size; refine Wo rfl (opv_assign (v := .slice _ _ _) rfl) ?_; refine Wo_nil ?_; refine W_seq ?_; refine W_seq ?_; refine W_region rfl ?_; refine Wo rfl (opv_move (v := v) rfl) ?_
    refine Wo rfl (opv_move (v := .int _ _) rfl) ?_; refine Wo_get_z Tryd.underlying49 Tryd.sizeOf80 Tryd.isAgg80 rfl (fun _ => rfl) rfl h E1 rfl (by first | omega | (simp <;> omega)) ?_; rintro _ u1 hu1
    refine Wo rfl (opv_len Tryd.underlying80 rfl hu1) ?_; refine Wo rfl (opv_move (v := .int _ _) rfl) ?_; refine Wo_nil ?_; refine W_block ?_
  refine W_loop [5, 6, 7, 14, 15, 16, 17, 18, 19, 20, 21, 22, 23, 24, 25] (fun (k, u) => [(14, .int .i64 (k : Nat)), (5, u)]) (fun (k, u) w' => Ext w w' ∧ k ≤ p[z.toNat].length ∧ Owned w.heap.size XI w' u (ints ((List.range k).filter fun j => decide (p[z.toNat].getD j 0 = 1)))) (fun x => p[z.toNat].length - x.1) (0, .slice (some ⟨b1, 0, none⟩) 0 0) (by repeat (first | exact trivial | refine And.intro rfl ?_)) ?_ ?_
  · exact ⟨by assumption, Nat.zero_le _, by simpa [ints] using hO1⟩
  rintro ⟨k, u⟩ ρj w2 ⟨E2, hk, hO2⟩
  have hll : (ints ((List.range k).filter fun j => decide (p[z.toNat].getD j 0 = 1))).length ≤ k := by
    simp only [ints, List.length_map]; exact Nat.le_trans (List.length_filter_le _ _) (by simp)
  have hfs := filter_range_succ (fun j => decide (p[z.toNat].getD j 0 = 1)) k
  focus
    have szE2 := E2.size; have szE1 := E1.size; refine W_seq ?_; refine W_region rfl ?_; refine Wo rfl (opv_lss rfl rfl) ?_; refine Wo_nil ?_; refine W_seq ?_; refine W_cond_dec rfl (fun h1 => ?_) (fun h1 => ?_); refine W_skip ?_
    refine W_seq ?_; refine W_block ?_; refine W_seq ?_; refine W_region rfl ?_; refine Wo rfl (opv_move (v := .int _ _) rfl) ?_
    refine Wo_get Tryd.underlying80 Tryd.sizeOf3 Tryd.isAgg3 rfl (fun _ => rfl) rfl hu1 E2 rfl (by first | omega | (simp <;> omega)) ?_; rintro _ _ rfl; refine Wo rfl (opv_assign (v := .int _ _) rfl) ?_
    refine Wo rfl (opv_assign (v := .int _ _) rfl) ?_; refine Wo_nil ?_; refine W_seq ?_; refine W_region rfl ?_; refine Wo rfl (opv_move (v := .int _ _) rfl) ?_; refine Wo rfl (opv_eql rfl rfl) ?_; refine Wo_nil ?_
    refine W_cond_dec rfl (fun h2 => ?_) (fun h2 => ?_); refine W_region rfl ?_; refine Wo rfl (opv_move (v := u) rfl) ?_; refine Wo rfl (opv_move (v := .int _ _) rfl) ?_
    refine Wo_buildSlice (ps := [(0, .int _ _)]) (cs := [_]) rfl Tryd.underlying80 Tryd.sizeOf3 Tryd.zeroValue3 rfl rfl rfl rfl ?_; rintro b2 w3 hb2 E3 hB1; have hlb2 := hB1.lt; have hs2 := E3.size
    refine Wo_app1 rfl el80 rfl rfl hB1 (hO2.toB.ext E3) Owned.int (Nat.le_refl _) (by first | omega | (simp <;> omega)) (by omega) (by omega) (E2.trans E3) (by omega) ?_; have hT1 := (hO2.toB.ext E3); rintro v1 w4 hO2 E4 M1
    have hB1 := hB1.moves M1 hT1 (by omega); have hs3 := E4.size; refine Wo rfl (opv_assign (v := v1) rfl) ?_; refine Wo_nil ?_; refine W_region rfl ?_; refine Wo rfl (opv_add rfl rfl (by omega)) ?_
    refine Wo rfl (opv_move (v := .int _ _) rfl) ?_; refine Wo_nil ?_; rotate_left; refine W_skip ?_; refine W_region rfl ?_; refine Wo rfl (opv_add rfl rfl (by omega)) ?_; refine Wo rfl (opv_move (v := .int _ _) rfl) ?_
    refine Wo_nil ?_; rotate_left; refine W_exit ?_; refine exitX_same ?_; refine W_seq ?_; refine W_region rfl ?_; refine Wo rfl (opv_move (v := u) rfl) ?_; refine Wo rfl (opv_assign (v := u) rfl) ?_; refine Wo_nil ?_; refine W_ret ?_
    refine ⟨E2, (congrArg (Owned _ _ _ _) ?_).mp (hO2.toB.o.mono (by omega))⟩; rotate_left
  · refine ⟨((k + 1, v1)), by repeat (first | exact trivial | refine And.intro rfl ?_), by repeat (first | with_reducible exact Same.refl | refine Same.upd rfl ?_ | refine Same.upds rfl ?_ | refine Same.mix rfl ?_), ?_, ?_⟩
    · refine ⟨by assumption, by omega, ?_⟩
      rw [hfs, getD_lt (by omega), if_pos (by simpa using by assumption)]
      simpa [ints] using hO2
    · simp only; omega
  · refine ⟨((k + 1, u)), by repeat (first | exact trivial | refine And.intro rfl ?_), by repeat (first | with_reducible exact Same.refl | refine Same.upd rfl ?_ | refine Same.upds rfl ?_ | refine Same.mix rfl ?_), ?_, ?_⟩
    · refine ⟨E2, by omega, ?_⟩
      rw [hfs, getD_lt (by omega), if_neg (by simpa using by assumption)]
      simpa [ints] using hO2
    · simp only; omega
  · obtain rfl : k = p[z.toNat].length := by omega
    rfl

end Go.Proofs.YtgphoihilheoeaaDoor
set_option linter.unusedVariables false
set_option linter.unusedSimpArgs false
namespace Go.Hs

/-- each arrow of a is answered by one of b -/
def mch (p : List (List Int)) (S : Nat → Nat → Bool) (a b : Nat) : Bool := (arr p a).all fun k => (arr p b).any fun j => S k j
/-- not told apart within n rounds -/
def bsm (p : List (List Int)) : Nat → Nat → Nat → Bool
  | 0 => fun _ _ => true
  | n + 1 => fun a b => bsm p n a b && (mch p (bsm p n) a b && mch p (bsm p n) b a)
section
variable {p : List (List Int)} {a b n : Nat}
theorem bsm_sym : ∀ (n a b : Nat), bsm p n a b = bsm p n b a := by
  intro n
  induction n with
  | zero => intro a b; rfl
  | succ n ih =>
    intro a b
    simp only [bsm]
    rw [ih a b, Bool.and_comm (mch p (bsm p n) a b)]
theorem bsm_le (h : bsm p (n + 1) a b = true) : bsm p n a b = true := by
  simp only [bsm, Bool.and_eq_true] at h; exact h.1
theorem all_range_succ (g : Nat → Bool) (k : Nat) : (List.range (k + 1)).all g = ((List.range k).all g && g k) := by rw [List.range_succ, List.all_append]; simp
theorem all_false {P : Nat → Bool} {k n : Nat} (h : k ≤ n) (h2 : (List.range k).all P = false) : (List.range n).all P = false := by
  rw [List.all_eq_false] at *
  obtain ⟨x, hx, hq⟩ := h2
  exact ⟨x, List.mem_range.2 (by have := List.mem_range.1 hx; omega), hq⟩
theorem any_range_succ' (g : Nat → Bool) (k : Nat) : (List.range (k + 1)).any g = ((List.range k).any g || g k) := by rw [List.range_succ, List.any_append]; simp
theorem arr_all (hp : Gr p) {i : Nat} (hi : i < p.length) (g : Nat → Bool) : (arr p i).all g = (List.range p.length).all fun j => !decide (p[i].getD j 0 = 1) || g j := by
  unfold arr arrR
  rw [getD_lt hi, hp.row hi, List.all_filter]
theorem arr_any' (hp : Gr p) {i : Nat} (hi : i < p.length) (g : Nat → Bool) : (arr p i).any g = (List.range p.length).any fun j => decide (p[i].getD j 0 = 1) && g j := by
  unfold arr arrR
  rw [getD_lt hi, hp.row hi, List.any_filter]
theorem Gr.el01 (hp : Gr p) {i j : Nat} (hi : i < p.length) (hj : j < p[i].length) : p[i][j] = 0 ∨ p[i][j] = 1 := (hp.2.2 _ (List.getElem_mem hi)).2 _ (List.getElem_mem hj)
theorem Pic.el01 (hp : Pic p) {i j : Nat} (hi : i < p.length) (hj : j < p[i].length) : p[i][j] = 0 ∨ p[i][j] = 1 := hp.gr.el01 hi hj
def b01 (b : Bool) : Int := if b then 1 else 0
/-- the rows that say who is not told apart -/
def matV (p : List (List Int)) (S : Nat → Nat → Bool) : List (List Int) := (List.range p.length).map fun a => (List.range p.length).map fun b => b01 (S a b)
theorem matV_len (S : Nat → Nat → Bool) : (matV p S).length = p.length := by simp [matV]
theorem matV_row {S : Nat → Nat → Bool} (ha : a < p.length) : (matV p S)[a]'(by rw [matV_len]; exact ha) = (List.range p.length).map fun b => b01 (S a b) := by simp [matV]
theorem matV_rlen {S : Nat → Nat → Bool} (ha : a < p.length) : ((matV p S)[a]'(by rw [matV_len]; exact ha)).length = p.length := by rw [matV_row ha]; simp
theorem b01_one {b : Bool} : b01 b = 1 ↔ b = true := by cases b <;> simp [b01]
theorem matV_at {S : Nat → Nat → Bool} (ha : a < p.length) (hb : b < p.length) : ((matV p S)[a]'(by rw [matV_len]; exact ha))[b]'(by rw [matV_rlen ha]; exact hb) = b01 (S a b) := by
  simp [matV]
theorem matV_zero : List.replicate p.length (List.replicate p.length (1 : Int)) = matV p (bsm p 0) := by
  have hr : ∀ {α : Type} (n : Nat) (x : α), (List.range n).map (fun _ => x) = List.replicate n x := fun n x => by
    rw [List.map_const']; simp
  unfold matV
  simp only [bsm, b01, if_pos, if_true]
  rw [hr, hr]
def leftV (p : List (List Int)) (z : Int) : List (List Int) := if Pic p ∧ 0 ≤ z ∧ z ≤ 30 then matV p (bsm p z.toNat) else []
end
end Go.Hs
namespace Go.Hs
end Go.Hs
namespace Go.Proofs.YtgphoihilheoeaaDoor
open Go.Hs
set_option maxRecDepth 10000
set_option maxHeartbeats 4000000
set_option linter.unusedVariables false
set_option linter.unusedSimpArgs false

theorem l3Matched_ok (w : World) (v v' : Value) (p : List (List Int)) (h : ESl Ints w v p) (hp : Gr p) (S : Nat → Nat → Bool) (h' : ESl Ints w v' (matV p S)) (a b : Nat) (ha : a < p.length) (hb : b < p.length) :
    Does Tryd.prog 171 [v, v', .int .i64 (a : Int), .int .i64 (b : Int)] w (Ret w (.bool (mch p S a b))) := by
  have hp5 := hp.2.1
  have hra := hp.row ha
  have hrb := hp.row hb
  have hml := matV_len (p := p) S
  have hall : mch p S a b = (List.range p.length).all fun j => !decide (p[a].getD j 0 = 1) || (arr p b).any fun j' => S j j' := arr_all hp ha _
  refine fn_of_W1 Tryd.func171 rfl Tryd.results171 Tryd.ntmps171 rfl ?_
  focus
    refine W_seq ?_; refine W_region rfl ?_; refine Wo rfl (opv_assign (v := .bool _) rfl) ?_; refine Wo_nil ?_; refine W_seq ?_; refine W_seq ?_; refine W_region rfl ?_; refine Wo rfl (opv_assign (v := .int _ _) rfl) ?_
    refine Wo_nil ?_; refine W_block ?_
  refine W_loop [8, 9, 10, 11, 12, 13, 14, 15, 16, 17, 18, 19, 20, 21, 22, 23, 24, 25, 26, 27, 28, 29, 30, 31, 32, 33, 34, 35, 36, 37, 38, 39, 40, 41, 42, 43, 44, 45, 46, 47, 48, 49, 50, 51, 52, 53, 54] (fun (k : Nat) => [(9, .int .i64 (k : Nat))]) (fun k w' => Ext w w' ∧ k ≤ p.length ∧ ((List.range k).all fun j => !decide (p[a].getD j 0 = 1) || (arr p b).any fun j' => S j j') = true) (fun x => p.length - x) 0 (by repeat (first | exact trivial | refine And.intro rfl ?_)) ?_ ?_
  · exact ⟨Ext.refl _, Nat.zero_le _, by simp⟩
  rintro k ρj w1 ⟨E1, hk, hg⟩
  by_cases hkl : k < p.length
  · have hga := getD_lt (l := p[a]) (i := k) (d := 0) (by omega)
    have h01 := hp.el01 ha (j := k) (by omega)
    have hsu := all_range_succ (fun j => !decide (p[a].getD j 0 = 1) || (arr p b).any fun j' => S j j') k
    have hany : ((arr p b).any fun j' => S k j') = (List.range p.length).any fun j => decide (p[b].getD j 0 = 1) && S k j := arr_any' hp hb _
    have hmr := matV_rlen (p := p) (S := S) hkl
    rw [hg, Bool.true_and, hga] at hsu
    focus
      have szE1 := E1.size; refine W_seq ?_; refine W_seq ?_; refine W_region rfl ?_; refine Wo rfl (opv_move (v := .int _ _) rfl) ?_; refine Wo rfl (opv_move (v := v) rfl) ?_; refine Wo rfl (opv_len Tryd.underlying49 rfl h) ?_
      refine Wo rfl (opv_lss rfl rfl) ?_; refine Wo_nil ?_; refine W_cond_dec rfl (fun h1 => ?_) (fun h1 => ?_); refine W_skip ?_; refine W_seq ?_; refine W_block ?_; refine W_seq ?_; refine W_seq ?_; refine W_region rfl ?_
      refine Wo rfl (opv_move (v := v) rfl) ?_; refine Wo rfl (opv_move (v := .int _ _) rfl) ?_; refine Wo_get Tryd.underlying49 Tryd.sizeOf80 Tryd.isAgg80 rfl (fun _ => rfl) rfl h E1 rfl (by first | omega | (simp <;> omega)) ?_
      rintro _ u1 hu1; refine Wo rfl (opv_move (v := .int _ _) rfl) ?_; refine Wo_get Tryd.underlying80 Tryd.sizeOf3 Tryd.isAgg3 rfl (fun _ => rfl) rfl hu1 E1 rfl (by first | omega | (simp <;> omega)) ?_; rintro _ _ rfl
      refine Wo rfl (opv_eql rfl rfl) ?_; refine Wo_nil ?_; refine W_cond_dec rfl (fun h2 => ?_) (fun h2 => ?_); refine W_exit ?_; refine exitX_same ?_; refine W_region rfl ?_; refine Wo rfl (opv_move (v := .int _ _) rfl) ?_
      refine Wo rfl (opv_add rfl rfl (by omega)) ?_; refine Wo rfl (opv_assign (v := .int _ _) rfl) ?_; refine Wo_nil ?_; rotate_left; refine W_skip ?_; refine W_seq ?_; refine W_region rfl ?_
      refine Wo rfl (opv_assign (v := .bool _) rfl) ?_; refine Wo_nil ?_; refine W_seq ?_; refine W_seq ?_; refine W_region rfl ?_; refine Wo rfl (opv_assign (v := .int _ _) rfl) ?_; refine Wo_nil ?_; refine W_block ?_; rotate_left
      (exfalso; omega)
    · refine ⟨(k + 1), by repeat (first | exact trivial | refine And.intro rfl ?_), by repeat (first | with_reducible exact Same.refl | refine Same.upd rfl ?_ | refine Same.upds rfl ?_ | refine Same.mix rfl ?_), ?_, ?_⟩
      · refine ⟨E1, by omega, ?_⟩
        rw [hsu, decide_eq_false (by omega)]; rfl
      · omega
    · have h1 : p[a][k] = 1 := by omega
      rw [decide_eq_true h1, Bool.not_true, Bool.false_or, hany] at hsu
      refine W_loop [10, 11, 26, 27, 28, 29, 30, 31, 32, 33, 34, 35, 36, 37, 38, 39, 40, 41, 42, 43, 44, 45, 46, 47, 48, 49, 50, 51, 52] (fun (j, f) => [(10, .bool f), (11, .int .i64 (j : Nat))]) (fun (j, f) w' => Ext w1 w' ∧ j ≤ p.length ∧ f = (List.range j).any fun j => decide (p[b].getD j 0 = 1) && S k j) (fun x => p.length - x.1) (0, false) (by repeat (first | exact trivial | refine And.intro rfl ?_)) ?_ ?_
      · exact ⟨Ext.refl _, Nat.zero_le _, by simp⟩
      rintro ⟨j, f⟩ ρk w2 ⟨E2, hj, hf⟩
      by_cases hjl : j < p.length
      · have hgb := getD_lt (l := p[b]) (i := j) (d := 0) (by omega)
        have hsj := any_range_succ' (fun j => decide (p[b].getD j 0 = 1) && S k j) j
        rw [← hf, hgb] at hsj
        have hme := matV_at (p := p) (S := S) hkl hjl
        cases f with
        | true =>
          focus
            have szE2 := E2.size; have szE1 := E1.size; refine W_seq ?_; refine W_seq ?_; refine W_region rfl ?_; refine Wo rfl (opv_move (v := .int _ _) rfl) ?_; refine Wo rfl (opv_move (v := v) rfl) ?_
            refine Wo rfl (opv_len Tryd.underlying49 rfl h) ?_; refine Wo rfl (opv_lss rfl rfl) ?_; refine Wo_nil ?_; refine W_cond_dec rfl (fun h3 => ?_) (fun h3 => ?_); refine W_skip ?_; refine W_seq ?_; refine W_block ?_
            refine W_region rfl ?_; refine Wo rfl (opv_move (v := .bool _) rfl) ?_; refine Wo rfl (opv_move (v := .bool _) rfl) ?_; refine Wo_skip rfl ?_; refine Wo_skip rfl ?_; refine Wo_skip rfl ?_; refine Wo_skip rfl ?_
            refine Wo_skip rfl ?_; refine Wo_skip rfl ?_; refine Wo_skip rfl ?_; refine Wo_skip rfl ?_; refine Wo_skip rfl ?_; refine Wo_skip rfl ?_; refine Wo_skip rfl ?_; refine Wo_skip rfl ?_; refine Wo_skip rfl ?_; refine Wo_skip rfl ?_
            refine Wo_skip rfl ?_; refine Wo_skip rfl ?_; refine Wo_skip rfl ?_; refine Wo_skip rfl ?_; refine Wo rfl (opv_pick_t (v := .bool _) rfl rfl) ?_; refine Wo rfl (opv_assign (v := .bool _) rfl) ?_; refine Wo_nil ?_
            refine W_region rfl ?_; refine Wo rfl (opv_move (v := .int _ _) rfl) ?_; refine Wo rfl (opv_add rfl rfl (by omega)) ?_; refine Wo rfl (opv_assign (v := .int _ _) rfl) ?_; refine Wo_nil ?_; rotate_left; (exfalso; omega)
          refine ⟨((j + 1, true)), by repeat (first | exact trivial | refine And.intro rfl ?_), by repeat (first | with_reducible exact Same.refl | refine Same.upd rfl ?_ | refine Same.upds rfl ?_ | refine Same.mix rfl ?_), ?_, ?_⟩
          · exact ⟨E2, by omega, by rw [hsj]; rfl⟩
          · simp only; omega
        | false =>
          focus
            have szE2 := E2.size; have szE1 := E1.size; refine W_seq ?_; refine W_seq ?_; refine W_region rfl ?_; refine Wo rfl (opv_move (v := .int _ _) rfl) ?_; refine Wo rfl (opv_move (v := v) rfl) ?_
            refine Wo rfl (opv_len Tryd.underlying49 rfl h) ?_; refine Wo rfl (opv_lss rfl rfl) ?_; refine Wo_nil ?_; refine W_cond_dec rfl (fun h3 => ?_) (fun h3 => ?_); refine W_skip ?_; refine W_seq ?_; refine W_block ?_
            refine W_region rfl ?_; refine Wo rfl (opv_move (v := .bool _) rfl) ?_; refine Wo rfl (opv_move (v := .bool _) rfl) ?_; refine Wo rfl (opv_move (v := v) rfl) ?_; refine Wo rfl (opv_move (v := .int _ _) rfl) ?_
            refine Wo_get Tryd.underlying49 Tryd.sizeOf80 Tryd.isAgg80 rfl (fun _ => rfl) rfl h (E1.trans E2) rfl (by first | omega | (simp <;> omega)) ?_; rintro _ u2 hu2; refine Wo rfl (opv_move (v := .int _ _) rfl) ?_
            refine Wo_get Tryd.underlying80 Tryd.sizeOf3 Tryd.isAgg3 rfl (fun _ => rfl) rfl hu2 (E1.trans E2) rfl (by first | omega | (simp <;> omega)) ?_; rintro _ _ rfl; refine Wo rfl (opv_eql rfl rfl) ?_
            refine Wo_split_dec rfl (opv_move (v := .bool _) rfl) (fun h4 => ?_) (fun h4 => ?_); refine Wo rfl (opv_move (v := v') rfl) ?_; refine Wo rfl (opv_move (v := .int _ _) rfl) ?_
            refine Wo_get Tryd.underlying49 Tryd.sizeOf80 Tryd.isAgg80 rfl (fun _ => rfl) rfl h' (E1.trans E2) rfl (by first | omega | (simp <;> omega)) ?_; rintro _ u3 hu3; refine Wo rfl (opv_move (v := .int _ _) rfl) ?_
            refine Wo_get Tryd.underlying80 Tryd.sizeOf3 Tryd.isAgg3 rfl (fun _ => rfl) rfl hu3 (E1.trans E2) rfl (by first | omega | (simp <;> omega)) ?_; rintro _ _ rfl; refine Wo rfl (opv_eql rfl rfl) ?_
            refine Wo rfl (opv_pick_t (v := .bool _) rfl rfl) ?_; refine Wo rfl (opv_pick_f (v := .bool _) rfl rfl) ?_; refine Wo rfl (opv_assign (v := .bool _) rfl) ?_; refine Wo_nil ?_; refine W_region rfl ?_
            refine Wo rfl (opv_move (v := .int _ _) rfl) ?_; refine Wo rfl (opv_add rfl rfl (by omega)) ?_; refine Wo rfl (opv_assign (v := .int _ _) rfl) ?_; refine Wo_nil ?_; rotate_left; refine Wo_skip rfl ?_; refine Wo_skip rfl ?_
            refine Wo_skip rfl ?_; refine Wo_skip rfl ?_; refine Wo_skip rfl ?_; refine Wo_skip rfl ?_; refine Wo_skip rfl ?_; refine Wo_skip rfl ?_; refine Wo rfl (opv_pick_f (v := .bool _) rfl rfl) ?_
            refine Wo rfl (opv_pick_f (v := .bool _) rfl rfl) ?_; refine Wo rfl (opv_assign (v := .bool _) rfl) ?_; refine Wo_nil ?_; refine W_region rfl ?_; refine Wo rfl (opv_move (v := .int _ _) rfl) ?_
            refine Wo rfl (opv_add rfl rfl (by omega)) ?_; refine Wo rfl (opv_assign (v := .int _ _) rfl) ?_; refine Wo_nil ?_; rotate_left; (exfalso; omega)
          · refine ⟨((j + 1, decide (((matV p S)[k]'(by omega))[j]'(by omega) = 1))), by repeat (first | exact trivial | refine And.intro rfl ?_), by repeat (first | with_reducible exact Same.refl | refine Same.upd rfl ?_ | refine Same.upds rfl ?_ | refine Same.mix rfl ?_), ?_, ?_⟩
            · refine ⟨E2, by omega, ?_⟩
              rw [hsj, show decide (p[b][j] = 1) = true from decide_eq_true (by assumption), hme]
              cases S k j <;> rfl
            · simp only; omega
          · refine ⟨((j + 1, false)), by repeat (first | exact trivial | refine And.intro rfl ?_), by repeat (first | with_reducible exact Same.refl | refine Same.upd rfl ?_ | refine Same.upds rfl ?_ | refine Same.mix rfl ?_), ?_, ?_⟩
            · refine ⟨E2, by omega, ?_⟩
              rw [hsj, decide_eq_false (by assumption)]; rfl
            · simp only; omega
      · obtain rfl : j = p.length := by omega
        rw [← hf] at hsu
        focus
          have szE2 := E2.size; have szE1 := E1.size; refine W_seq ?_; refine W_seq ?_; refine W_region rfl ?_; refine Wo rfl (opv_move (v := .int _ _) rfl) ?_; refine Wo rfl (opv_move (v := v) rfl) ?_
          refine Wo rfl (opv_len Tryd.underlying49 rfl h) ?_; refine Wo rfl (opv_lss rfl rfl) ?_; refine Wo_nil ?_; refine W_cond_dec rfl (fun h3 => ?_) (fun h3 => ?_); (exfalso; omega); refine W_exit ?_; refine exitX_same ?_; refine W_seq ?_
          refine W_region rfl ?_; refine Wo rfl (opv_move (v := .bool _) rfl) ?_; refine Wo rfl (opv_not rfl) ?_; refine Wo_nil ?_; refine W_cond rfl (fun h4 => ?_) (fun h4 => ?_); refine W_seq ?_; refine W_region rfl ?_
          refine Wo rfl (opv_assign (v := .bool _) rfl) ?_; refine Wo_nil ?_; refine W_ret ?_; refine at_ret (v := .bool _) rfl ?_; refine ⟨congrArg Value.bool ?_, (E1.trans E2)⟩; rotate_left; refine W_skip ?_; refine W_region rfl ?_
          refine Wo rfl (opv_move (v := .int _ _) rfl) ?_; refine Wo rfl (opv_add rfl rfl (by omega)) ?_; refine Wo rfl (opv_assign (v := .int _ _) rfl) ?_; refine Wo_nil ?_; rotate_left
        · have hf0 : f = false := by cases f with
            | false => rfl
            | true => exact absurd (show (!true) = true by assumption) (by decide)
          rw [hall, all_false (show k + 1 ≤ p.length by omega) (hsu.trans hf0)]
        · have hf1 : f = true := by cases f with
            | true => rfl
            | false => exact absurd (show (!false) = false by assumption) (by decide)
          refine ⟨(k + 1), by repeat (first | exact trivial | refine And.intro rfl ?_), by repeat (first | with_reducible exact Same.refl | refine Same.upd rfl ?_ | refine Same.upds rfl ?_ | refine Same.mix rfl ?_), ?_, ?_⟩
          · exact ⟨E1.trans E2, by omega, by rw [hsu, hf1]⟩
          · omega
  · obtain rfl : k = p.length := by omega
    focus
      have szE1 := E1.size; refine W_seq ?_; refine W_seq ?_; refine W_region rfl ?_; refine Wo rfl (opv_move (v := .int _ _) rfl) ?_; refine Wo rfl (opv_move (v := v) rfl) ?_; refine Wo rfl (opv_len Tryd.underlying49 rfl h) ?_
      refine Wo rfl (opv_lss rfl rfl) ?_; refine Wo_nil ?_; refine W_cond_dec rfl (fun h1 => ?_) (fun h1 => ?_); (exfalso; omega); refine W_exit ?_; refine exitX_same ?_; refine W_seq ?_; refine W_region rfl ?_
      refine Wo rfl (opv_assign (v := .bool _) rfl) ?_; refine Wo_nil ?_; refine W_ret ?_; refine at_ret (v := .bool _) rfl ?_; refine ⟨congrArg Value.bool ?_, E1⟩
    rw [hall, hg]

theorem l3Start_ok (w : World) (n : Nat) (hn : n ≤ 11) : Does Tryd.prog 151 [.int .i64 (n : Int)] w (RetO w XR (List.replicate n (List.replicate n 1))) := by
  refine fn_of_W1 Tryd.func151 rfl Tryd.results151 Tryd.ntmps151 rfl ?_
  focus
    refine W_seq ?_; refine W_region rfl ?_; refine Wo rfl (opv_assign (v := .slice _ _ _) rfl) ?_; refine Wo_nil ?_; refine W_seq ?_; refine W_region rfl ?_; refine Wo_lit0 (XSl 3 XInt) rfl el49 Tryd.sizeOf80 ?_
    rintro b1 w1 hb1 b1lt E1 hO1; have hs1 := E1.size; refine Wo rfl (opv_assign (v := .slice _ _ _) rfl) ?_; refine Wo_nil ?_; refine W_seq ?_; refine W_seq ?_; refine W_region rfl ?_; refine Wo rfl (opv_assign (v := .int _ _) rfl) ?_
    refine Wo_nil ?_; refine W_block ?_
  refine W_loop [3, 4, 5, 6, 8, 9, 10, 11, 12, 13, 14, 15, 16, 17, 18, 19, 20, 21, 22, 23, 24, 25] (fun (k, u) => [(4, .int .i64 (k : Nat)), (3, u)]) (fun (k, u) w' => Ext w w' ∧ k ≤ n ∧ Owned w.heap.size XR w' u (List.replicate k (List.replicate n 1))) (fun x => n - x.1) (0, .slice (some ⟨b1, 0, none⟩) 0 0) (by repeat (first | exact trivial | refine And.intro rfl ?_)) ?_ ?_
  · exact ⟨by assumption, Nat.zero_le _, by simpa using hO1⟩
  rintro ⟨k, u⟩ ρj w2 ⟨E2, hk, hO2⟩
  by_cases hkl : k < n
  · focus
      have szE2 := E2.size; have szE1 := E1.size; refine W_seq ?_; refine W_seq ?_; refine W_region rfl ?_; refine Wo rfl (opv_move (v := .int _ _) rfl) ?_; refine Wo rfl (opv_move (v := .int _ _) rfl) ?_
      refine Wo rfl (opv_lss rfl rfl) ?_; refine Wo_nil ?_; refine W_cond_dec rfl (fun h1 => ?_) (fun h1 => ?_); refine W_skip ?_; refine W_seq ?_; refine W_block ?_; refine W_seq ?_; refine W_region rfl ?_
      refine Wo_lit0 XInt rfl el80 Tryd.sizeOf3 ?_; rintro b2 w3 hb2 b2lt E3 hO3; have hs2 := E3.size; refine Wo rfl (opv_assign (v := .slice _ _ _) rfl) ?_; refine Wo_nil ?_; refine W_seq ?_; refine W_seq ?_; refine W_region rfl ?_
      refine Wo rfl (opv_assign (v := .int _ _) rfl) ?_; refine Wo_nil ?_; refine W_block ?_; rotate_left; (exfalso; omega)
    refine W_loop [5, 6, 14, 15, 16, 17, 18, 19, 20, 21] (fun (j, r) => [(6, .int .i64 (j : Nat)), (5, r)]) (fun (j, r) w' => Ext w w' ∧ w2.heap.size ≤ w'.heap.size ∧ j ≤ n ∧ OwnedB w.heap.size w2.heap.size XR w' u (List.replicate k (List.replicate n 1)) ∧ Owned w2.heap.size XI w' r (List.replicate j 1)) (fun x => n - x.1) (0, .slice (some ⟨b2, 0, none⟩) 0 0) (by repeat (first | exact trivial | refine And.intro rfl ?_)) ?_ ?_
    · exact ⟨E2.trans E3, E3.size, Nat.zero_le _, hO2.toB.ext E3, by simpa using hO3⟩
    rintro ⟨j, r⟩ ρk w4 ⟨E4, hsz4, hj, hB4, hO4⟩
    have hrl : (List.replicate j (1 : Int)).length = j := by simp
    have hrl2 : (List.replicate k (List.replicate n (1 : Int))).length = k := by simp
    by_cases hjl : j < n
    · focus
        have szE4 := E4.size; have szE3 := E3.size; have szE2 := E2.size; have szE1 := E1.size; refine W_seq ?_; refine W_seq ?_; refine W_region rfl ?_; refine Wo rfl (opv_move (v := .int _ _) rfl) ?_
        refine Wo rfl (opv_move (v := .int _ _) rfl) ?_; refine Wo rfl (opv_lss rfl rfl) ?_; refine Wo_nil ?_; refine W_cond_dec rfl (fun h2 => ?_) (fun h2 => ?_); refine W_skip ?_; refine W_seq ?_; refine W_block ?_; refine W_region rfl ?_
        refine Wo rfl (opv_move (v := r) rfl) ?_; refine Wo_buildSlice (ps := [(0, .int _ _)]) (cs := [_]) rfl Tryd.underlying80 Tryd.sizeOf3 Tryd.zeroValue3 rfl rfl rfl rfl ?_; rintro b3 w5 hb3 E5 hB1; have hlb3 := hB1.lt
        have hs3 := E5.size; refine Wo_app1 rfl el80 rfl rfl hB1 (hO4.toB.ext E5) Owned.int (Nat.le_refl _) (by first | omega | (simp <;> omega)) (by omega) (by omega) (E4.trans E5) (by omega) ?_; have hT1 := (hO4.toB.ext E5)
        rintro v1 w6 hO4 E6 M1; have hB4 := (hB4.ext E5).moves M1 hT1 (by omega); have hB1 := hB1.moves M1 hT1 (by omega); have hs4 := E6.size; refine Wo rfl (opv_assign (v := v1) rfl) ?_; refine Wo_nil ?_; refine W_region rfl ?_
        refine Wo rfl (opv_move (v := .int _ _) rfl) ?_; refine Wo rfl (opv_add rfl rfl (by omega)) ?_; refine Wo rfl (opv_assign (v := .int _ _) rfl) ?_; refine Wo_nil ?_; rotate_left; (exfalso; omega)
      refine ⟨((j + 1, v1)), by repeat (first | exact trivial | refine And.intro rfl ?_), by repeat (first | with_reducible exact Same.refl | refine Same.upd rfl ?_ | refine Same.upds rfl ?_ | refine Same.mix rfl ?_), ?_, ?_⟩
      · refine ⟨by assumption, by have := M1.1.size; omega, by omega, by assumption, ?_⟩
        rw [List.replicate_succ']; assumption
      · simp only; omega
    · obtain rfl : j = n := by omega
      obtain ⟨rb, rc, rfl, _⟩ := hO4.lit (by simp; omega)
      have hrb := hO4.lt_own (k := rb) rfl
      focus
        have szE4 := E4.size; have szE3 := E3.size; have szE2 := E2.size; have szE1 := E1.size; refine W_seq ?_; refine W_seq ?_; refine W_region rfl ?_; refine Wo rfl (opv_move (v := .int _ _) rfl) ?_
        refine Wo rfl (opv_move (v := .int _ _) rfl) ?_; refine Wo rfl (opv_lss rfl rfl) ?_; refine Wo_nil ?_; refine W_cond_dec rfl (fun h2 => ?_) (fun h2 => ?_); (exfalso; omega); refine W_exit ?_; refine exitX_same ?_
        refine W_region rfl ?_; refine Wo rfl (opv_move (v := u) rfl) ?_; refine Wo rfl (opv_move (v := .slice _ _ _) rfl) ?_
        refine Wo_buildSlice (ps := [(0, .slice _ _ _)]) (cs := [_]) rfl Tryd.underlying49 Tryd.sizeOf80 Tryd.zeroValue80 rfl rfl rfl rfl ?_; rintro b3 w5 hb3 E5 hB1; have hlb3 := hB1.lt; have hs3 := E5.size
        refine Wo_app1 rfl el49 rfl rfl hB1 (hB4.ext E5) (hO4.toB.ext E5).o (by omega) (by first | omega | (simp <;> omega)) (by omega) (by omega) (E4.trans E5) (by omega) ?_; have hT1 := (hB4.ext E5); rintro v1 w6 hB4 E6 M1
        have hO4 := (hO4.toB.ext E5).moves M1 hT1 (by omega); have hB1 := hB1.moves M1 hT1 (by omega); have hs4 := E6.size; refine Wo rfl (opv_assign (v := v1) rfl) ?_; refine Wo_nil ?_; refine W_region rfl ?_
        refine Wo rfl (opv_move (v := .int _ _) rfl) ?_; refine Wo rfl (opv_add rfl rfl (by omega)) ?_; refine Wo rfl (opv_assign (v := .int _ _) rfl) ?_; refine Wo_nil ?_
      refine ⟨((k + 1, v1)), by repeat (first | exact trivial | refine And.intro rfl ?_), by repeat (first | with_reducible exact Same.refl | refine Same.upd rfl ?_ | refine Same.upds rfl ?_ | refine Same.mix rfl ?_), ?_, ?_⟩
      · refine ⟨by assumption, by omega, ?_⟩
        rw [List.replicate_succ']; assumption
      · simp only; omega
  · obtain rfl : k = n := by omega
    focus
      have szE2 := E2.size; have szE1 := E1.size; refine W_seq ?_; refine W_seq ?_; refine W_region rfl ?_; refine Wo rfl (opv_move (v := .int _ _) rfl) ?_; refine Wo rfl (opv_move (v := .int _ _) rfl) ?_
      refine Wo rfl (opv_lss rfl rfl) ?_; refine Wo_nil ?_; refine W_cond_dec rfl (fun h1 => ?_) (fun h1 => ?_); (exfalso; omega); refine W_exit ?_; refine exitX_same ?_; refine W_seq ?_; refine W_region rfl ?_
      refine Wo rfl (opv_move (v := u) rfl) ?_; refine Wo rfl (opv_assign (v := u) rfl) ?_; refine Wo_nil ?_; refine W_ret ?_; exact ⟨E2, hO2.toB.o.mono (by omega)⟩

def rnd (p : List (List Int)) (S : Nat → Nat → Bool) (a b : Nat) : Bool := S a b && (mch p S a b && mch p S b a)
def bits01 (R : Nat → Nat → Bool) (a n : Nat) : List Int := (List.range n).map fun b => b01 (R a b)
theorem bits01_succ (R : Nat → Nat → Bool) (a n : Nat) : bits01 R a (n + 1) = bits01 R a n ++ [b01 (R a n)] := by simp [bits01, List.range_succ]
theorem bits01_len (R : Nat → Nat → Bool) (a n : Nat) : (bits01 R a n).length = n := by simp [bits01]
def mat01 (R : Nat → Nat → Bool) (k n : Nat) : List (List Int) := (List.range k).map fun a => bits01 R a n
theorem mat01_succ (R : Nat → Nat → Bool) (k n : Nat) : mat01 R (k + 1) n = mat01 R k n ++ [bits01 R k n] := by simp [mat01, List.range_succ]
theorem mat01_len (R : Nat → Nat → Bool) (k n : Nat) : (mat01 R k n).length = k := by simp [mat01]
theorem l3Round_ok (w : World) (v v' : Value) (p : List (List Int)) (h : ESl Ints w v p) (hp : Gr p) (S : Nat → Nat → Bool) (h' : ESl Ints w v' (matV p S)) :
    Does Tryd.prog 152 [v, v'] w (RetO w XR (matV p (rnd p S))) := by
  have hp5 := hp.2.1
  have hle := h.le
  have hml := matV_len (p := p) S
  refine fn_of_W1 Tryd.func152 rfl Tryd.results152 Tryd.ntmps152 rfl ?_
  focus
    refine W_seq ?_; refine W_region rfl ?_; refine Wo rfl (opv_assign (v := .slice _ _ _) rfl) ?_; refine Wo_nil ?_; refine W_seq ?_; refine W_region rfl ?_; refine Wo_lit0 (XSl 3 XInt) rfl el49 Tryd.sizeOf80 ?_
    rintro b1 w1 hb1 b1lt E1 hO1; have hs1 := E1.size; refine Wo rfl (opv_assign (v := .slice _ _ _) rfl) ?_; refine Wo_nil ?_; refine W_seq ?_; refine W_seq ?_; refine W_region rfl ?_; refine Wo rfl (opv_assign (v := .int _ _) rfl) ?_
    refine Wo_nil ?_; refine W_block ?_
  refine W_loop [5, 6, 7, 8, 9, 11, 12, 13, 14, 15, 16, 17, 18, 19, 20, 21, 22, 23, 24, 25, 26, 27, 28, 29, 30, 31, 32, 33, 34, 35, 36, 37, 38, 39, 40, 41, 42, 43, 44, 45, 46, 47, 48, 49, 50, 51, 52, 53] (fun (k, u) => [(6, .int .i64 (k : Nat)), (5, u)]) (fun (k, u) w' => Ext w w' ∧ k ≤ p.length ∧ Owned w.heap.size XR w' u (mat01 (rnd p S) k p.length)) (fun x => p.length - x.1) (0, .slice (some ⟨b1, 0, none⟩) 0 0) (by repeat (first | exact trivial | refine And.intro rfl ?_)) ?_ ?_
  · exact ⟨by assumption, Nat.zero_le _, by simpa [mat01] using hO1⟩
  rintro ⟨k, u⟩ ρj w2 ⟨E2, hk, hO2⟩
  by_cases hkl : k < p.length
  · focus
      have szE2 := E2.size; have szE1 := E1.size; refine W_seq ?_; refine W_seq ?_; refine W_region rfl ?_; refine Wo rfl (opv_move (v := .int _ _) rfl) ?_; refine Wo rfl (opv_move (v := v) rfl) ?_
      refine Wo rfl (opv_len Tryd.underlying49 rfl h) ?_; refine Wo rfl (opv_lss rfl rfl) ?_; refine Wo_nil ?_; refine W_cond_dec rfl (fun h1 => ?_) (fun h1 => ?_); refine W_skip ?_; refine W_seq ?_; refine W_block ?_; refine W_seq ?_
      refine W_region rfl ?_; refine Wo_lit0 XInt rfl el80 Tryd.sizeOf3 ?_; rintro b2 w3 hb2 b2lt E3 hO3; have hs2 := E3.size; refine Wo rfl (opv_assign (v := .slice _ _ _) rfl) ?_; refine Wo_nil ?_; refine W_seq ?_; refine W_seq ?_
      refine W_region rfl ?_; refine Wo rfl (opv_assign (v := .int _ _) rfl) ?_; refine Wo_nil ?_; refine W_block ?_; rotate_left; (exfalso; omega)
    refine W_loop [7, 8, 9, 18, 19, 20, 21, 22, 23, 24, 25, 26, 27, 28, 29, 30, 31, 32, 33, 34, 35, 36, 37, 38, 39, 40, 41, 42, 43, 44, 45, 46, 47, 48, 49] (fun (j, r) => [(8, .int .i64 (j : Nat)), (7, r)]) (fun (j, r) w' => Ext w w' ∧ w2.heap.size ≤ w'.heap.size ∧ j ≤ p.length ∧ OwnedB w.heap.size w2.heap.size XR w' u (mat01 (rnd p S) k p.length) ∧ Owned w2.heap.size XI w' r (bits01 (rnd p S) k j)) (fun x => p.length - x.1) (0, .slice (some ⟨b2, 0, none⟩) 0 0) (by repeat (first | exact trivial | refine And.intro rfl ?_)) ?_ ?_
    · exact ⟨E2.trans E3, E3.size, Nat.zero_le _, hO2.toB.ext E3, by simpa [bits01] using hO3⟩
    rintro ⟨j, r⟩ ρk w4 ⟨E4, hsz4, hj, hB4, hO4⟩
    have hrl := bits01_len (rnd p S) k j
    have hrl2 := mat01_len (rnd p S) k p.length
    by_cases hjl : j < p.length
    · have hmr := matV_rlen (p := p) (S := S) hkl
      have hme := matV_at (p := p) (S := S) hkl hjl
      have hsu := bits01_succ (rnd p S) k j
      have m1 : ∀ (w : World) (v v' : Value), ESl Ints w v p → ESl Ints w v' (matV p S) → Does Tryd.prog 171 [v, v', .int .i64 (k : Int), .int .i64 (j : Int)] w (Ret w (.bool (mch p S k j))) := fun w v v' h1 h2 => l3Matched_ok w v v' p h1 hp S h2 k j hkl hjl
      have m2 : ∀ (w : World) (v v' : Value), ESl Ints w v p → ESl Ints w v' (matV p S) → Does Tryd.prog 171 [v, v', .int .i64 (j : Int), .int .i64 (k : Int)] w (Ret w (.bool (mch p S j k))) := fun w v v' h1 h2 => l3Matched_ok w v v' p h1 hp S h2 j k hjl hkl
      have fin : ∀ x : Int, x = b01 (rnd p S k j) → bits01 (rnd p S) k (j + 1) = bits01 (rnd p S) k j ++ [x] := fun x hx => by rw [hx]; exact hsu
      focus
        have szE4 := E4.size; have szE3 := E3.size; have szE2 := E2.size; have szE1 := E1.size; refine W_seq ?_; refine W_seq ?_; refine W_region rfl ?_; refine Wo rfl (opv_move (v := .int _ _) rfl) ?_
        refine Wo rfl (opv_move (v := v) rfl) ?_; refine Wo rfl (opv_len Tryd.underlying49 rfl h) ?_; refine Wo rfl (opv_lss rfl rfl) ?_; refine Wo_nil ?_; refine W_cond_dec rfl (fun h2 => ?_) (fun h2 => ?_); refine W_skip ?_
        refine W_seq ?_; refine W_block ?_; refine W_seq ?_; refine W_region rfl ?_; refine Wo rfl (opv_assign (v := .int _ _) rfl) ?_; refine Wo_nil ?_; refine W_seq ?_; refine W_seq ?_; refine W_region rfl ?_
        refine Wo rfl (opv_move (v := v') rfl) ?_; refine Wo rfl (opv_move (v := .int _ _) rfl) ?_; refine Wo_get Tryd.underlying49 Tryd.sizeOf80 Tryd.isAgg80 rfl (fun _ => rfl) rfl h' E4 rfl (by first | omega | (simp <;> omega)) ?_
        rintro _ u1 hu1; refine Wo rfl (opv_move (v := .int _ _) rfl) ?_; refine Wo_get Tryd.underlying80 Tryd.sizeOf3 Tryd.isAgg3 rfl (fun _ => rfl) rfl hu1 E4 rfl (by first | omega | (simp <;> omega)) ?_; rintro _ _ rfl
        refine Wo rfl (opv_eql rfl rfl) ?_; refine Wo_split_dec rfl (opv_move (v := .bool _) rfl) (fun h3 => ?_) (fun h3 => ?_); refine Wo rfl (opv_move (v := v) rfl) ?_; refine Wo rfl (opv_move (v := v') rfl) ?_
        refine Wo rfl (opv_move (v := .int _ _) rfl) ?_; refine Wo rfl (opv_move (v := .int _ _) rfl) ?_
        refine Wo_call rfl (opc4 (a := v) (b := v') (c := .int _ _) (d := .int _ _) Tryd.call171 rfl rfl rfl rfl) (m1 _ _ _ ((Mono.mono E4 h)) ((Mono.mono E4 h'))) ?_; rintro _ w5 ⟨rfl, E5⟩; have hs3 := E5.size
        refine Wo rfl (opv_pick_t (v := .bool _) rfl rfl) ?_; refine Wo_split rfl (opv_move (v := .bool _) rfl) (fun h4 => ?_) (fun h4 => ?_); refine Wo rfl (opv_move (v := v) rfl) ?_; refine Wo rfl (opv_move (v := v') rfl) ?_
        refine Wo rfl (opv_move (v := .int _ _) rfl) ?_; refine Wo rfl (opv_move (v := .int _ _) rfl) ?_
        refine Wo_call rfl (opc4 (a := v) (b := v') (c := .int _ _) (d := .int _ _) Tryd.call171 rfl rfl rfl rfl) (m2 _ _ _ ((Mono.mono (E4.trans E5) h)) ((Mono.mono (E4.trans E5) h'))) ?_; rintro _ w6 ⟨rfl, E6⟩; have hs4 := E6.size
        refine Wo rfl (opv_pick_t (v := .bool _) rfl rfl) ?_; refine Wo_nil ?_; refine W_cond rfl (fun h5 => ?_) (fun h5 => ?_); refine W_region rfl ?_; refine Wo rfl (opv_assign (v := .int _ _) rfl) ?_; refine Wo_nil ?_
        refine W_region rfl ?_; refine Wo rfl (opv_move (v := r) rfl) ?_; refine Wo rfl (opv_move (v := .int _ _) rfl) ?_
        refine Wo_buildSlice (ps := [(0, .int _ _)]) (cs := [_]) rfl Tryd.underlying80 Tryd.sizeOf3 Tryd.zeroValue3 rfl rfl rfl rfl ?_; rintro b3 w7 hb3 E7 hB1; have hlb3 := hB1.lt; have hs5 := E7.size
        refine Wo_app1 rfl el80 rfl rfl hB1 (hO4.toB.ext ((E5.trans E6).trans E7)) Owned.int (Nat.le_refl _) (by first | omega | (simp <;> omega)) (by omega) (by omega) (((E4.trans E5).trans E6).trans E7) (by omega) ?_
        have hT1 := (hO4.toB.ext ((E5.trans E6).trans E7)); rintro v1 w8 hO4 E8 M1; have hB4 := (hB4.ext ((E5.trans E6).trans E7)).moves M1 hT1 (by omega); have hB1 := hB1.moves M1 hT1 (by omega); have hs6 := E8.size
        refine Wo rfl (opv_assign (v := v1) rfl) ?_; refine Wo_nil ?_; refine W_region rfl ?_; refine Wo rfl (opv_move (v := .int _ _) rfl) ?_; refine Wo rfl (opv_add rfl rfl (by omega)) ?_; refine Wo rfl (opv_assign (v := .int _ _) rfl) ?_
        refine Wo_nil ?_; rotate_left; refine W_skip ?_; refine W_region rfl ?_; refine Wo rfl (opv_move (v := r) rfl) ?_; refine Wo rfl (opv_move (v := .int _ _) rfl) ?_
        refine Wo_buildSlice (ps := [(0, .int _ _)]) (cs := [_]) rfl Tryd.underlying80 Tryd.sizeOf3 Tryd.zeroValue3 rfl rfl rfl rfl ?_; rintro b3 w7 hb3 E7 hB1; have hlb3 := hB1.lt; have hs5 := E7.size
        refine Wo_app1 rfl el80 rfl rfl hB1 (hO4.toB.ext ((E5.trans E6).trans E7)) Owned.int (Nat.le_refl _) (by first | omega | (simp <;> omega)) (by omega) (by omega) (((E4.trans E5).trans E6).trans E7) (by omega) ?_
        have hT1 := (hO4.toB.ext ((E5.trans E6).trans E7)); rintro v1 w8 hO4 E8 M1; have hB4 := (hB4.ext ((E5.trans E6).trans E7)).moves M1 hT1 (by omega); have hB1 := hB1.moves M1 hT1 (by omega); have hs6 := E8.size
        refine Wo rfl (opv_assign (v := v1) rfl) ?_; refine Wo_nil ?_; refine W_region rfl ?_; refine Wo rfl (opv_move (v := .int _ _) rfl) ?_; refine Wo rfl (opv_add rfl rfl (by omega)) ?_; refine Wo rfl (opv_assign (v := .int _ _) rfl) ?_
        refine Wo_nil ?_; rotate_left; refine Wo_skip rfl ?_; refine Wo_skip rfl ?_; refine Wo_skip rfl ?_; refine Wo_skip rfl ?_; refine Wo_skip rfl ?_; refine Wo rfl (opv_pick_f (v := .bool _) rfl rfl) ?_; refine Wo_nil ?_
        refine W_cond_false rfl ?_; refine W_skip ?_; refine W_region rfl ?_; refine Wo rfl (opv_move (v := r) rfl) ?_; refine Wo rfl (opv_move (v := .int _ _) rfl) ?_
        refine Wo_buildSlice (ps := [(0, .int _ _)]) (cs := [_]) rfl Tryd.underlying80 Tryd.sizeOf3 Tryd.zeroValue3 rfl rfl rfl rfl ?_; rintro b3 w6 hb3 E6 hB1; have hlb3 := hB1.lt; have hs4 := E6.size
        refine Wo_app1 rfl el80 rfl rfl hB1 (hO4.toB.ext (E5.trans E6)) Owned.int (Nat.le_refl _) (by first | omega | (simp <;> omega)) (by omega) (by omega) ((E4.trans E5).trans E6) (by omega) ?_; have hT1 := (hO4.toB.ext (E5.trans E6))
        rintro v1 w7 hO4 E7 M1; have hB4 := (hB4.ext (E5.trans E6)).moves M1 hT1 (by omega); have hB1 := hB1.moves M1 hT1 (by omega); have hs5 := E7.size; refine Wo rfl (opv_assign (v := v1) rfl) ?_; refine Wo_nil ?_; refine W_region rfl ?_
        refine Wo rfl (opv_move (v := .int _ _) rfl) ?_; refine Wo rfl (opv_add rfl rfl (by omega)) ?_; refine Wo rfl (opv_assign (v := .int _ _) rfl) ?_; refine Wo_nil ?_; rotate_left; refine Wo_skip rfl ?_; refine Wo_skip rfl ?_
        refine Wo_skip rfl ?_; refine Wo_skip rfl ?_; refine Wo_skip rfl ?_; refine Wo rfl (opv_pick_f (v := .bool _) rfl rfl) ?_; refine Wo rfl (opv_move (v := .bool _) rfl) ?_; refine Wo_skip rfl ?_; refine Wo_skip rfl ?_
        refine Wo_skip rfl ?_; refine Wo_skip rfl ?_; refine Wo_skip rfl ?_; refine Wo rfl (opv_pick_f (v := .bool _) rfl rfl) ?_; refine Wo_nil ?_; refine W_cond_false rfl ?_; refine W_skip ?_; refine W_region rfl ?_
        refine Wo rfl (opv_move (v := r) rfl) ?_; refine Wo rfl (opv_move (v := .int _ _) rfl) ?_; refine Wo_buildSlice (ps := [(0, .int _ _)]) (cs := [_]) rfl Tryd.underlying80 Tryd.sizeOf3 Tryd.zeroValue3 rfl rfl rfl rfl ?_
        rintro b3 w5 hb3 E5 hB1; have hlb3 := hB1.lt; have hs3 := E5.size
        refine Wo_app1 rfl el80 rfl rfl hB1 (hO4.toB.ext E5) Owned.int (Nat.le_refl _) (by first | omega | (simp <;> omega)) (by omega) (by omega) (E4.trans E5) (by omega) ?_; have hT1 := (hO4.toB.ext E5); rintro v1 w6 hO4 E6 M1
        have hB4 := (hB4.ext E5).moves M1 hT1 (by omega); have hB1 := hB1.moves M1 hT1 (by omega); have hs4 := E6.size; refine Wo rfl (opv_assign (v := v1) rfl) ?_; refine Wo_nil ?_; refine W_region rfl ?_
        refine Wo rfl (opv_move (v := .int _ _) rfl) ?_; refine Wo rfl (opv_add rfl rfl (by omega)) ?_; refine Wo rfl (opv_assign (v := .int _ _) rfl) ?_; refine Wo_nil ?_; rotate_left; (exfalso; omega)
      · have hx : (1 : Int) = b01 (rnd p S k j) := by
          unfold rnd
          rw [show S k j = true from b01_one.1 (hme.symm.trans (by assumption)), show mch p S k j = true by assumption, show mch p S j k = true by assumption]; rfl
        refine ⟨((j + 1, v1)), by repeat (first | exact trivial | refine And.intro rfl ?_), by repeat (first | with_reducible exact Same.refl | refine Same.upd rfl ?_ | refine Same.upds rfl ?_ | refine Same.mix rfl ?_), ?_, ?_⟩
        · refine ⟨by assumption, by have := M1.1.size; omega, by omega, by assumption, ?_⟩
          rw [fin _ hx]; assumption
        · simp only; omega
      · have hx : (0 : Int) = b01 (rnd p S k j) := by
          unfold rnd
          rw [show S k j = true from b01_one.1 (hme.symm.trans (by assumption)), show mch p S k j = true by assumption, show mch p S j k = false by assumption]; rfl
        refine ⟨((j + 1, v1)), by repeat (first | exact trivial | refine And.intro rfl ?_), by repeat (first | with_reducible exact Same.refl | refine Same.upd rfl ?_ | refine Same.upds rfl ?_ | refine Same.mix rfl ?_), ?_, ?_⟩
        · refine ⟨by assumption, by have := M1.1.size; omega, by omega, by assumption, ?_⟩
          rw [fin _ hx]; assumption
        · simp only; omega
      · have hx : (0 : Int) = b01 (rnd p S k j) := by
          unfold rnd
          rw [show S k j = true from b01_one.1 (hme.symm.trans (by assumption)), show mch p S k j = false by assumption]; rfl
        refine ⟨((j + 1, v1)), by repeat (first | exact trivial | refine And.intro rfl ?_), by repeat (first | with_reducible exact Same.refl | refine Same.upd rfl ?_ | refine Same.upds rfl ?_ | refine Same.mix rfl ?_), ?_, ?_⟩
        · refine ⟨by assumption, by have := M1.1.size; omega, by omega, by assumption, ?_⟩
          rw [fin _ hx]; assumption
        · simp only; omega
      · have hx : (0 : Int) = b01 (rnd p S k j) := by
          unfold rnd
          have hS : S k j = false := by
            cases hs : S k j with
            | false => rfl
            | true => rw [hs] at hme; exact absurd hme (by assumption)
          rw [hS]; rfl
        refine ⟨((j + 1, v1)), by repeat (first | exact trivial | refine And.intro rfl ?_), by repeat (first | with_reducible exact Same.refl | refine Same.upd rfl ?_ | refine Same.upds rfl ?_ | refine Same.mix rfl ?_), ?_, ?_⟩
        · refine ⟨by assumption, by have := M1.1.size; omega, by omega, by assumption, ?_⟩
          rw [fin _ hx]; assumption
        · simp only; omega
    · obtain rfl : j = p.length := by omega
      obtain ⟨rb, rc, rfl, _⟩ := hO4.lit (by rw [bits01_len]; omega)
      have hrb := hO4.lt_own (k := rb) rfl
      rw [bits01_len] at *
      focus
        have szE4 := E4.size; have szE3 := E3.size; have szE2 := E2.size; have szE1 := E1.size; refine W_seq ?_; refine W_seq ?_; refine W_region rfl ?_; refine Wo rfl (opv_move (v := .int _ _) rfl) ?_
        refine Wo rfl (opv_move (v := v) rfl) ?_; refine Wo rfl (opv_len Tryd.underlying49 rfl h) ?_; refine Wo rfl (opv_lss rfl rfl) ?_; refine Wo_nil ?_; refine W_cond_dec rfl (fun h2 => ?_) (fun h2 => ?_); (exfalso; omega)
        refine W_exit ?_; refine exitX_same ?_; refine W_region rfl ?_; refine Wo rfl (opv_move (v := u) rfl) ?_; refine Wo rfl (opv_move (v := .slice _ _ _) rfl) ?_
        refine Wo_buildSlice (ps := [(0, .slice _ _ _)]) (cs := [_]) rfl Tryd.underlying49 Tryd.sizeOf80 Tryd.zeroValue80 rfl rfl rfl rfl ?_; rintro b3 w5 hb3 E5 hB1; have hlb3 := hB1.lt; have hs3 := E5.size
        refine Wo_app1 rfl el49 rfl rfl hB1 (hB4.ext E5) (hO4.toB.ext E5).o (by omega) (by first | omega | (simp <;> omega)) (by omega) (by omega) (E4.trans E5) (by omega) ?_; have hT1 := (hB4.ext E5); rintro v1 w6 hB4 E6 M1
        have hO4 := (hO4.toB.ext E5).moves M1 hT1 (by omega); have hB1 := hB1.moves M1 hT1 (by omega); have hs4 := E6.size; refine Wo rfl (opv_assign (v := v1) rfl) ?_; refine Wo_nil ?_; refine W_region rfl ?_
        refine Wo rfl (opv_move (v := .int _ _) rfl) ?_; refine Wo rfl (opv_add rfl rfl (by omega)) ?_; refine Wo rfl (opv_assign (v := .int _ _) rfl) ?_; refine Wo_nil ?_
      refine ⟨((k + 1, v1)), by repeat (first | exact trivial | refine And.intro rfl ?_), by repeat (first | with_reducible exact Same.refl | refine Same.upd rfl ?_ | refine Same.upds rfl ?_ | refine Same.mix rfl ?_), ?_, ?_⟩
      · exact ⟨by assumption, by omega, by rw [mat01_succ]; assumption⟩
      · simp only; omega
  · obtain rfl : k = p.length := by omega
    focus
      have szE2 := E2.size; have szE1 := E1.size; refine W_seq ?_; refine W_seq ?_; refine W_region rfl ?_; refine Wo rfl (opv_move (v := .int _ _) rfl) ?_; refine Wo rfl (opv_move (v := v) rfl) ?_
      refine Wo rfl (opv_len Tryd.underlying49 rfl h) ?_; refine Wo rfl (opv_lss rfl rfl) ?_; refine Wo_nil ?_; refine W_cond_dec rfl (fun h1 => ?_) (fun h1 => ?_); (exfalso; omega); refine W_exit ?_; refine exitX_same ?_; refine W_seq ?_
      refine W_region rfl ?_; refine Wo rfl (opv_move (v := u) rfl) ?_; refine Wo rfl (opv_assign (v := u) rfl) ?_; refine Wo_nil ?_; refine W_ret ?_; exact ⟨E2, hO2.toB.o.mono (by omega)⟩

end Go.Proofs.YtgphoihilheoeaaDoor
namespace Go.Proofs.YtgphoihilheoeaaDoor
open Go.Hs
set_option maxRecDepth 10000
set_option maxHeartbeats 4000000
set_option linter.unusedVariables false
set_option linter.unusedSimpArgs false

theorem LeftAfter_ok (w : World) (v : Value) (p : List (List Int)) (h : ESl Ints w v p) (z : Int) : Does Tryd.prog 137 [v, .int .i64 z] w (RetO w XR (leftV p z)) := by
  have hle := h.le
  by_cases hp : Pic p
  · have hpic : ∀ (w : World) (pv : Value), ESl Ints w pv p → Does Tryd.prog 70 [pv] w (Ret w (.bool true)) := fun w pv h => by
      have := PictureOk_ok w pv p h
      rw [decide_eq_true hp] at this; exact this
    have hp5 := hp.2.1
    by_cases hz : 0 ≤ z ∧ z ≤ 30
    · have hV : leftV p z = matV p (bsm p z.toNat) := if_pos ⟨hp, hz⟩
      rw [hV]
      have hst : ∀ w, Does Tryd.prog 151 [.int .i64 (p.length : Int)] w (RetO w XR (matV p (bsm p 0))) := fun w => by
        have := l3Start_ok w p.length (by omega)
        rw [matV_zero] at this; exact this
      refine fn_of_W1 Tryd.func137 rfl Tryd.results137 Tryd.ntmps137 rfl ?_
      focus
        refine W_seq ?_; refine W_region rfl ?_; refine Wo rfl (opv_assign (v := .slice _ _ _) rfl) ?_; refine Wo_nil ?_; refine W_seq ?_; refine W_seq ?_; refine W_region rfl ?_; refine Wo rfl (opv_move (v := v) rfl) ?_
        refine Wo_call rfl (opc1 (a := v) Tryd.call70 rfl) (hpic _ _ (h)) ?_; rintro _ w1 ⟨rfl, E1⟩; have hs1 := E1.size; refine Wo rfl (opv_not rfl) ?_; refine Wo_split rfl (opv_move (v := .bool _) rfl) (fun h1 => ?_) (fun h1 => ?_)
        contradiction; refine Wo rfl (opv_move (v := .int _ _) rfl) ?_; refine Wo_call rfl (opc3 (a := .int _ _) (b := .int _ _) (c := .int _ _) Tryd.call42 rfl rfl rfl) (l1In_ok _ _ _ _) ?_; rintro _ w2 ⟨rfl, E2⟩; have hs2 := E2.size
        refine Wo rfl (opv_not rfl) ?_; refine Wo rfl (opv_pick_f (v := .bool _) rfl rfl) ?_; refine Wo_nil ?_; refine W_cond_ndec rfl (fun h2 => ?_) (fun h2 => ?_); contradiction; refine W_skip ?_; refine W_seq ?_; refine W_region rfl ?_
        refine Wo rfl (opv_move (v := v) rfl) ?_; refine Wo rfl (opv_len Tryd.underlying49 rfl h) ?_; refine Wo_call rfl (opc1 (a := .int _ _) Tryd.call151 rfl) (hst _) ?_; rintro u1 w3 ⟨E3, hO1⟩; have hs3 := E3.size
        refine Wo rfl (opv_assign (v := u1) rfl) ?_; refine Wo_nil ?_; refine W_seq ?_; refine W_seq ?_; refine W_region rfl ?_; refine Wo rfl (opv_assign (v := .int _ _) rfl) ?_; refine Wo_nil ?_; refine W_block ?_
      refine W_loop [5, 6, 19, 20, 21, 22, 23, 24, 25, 26] (fun (m, u) => [(6, .int .i64 (m : Nat)), (5, u)]) (fun (m, u) w' => Ext w w' ∧ m ≤ z.toNat ∧ Owned w.heap.size XR w' u (matV p (bsm p m))) (fun x => z.toNat - x.1) (0, u1) (by repeat (first | exact trivial | refine And.intro rfl ?_)) ?_ ?_
      · exact ⟨(E1.trans E2).trans E3, Nat.zero_le _, hO1.mono (by omega)⟩
      rintro ⟨m, u⟩ ρj w9 ⟨E9, hm, hO9⟩
      by_cases hmz : m < z.toNat
      · have hrn : ∀ (w : World) (v v' : Value), ESl Ints w v p → ESl Ints w v' (matV p (bsm p m)) → Does Tryd.prog 152 [v, v'] w (RetO w XR (matV p (bsm p (m + 1)))) := fun w v v' h1 h2 => l3Round_ok w v v' p h1 hp (bsm p m) h2
        focus
          have szE9 := E9.size; have szE3 := E3.size; have szE2 := E2.size; have szE1 := E1.size; refine W_seq ?_; refine W_seq ?_; refine W_region rfl ?_; refine Wo rfl (opv_move (v := .int _ _) rfl) ?_
          refine Wo rfl (opv_move (v := .int _ _) rfl) ?_; refine Wo rfl (opv_lss rfl rfl) ?_; refine Wo_nil ?_; refine W_cond_dec rfl (fun h3 => ?_) (fun h3 => ?_); refine W_skip ?_; refine W_seq ?_; refine W_block ?_; refine W_region rfl ?_
          refine Wo rfl (opv_move (v := v) rfl) ?_; refine Wo rfl (opv_move (v := u) rfl) ?_; refine Wo_call rfl (opc2 (a := v) (b := u) Tryd.call152 rfl rfl) (hrn _ _ _ ((Mono.mono E9 h)) ((Owned.read hO9))) ?_; rintro u2 w4 ⟨E4, hO2⟩
          have hs4 := E4.size; refine Wo rfl (opv_assign (v := u2) rfl) ?_; refine Wo_nil ?_; refine W_region rfl ?_; refine Wo rfl (opv_move (v := .int _ _) rfl) ?_; refine Wo rfl (opv_add rfl rfl (by omega)) ?_
          refine Wo rfl (opv_assign (v := .int _ _) rfl) ?_; refine Wo_nil ?_; rotate_left; (exfalso; omega)
        refine ⟨((m + 1, u2)), by repeat (first | exact trivial | refine And.intro rfl ?_), by repeat (first | with_reducible exact Same.refl | refine Same.upd rfl ?_ | refine Same.upds rfl ?_ | refine Same.mix rfl ?_), ?_, ?_⟩
        · exact ⟨E9.trans E4, by omega, hO2.mono (by omega)⟩
        · simp only; omega
      · obtain rfl : m = z.toNat := by omega
        focus
          have szE9 := E9.size; have szE3 := E3.size; have szE2 := E2.size; have szE1 := E1.size; refine W_seq ?_; refine W_seq ?_; refine W_region rfl ?_; refine Wo rfl (opv_move (v := .int _ _) rfl) ?_
          refine Wo rfl (opv_move (v := .int _ _) rfl) ?_; refine Wo rfl (opv_lss rfl rfl) ?_; refine Wo_nil ?_; refine W_cond_dec rfl (fun h3 => ?_) (fun h3 => ?_); (exfalso; omega); refine W_exit ?_; refine exitX_same ?_; refine W_seq ?_
          refine W_region rfl ?_; refine Wo rfl (opv_move (v := u) rfl) ?_; refine Wo rfl (opv_assign (v := u) rfl) ?_; refine Wo_nil ?_; refine W_ret ?_; exact ⟨E9, hO9.toB.o.mono (by omega)⟩
    · have hV : leftV p z = [] := if_neg (fun h => hz h.2)
      rw [hV]
      refine fn_of_W1 Tryd.func137 rfl Tryd.results137 Tryd.ntmps137 rfl ?_
      focus
        refine W_seq ?_; refine W_region rfl ?_; refine Wo rfl (opv_assign (v := .slice _ _ _) rfl) ?_; refine Wo_nil ?_; refine W_seq ?_; refine W_seq ?_; refine W_region rfl ?_; refine Wo rfl (opv_move (v := v) rfl) ?_
        refine Wo_call rfl (opc1 (a := v) Tryd.call70 rfl) (hpic _ _ (h)) ?_; rintro _ w1 ⟨rfl, E1⟩; have hs1 := E1.size; refine Wo rfl (opv_not rfl) ?_; refine Wo_split rfl (opv_move (v := .bool _) rfl) (fun h1 => ?_) (fun h1 => ?_)
        contradiction; refine Wo rfl (opv_move (v := .int _ _) rfl) ?_; refine Wo_call rfl (opc3 (a := .int _ _) (b := .int _ _) (c := .int _ _) Tryd.call42 rfl rfl rfl) (l1In_ok _ _ _ _) ?_; rintro _ w2 ⟨rfl, E2⟩; have hs2 := E2.size
        refine Wo rfl (opv_not rfl) ?_; refine Wo rfl (opv_pick_f (v := .bool _) rfl rfl) ?_; refine Wo_nil ?_; refine W_cond_ndec rfl (fun h2 => ?_) (fun h2 => ?_); refine W_seq ?_; refine W_region rfl ?_
        refine Wo_lit0 (XSl 3 XInt) rfl el49 Tryd.sizeOf80 ?_; rintro b1 w3 hb1 b1lt E3 hO1; have hs3 := E3.size; refine Wo rfl (opv_assign (v := .slice _ _ _) rfl) ?_; refine Wo_nil ?_; refine W_ret ?_
        exact ⟨((E1.trans E2).trans E3), hO1.toB.o.mono (by omega)⟩; contradiction
  · have hpic : ∀ (w : World) (pv : Value), ESl Ints w pv p → Does Tryd.prog 70 [pv] w (Ret w (.bool false)) := fun w pv h => by
      have := PictureOk_ok w pv p h
      rw [decide_eq_false hp] at this; exact this
    have hV : leftV p z = [] := if_neg (fun h => hp h.1)
    rw [hV]
    refine fn_of_W1 Tryd.func137 rfl Tryd.results137 Tryd.ntmps137 rfl ?_
    focus
      refine W_seq ?_; refine W_region rfl ?_; refine Wo rfl (opv_assign (v := .slice _ _ _) rfl) ?_; refine Wo_nil ?_; refine W_seq ?_; refine W_seq ?_; refine W_region rfl ?_; refine Wo rfl (opv_move (v := v) rfl) ?_
      refine Wo_call rfl (opc1 (a := v) Tryd.call70 rfl) (hpic _ _ (h)) ?_; rintro _ w1 ⟨rfl, E1⟩; have hs1 := E1.size; refine Wo rfl (opv_not rfl) ?_; refine Wo_split rfl (opv_move (v := .bool _) rfl) (fun h1 => ?_) (fun h1 => ?_)
      refine Wo_skip rfl ?_; refine Wo_skip rfl ?_; refine Wo_skip rfl ?_; refine Wo rfl (opv_pick_t (v := .bool _) rfl rfl) ?_; refine Wo_nil ?_; refine W_cond_true rfl ?_; refine W_seq ?_; refine W_region rfl ?_
      refine Wo_lit0 (XSl 3 XInt) rfl el49 Tryd.sizeOf80 ?_; rintro b1 w2 hb1 b1lt E2 hO1; have hs2 := E2.size; refine Wo rfl (opv_assign (v := .slice _ _ _) rfl) ?_; refine Wo_nil ?_; refine W_ret ?_
      exact ⟨(E1.trans E2), hO1.toB.o.mono (by omega)⟩; contradiction

theorem SameRows_ok (w : World) (v : Value) (p : List (List Int)) (h : ESl Ints w v p) : Does Tryd.prog 119 [v] w (RetO w XR (leftV p p.length)) := by
  have hle := h.le
  refine fn_of_W1 Tryd.func119 rfl Tryd.results119 Tryd.ntmps119 rfl ?_
  focus
    refine W_seq ?_; refine W_region rfl ?_; refine Wo rfl (opv_assign (v := .slice _ _ _) rfl) ?_; refine Wo_nil ?_; refine W_seq ?_; refine W_region rfl ?_; refine Wo rfl (opv_move (v := v) rfl) ?_
    refine Wo rfl (opv_move (v := v) rfl) ?_; refine Wo rfl (opv_len Tryd.underlying49 rfl h) ?_; refine Wo_call rfl (opc2 (a := v) (b := .int _ _) Tryd.call137 rfl rfl) (LeftAfter_ok _ _ _ (h) _) ?_; rintro u1 w1 ⟨E1, hO1⟩
    have hs1 := E1.size; refine Wo rfl (opv_assign (v := u1) rfl) ?_; refine Wo_nil ?_; refine W_ret ?_; exact ⟨E1, hO1.toB.o.mono (by omega)⟩

end Go.Proofs.YtgphoihilheoeaaDoor
namespace Go.Proofs.YtgphoihilheoeaaDoor
open Go.Hs
set_option maxRecDepth 10000
set_option maxHeartbeats 4000000
set_option linter.unusedVariables false
set_option linter.unusedSimpArgs false

theorem emptyPicture_ok (w : World) (n : Nat) (hn : n ≤ 1048576) : Does Tryd.prog 93 [.int .i64 (n : Int)] w (RetO w XR (List.replicate n (List.replicate n 0))) := by
  refine fn_of_W1 Tryd.func93 rfl Tryd.results93 Tryd.ntmps93 rfl ?_
  focus
    refine W_seq ?_; refine W_region rfl ?_; refine Wo rfl (opv_assign (v := .slice _ _ _) rfl) ?_; refine Wo_nil ?_; refine W_seq ?_; refine W_region rfl ?_; refine Wo_lit0 (XSl 3 XInt) rfl el49 Tryd.sizeOf80 ?_
    rintro b1 w1 hb1 b1lt E1 hO1; have hs1 := E1.size; refine Wo rfl (opv_assign (v := .slice _ _ _) rfl) ?_; refine Wo_nil ?_; refine W_seq ?_; refine W_seq ?_; refine W_region rfl ?_; refine Wo rfl (opv_move (v := .int _ _) rfl) ?_
    refine Wo rfl (opv_move (v := .int _ _) rfl) ?_; refine Wo_nil ?_; refine W_block ?_
  refine W_loop [3, 6, 7, 8, 9, 10, 11, 12, 13] (fun (k, u) => [(6, .int .i64 (k : Nat)), (3, u)]) (fun (k, u) w' => Ext w w' ∧ k ≤ n ∧ Owned w.heap.size XR w' u (List.replicate k (List.replicate n 0))) (fun x => n - x.1) (0, .slice (some ⟨b1, 0, none⟩) 0 0) (by repeat (first | exact trivial | refine And.intro rfl ?_)) ?_ ?_
  · exact ⟨by assumption, Nat.zero_le _, by simpa using hO1⟩
  rintro ⟨k, u⟩ ρj w2 ⟨E2, hk, hO2⟩
  focus
    have szE2 := E2.size; have szE1 := E1.size; refine W_seq ?_; refine W_region rfl ?_; refine Wo rfl (opv_lss rfl rfl) ?_; refine Wo_nil ?_; refine W_seq ?_; refine W_cond_dec rfl (fun h1 => ?_) (fun h1 => ?_); refine W_skip ?_
    refine W_seq ?_; refine W_block ?_; refine W_region rfl ?_; refine Wo rfl (opv_move (v := u) rfl) ?_; refine Wo rfl (opv_move (v := .int _ _) rfl) ?_; refine Wo_makeI rfl el80 rfl (by omega) ?_; rintro b2 w3 hb2 b2lt E3 hO3
    have hs2 := E3.size; refine Wo_buildSlice (ps := [(0, .slice _ _ _)]) (cs := [_]) rfl Tryd.underlying49 Tryd.sizeOf80 Tryd.zeroValue80 rfl rfl rfl rfl ?_; rintro b3 w4 hb3 E4 hB1; have hlb3 := hB1.lt; have hs3 := E4.size
    refine Wo_app1 rfl el49 rfl rfl hB1 (hO2.toB.ext (E3.trans E4)) (hO3.toB.ext E4).o (by omega) (by first | omega | (simp <;> omega)) (by omega) (by omega) ((E2.trans E3).trans E4) (by omega) ?_
    have hT1 := (hO2.toB.ext (E3.trans E4)); rintro v1 w5 hO2 E5 M1; have hO3 := (hO3.toB.ext E4).moves M1 hT1 (by omega); have hB1 := hB1.moves M1 hT1 (by omega); have hs4 := E5.size; refine Wo rfl (opv_assign (v := v1) rfl) ?_
    refine Wo_nil ?_; refine W_region rfl ?_; refine Wo rfl (opv_add rfl rfl (by omega)) ?_; refine Wo rfl (opv_move (v := .int _ _) rfl) ?_; refine Wo_nil ?_; rotate_left; refine W_exit ?_; refine exitX_same ?_; refine W_seq ?_
    refine W_region rfl ?_; refine Wo rfl (opv_move (v := u) rfl) ?_; refine Wo rfl (opv_assign (v := u) rfl) ?_; refine Wo_nil ?_; refine W_ret ?_; refine ⟨E2, (congrArg (Owned _ _ _ _) ?_).mp (hO2.toB.o.mono (by omega))⟩; rotate_left
  · refine ⟨((k + 1, v1)), by repeat (first | exact trivial | refine And.intro rfl ?_), by repeat (first | with_reducible exact Same.refl | refine Same.upd rfl ?_ | refine Same.upds rfl ?_ | refine Same.mix rfl ?_), ?_, ?_⟩
    · refine ⟨by assumption, by omega, ?_⟩
      rw [List.replicate_succ']; exact hO2
    · simp only; omega
  · obtain rfl : k = n := by omega
    rfl

end Go.Proofs.YtgphoihilheoeaaDoor
namespace Go.Proofs.YtgphoihilheoeaaDoor
open Go.Hs
set_option maxRecDepth 10000
set_option maxHeartbeats 4000000
set_option linter.unusedVariables false
set_option linter.unusedSimpArgs false
end Go.Proofs.YtgphoihilheoeaaDoor
set_option linter.unusedVariables false
set_option linter.unusedSimpArgs false
namespace Go.Hs
section
variable {P : Program} {n : Nat} {N : Env → World → Prop} {ρ : Env} {w w0 : World} {all : Array Oper} {rest : List Oper}
  {d : Nat} {ty t el : TypeId} {pos : String} {after : Array Edge} {g : Option (Nat × Bool)} {x y : Operand} {v : Value} {zs cs : List Value} {ps : List (Nat × Value)} {b i : Nat}

theorem Wo_buildSliceH {k : Nat} {parts : Array (Nat × Operand)} {z : Value} (hw : wantedE all ⟨some d, .buildSlice t k parts, ty, pos, after, g⟩ ρ = true) (ht : P.underlying t = some (.slice el)) (hs : ∀ w, (sizeOf el).run P w = .ok 1 w)
    (hz : ∀ w, (zeroValue el).run P w = .ok z w) (h1 : isCell z = true) (hb : (Nat.ble 1 k && Nat.ble k 1000) = true) (hp : parts.toList.map (fun p => (p.1, evalE ρ p.2)) = ps) (hc : fillF (List.replicate k z) ps = some cs)
    (hk : ∀ b w1, w.heap.size ≤ b → Ext w w1 → Blk w1 b cs → w1.heap[b]? = some (.cells cs.toArray el (0, 0)) → Wops P n all rest N (upd ρ d (.slice (some ⟨b, 0, none⟩) k k)) w1) :
    Wops P n all (⟨some d, .buildSlice t k parts, ty, pos, after, g⟩ :: rest) N ρ w := by
  have hb' : 1 ≤ k ∧ k ≤ 1000 := by simpa using hb
  have e : (Array.map (fun x => match x with | (i, x) => (i, evalE ρ x)) parts).toList = ps := by rw [← hp]; simp
  have hr : (Array.map (fun i => (#[z] : Array Value)[i % (#[z] : Array Value).size]!) (Array.range k)) = (List.replicate k z).toArray := by
    apply Array.ext'
    simp only [Array.toList_map, Array.toList_range]
    apply List.ext_getElem
    · simp
    · intro i h1 h2; simp [Nat.mod_one]
  have hf := fill_eq (k := k) (place := fun i => some (i * 1, 1)) (fun i hi => by simp) ps (List.replicate k z) cs (by simp) hc
  have hz0 : z.cells = #[z] := isCell_cells h1
  refine Wo_w hw (show OpW P (.buildSlice t k parts) ty ρ w (.slice (some ⟨w.heap.size, 0, none⟩) k k) (w.alloc (.cells cs.toArray el)) from ?_) (hk _ _ (Nat.le_refl _) ((Ext.refl w).alloc _) (Blk.new w cs el) (heap_alloc_new w _))
  simp only [OpW, execOp, Instr.buildSlice, Sem.run_bind, Result.andThen_ok, run_und ht, hs, Nat.mul_one]
  rw [if_neg (by omega), if_neg (by omega)]
  simp only [Sem.run_bind, hz, Result.andThen_ok, Sem.run_pure, hz0, e]
  rw [hr]
  simp only [Nat.mul_one] at hf
  rw [hf]
  simp [newRow]
end
end Go.Hs
namespace Go.Proofs.YtgphoihilheoeaaDoor
open Go.Hs
set_option maxRecDepth 10000
set_option maxHeartbeats 4000000
set_option linter.unusedVariables false
set_option linter.unusedSimpArgs false

end Go.Proofs.YtgphoihilheoeaaDoor
set_option linter.unusedVariables false
namespace Go.Hs
open Classical

inductive Rch (p : List (List Int)) : Nat → Nat → Prop
  | refl (i : Nat) : Rch p i i
  | step {i k j : Nat} : Rch p i k → j ∈ arr p k → Rch p i j

section
variable {p : List (List Int)} {i j k n : Nat}
theorem Rch.trans (h : Rch p i k) (h2 : Rch p k j) : Rch p i j := by
  induction h2 with
  | refl => exact h
  | step _ hj ih => exact ih.step hj
theorem Rch.head (h : k ∈ arr p i) (h2 : Rch p k j) : Rch p i j := ((Rch.refl i).step h).trans h2
theorem Rch.lt (hp : Gr p) (hi : i < p.length) (h : Rch p i j) : j < p.length := by
  induction h with
  | refl => exact hi
  | step h hj ih => exact ((mem_arr hp ih).1 hj).1

/-- how many below n -/
noncomputable def cnt (P : Nat → Prop) : Nat → Nat
  | 0 => 0
  | n + 1 => cnt P n + if P n then 1 else 0
theorem cnt_le (P : Nat → Prop) (n : Nat) : cnt P n ≤ n := by
  induction n with
  | zero => exact Nat.le_refl _
  | succ n ih => simp only [cnt]; split <;> omega
theorem cnt_mono {P Q : Nat → Prop} (h : ∀ j, j < n → P j → Q j) : cnt P n ≤ cnt Q n := by
  induction n with
  | zero => exact Nat.le_refl _
  | succ n ih =>
    have := ih fun j hj => h j (by omega)
    have h2 := h n (by omega)
    simp only [cnt]
    split <;> split <;> first | omega | (exfalso; simp_all)
theorem cnt_lt {P Q : Nat → Prop} (h : ∀ j, j < n → P j → Q j) (hk : k < n) (h1 : Q k) (h2 : ¬ P k) : cnt P n < cnt Q n := by
  induction n with
  | zero => omega
  | succ n ih =>
    simp only [cnt]
    by_cases e : k = n
    · subst e
      have := cnt_mono (n := k) fun j hj => h j (by omega)
      rw [if_neg h2, if_pos h1]; omega
    · have := ih (fun j hj => h j (by omega)) (by omega)
      have h3 := h n (by omega)
      split <;> split <;> first | omega | (exfalso; simp_all)
theorem cnt_pos {P : Nat → Prop} (hk : k < n) (h1 : P k) : 1 ≤ cnt P n := by
  have := cnt_lt (n := n) (P := fun _ => False) (Q := P) (fun _ _ h => h.elim) hk h1 id
  omega

/-- what is reached within r steps -/
def st (p : List (List Int)) (i : Nat) : Nat → Nat → Prop
  | 0, j => j = i
  | r + 1, j => st p i r j ∨ ∃ k, st p i r k ∧ j ∈ arr p k
theorem st_rch {r : Nat} (h : st p i r j) : Rch p i j := by
  induction r generalizing j with
  | zero => cases h; exact .refl _
  | succ r ih =>
    rcases h with h | ⟨k, h1, h2⟩
    · exact ih h
    · exact (ih h1).step h2
theorem st_self (r : Nat) : st p i r i := by
  induction r with
  | zero => rfl
  | succ r ih => exact .inl ih
theorem st_stable (hp : Gr p) (hi : i < p.length) (r : Nat) : (∀ j, st p i (r + 1) j → st p i r j) ∨ r + 1 ≤ cnt (st p i r) p.length := by
  induction r with
  | zero => exact .inr (cnt_pos hi rfl)
  | succ r ih =>
    by_cases hs : ∀ j, st p i (r + 1) j → st p i r j
    · left
      intro j hj
      rcases hj with h | ⟨k, h1, h2⟩
      · exact h
      · exact .inr ⟨k, hs k h1, h2⟩
    · right
      rcases ih with h | h
      · exact absurd h hs
      · obtain ⟨k, hk⟩ := Classical.not_forall.1 hs
        obtain ⟨hk1, hk2⟩ := Classical.not_imp.1 hk
        have := cnt_lt (P := st p i r) (Q := st p i (r + 1)) (fun j _ h => .inl h) ((st_rch hk1).lt hp hi) hk1 hk2
        omega
theorem rch_st (hp : Gr p) (hi : i < p.length) (h : Rch p i j) : st p i p.length j := by
  have hs : ∀ j, st p i (p.length + 1) j → st p i p.length j := by
    rcases st_stable hp hi p.length with h | h
    · exact h
    · have := cnt_le (st p i p.length) p.length; omega
  induction h with
  | refl => exact st_self _
  | step h hj ih => exact hs _ (.inr ⟨_, ih, hj⟩)

/-- what i reaches, in order -/
noncomputable def rch (p : List (List Int)) (i j : Nat) : Bool := decide (Rch p i j)
theorem rch_iff : rch p i j = true ↔ Rch p i j := decide_eq_true_iff
noncomputable def rf (p : List (List Int)) (i : Nat) : List Nat := (List.range p.length).filter (rch p i)
theorem mem_rf (hp : Gr p) (hi : i < p.length) : j ∈ rf p i ↔ Rch p i j := by
  simp only [rf, List.mem_filter, List.mem_range, rch_iff]
  exact ⟨fun h => h.2, fun h => ⟨h.lt hp hi, h⟩⟩
theorem rf_len : (rf p i).length ≤ p.length := Nat.le_trans (List.length_filter_le _ _) (by simp)
theorem ints_get {l : List Nat} {k : Nat} (h : k < l.length) : (ints l)[k]'(by rw [ints_len]; exact h) = ((l[k] : Nat) : Int) := by simp [ints]
theorem range_filter_pw (f : Nat → Bool) (n : Nat) : ((List.range n).filter f).Pairwise (· < ·) := List.pairwise_lt_range.filter f
theorem pw_nodup {l : List Nat} (h : l.Pairwise (· < ·)) : l.Nodup := h.imp (fun h => by omega)
theorem nodup_len {l : List Nat} (hn : l.Nodup) (hl : ∀ j ∈ l, j < n) : l.length ≤ n := by
  have h := List.Nodup.length_le_of_subset hn (l₂ := List.range n) (fun j hj => List.mem_range.2 (hl j hj))
  simpa using h
end
end Go.Hs
namespace Go.Proofs.YtgphoihilheoeaaDoor
open Go.Hs
set_option maxRecDepth 10000
set_option maxHeartbeats 4000000
set_option linter.unusedVariables false
set_option linter.unusedSimpArgs false

def Tryd.laysSort_ren : Go.Shelf.Ren := ⟨fun | 189 => 121 | 125 => 140 | 257 => 139 | 128 => 165 | 129 => 144 | 294 => 156 | 295 => 157 | 296 => 158 | 297 => 159 | 298 => 160 | 299 => 161 | 216 => 162 | 300 => 163 | 301 => 164 | 328 => 173 | 329 => 174 | 330 => 175 | 331 => 176 | 332 => 177 | 215 => 178 | 343 => 179 | n => n, fun | 28 => 80 | 3 => 3 | 46 => 109 | 0 => 0 | 51 => 128 | 53 => 122 | 4 => 4 | 183 => 147 | 182 => 146 | 131 => 151 | 5 => 5 | 9 => 9 | 218 => 158 | 222 => 162 | 228 => 170 | 229 => 171 | n => n, fun | n => n⟩
theorem Tryd.laysSort : Go.Proofs.Lays.n189 Tryd.prog Tryd.laysSort_ren := {
  mixed := by kernel_rfl
  f125 := Tryd.func140.trans (congrArg some (by kernel_rfl))
  f128 := Tryd.func165.trans (congrArg some (by kernel_rfl))
  f129 := Tryd.func144.trans (congrArg some (by kernel_rfl))
  f189 := Tryd.func121.trans (congrArg some (by kernel_rfl))
  f215 := Tryd.func178.trans (congrArg some (by kernel_rfl))
  f216 := Tryd.func162.trans (congrArg some (by kernel_rfl))
  f257 := Tryd.func139.trans (congrArg some (by kernel_rfl))
  f294 := Tryd.func156.trans (congrArg some (by kernel_rfl))
  f295 := Tryd.func157.trans (congrArg some (by kernel_rfl))
  f296 := Tryd.func158.trans (congrArg some (by kernel_rfl))
  f297 := Tryd.func159.trans (congrArg some (by kernel_rfl))
  f298 := Tryd.func160.trans (congrArg some (by kernel_rfl))
  f299 := Tryd.func161.trans (congrArg some (by kernel_rfl))
  f300 := Tryd.func163.trans (congrArg some (by kernel_rfl))
  f301 := Tryd.func164.trans (congrArg some (by kernel_rfl))
  f328 := Tryd.func173.trans (congrArg some (by kernel_rfl))
  f329 := Tryd.func174.trans (congrArg some (by kernel_rfl))
  f330 := Tryd.func175.trans (congrArg some (by kernel_rfl))
  f331 := Tryd.func176.trans (congrArg some (by kernel_rfl))
  f332 := Tryd.func177.trans (congrArg some (by kernel_rfl))
  f343 := Tryd.func179.trans (congrArg some (by kernel_rfl))
  t0 := Tryd.underlying0
  a0 := Tryd.isAgg0
  z0 := Tryd.sizeOf0
  v0 := Tryd.zeroValue0
  t3 := Tryd.underlying3
  a3 := Tryd.isAgg3
  z3 := Tryd.sizeOf3
  v3 := Tryd.zeroValue3
  t4 := Tryd.underlying4
  a4 := Tryd.isAgg4
  z4 := Tryd.sizeOf4
  v4 := Tryd.zeroValue4
  t5 := Tryd.underlying5
  a5 := Tryd.isAgg5
  z5 := Tryd.sizeOf5
  v5 := Tryd.zeroValue5
  t9 := Tryd.underlying9
  a9 := Tryd.isAgg9
  z9 := Tryd.sizeOf9
  v9 := Tryd.zeroValue9
  t28 := Tryd.underlying80
  a28 := Tryd.isAgg80
  z28 := Tryd.sizeOf80
  v28 := Tryd.zeroValue80
  t46 := Tryd.underlying109
  a46 := Tryd.isAgg109
  z46 := Tryd.sizeOf109
  v46 := Tryd.zeroValue109
  t51 := Tryd.underlying128
  a51 := Tryd.isAgg128
  z51 := Tryd.sizeOf128
  v51 := Tryd.zeroValue128
  t53 := Tryd.underlying122
  a53 := Tryd.isAgg122
  z53 := Tryd.sizeOf122
  v53 := Tryd.zeroValue122
  t131 := Tryd.underlying151
  a131 := Tryd.isAgg151
  z131 := Tryd.sizeOf151
  v131 := Tryd.zeroValue151
  t182 := Tryd.underlying146
  a182 := Tryd.isAgg146
  z182 := Tryd.sizeOf146
  v182 := Tryd.zeroValue146
  t183 := Tryd.underlying147
  a183 := Tryd.isAgg147
  z183 := Tryd.sizeOf147
  v183 := Tryd.zeroValue147
  t218 := Tryd.underlying158
  a218 := Tryd.isAgg158
  z218 := Tryd.sizeOf158
  v218 := Tryd.zeroValue158
  t222 := Tryd.underlying162
  a222 := Tryd.isAgg162
  z222 := Tryd.sizeOf162
  v222 := Tryd.zeroValue162
  t228 := Tryd.underlying170
  a228 := Tryd.isAgg170
  z228 := Tryd.sizeOf170
  v228 := Tryd.zeroValue170
  t229 := Tryd.underlying171
  a229 := Tryd.isAgg171
  z229 := Tryd.sizeOf171
  v229 := Tryd.zeroValue171 }
end Go.Proofs.YtgphoihilheoeaaDoor
namespace Go.Hs
theorem shr_mod (x j : Nat) : ((x >>> j : Nat) : Int) % 2 = if x.testBit j then 1 else 0 := by
  rw [Nat.testBit_eq_decide_div_mod_eq, Nat.shiftRight_eq_div_pow]
  generalize x / 2 ^ j = q
  by_cases h : q % 2 = 1
  · rw [if_pos (by simpa using h)]; omega
  · rw [if_neg (by simpa using h)]; omega
theorem shl_le {g k : Nat} (hg : g ≤ 1) (hk : k ≤ 12) : g <<< k ≤ 4096 := by
  rw [Nat.shiftLeft_eq]
  have h1 : 2 ^ k ≤ 2 ^ 12 := Nat.pow_le_pow_right (by omega) hk
  have h2 : g * 2 ^ k ≤ 1 * 2 ^ 12 := Nat.mul_le_mul hg h1
  omega
theorem pow_le5 {k : Nat} (hk : k ≤ 12) : 2 ^ k ≤ 4096 := Nat.pow_le_pow_right (n := 2) (by omega) hk
end Go.Hs
set_option linter.unusedSimpArgs false
namespace Go.Hs
variable {P : Program} {ρ : Env} {w : World} {ty t t' : TypeId} {x y : Operand} {a b : Int}

theorem opv_shr {k : IntKind} (hx : evalE ρ x = .int .i64 a) (hy : evalE ρ y = .int k b) (h : 0 ≤ a ∧ a ≤ 9223372036854775807 ∧ 0 ≤ b) :
    OpV P (.binOp .shr t x y t') ty ρ w (.int .i64 ((a.toNat >>> b.toNat : Nat) : Int)) := by
  obtain ⟨A, rfl⟩ := Int.eq_ofNat_of_zero_le h.1
  obtain ⟨B, rfl⟩ := Int.eq_ofNat_of_zero_le h.2.2
  have key : ((A : Int) / 2 ^ min B 64 : Int) = ((A >>> B : Nat) : Int) := by
    rw [Nat.shiftRight_eq_div_pow]
    by_cases hb : B ≤ 64
    · rw [Nat.min_eq_left hb]; simp
    · rw [Nat.min_eq_right (by omega)]
      have h1 : A / 2 ^ B = 0 := Nat.div_eq_of_lt (Nat.lt_of_lt_of_le (show A < 2 ^ 64 by omega) (Nat.pow_le_pow_right (by omega) (by omega)))
      rw [h1]
      omega
  simp [OpV, execOp, hx, hy, eqGuard, binOp, shift_shr_any, IntKind.bits]
  exact key
theorem opv_and (hx : evalE ρ x = .int .i64 a) (hy : evalE ρ y = .int .i64 b) (h : 0 ≤ a ∧ 0 ≤ b ∧ b ≤ 9223372036854775807) :
    OpV P (.binOp .and t x y t') ty ρ w (.int .i64 ((a.toNat &&& b.toNat : Nat) : Int)) := by
  obtain ⟨A, rfl⟩ := Int.eq_ofNat_of_zero_le h.1
  obtain ⟨B, rfl⟩ := Int.eq_ofNat_of_zero_le h.2.1
  have hB : B < 2 ^ 63 := by omega
  have hx' : A &&& B ≤ B := Nat.and_le_right
  have key : IntKind.i64.wrap ((BitVec.ofInt 64 (A : Int) &&& BitVec.ofInt 64 (B : Int)).toNat : Int) = ((A &&& B : Nat) : Int) := by
    have e1 : (BitVec.ofInt 64 (A : Int)).toNat = A % 2 ^ 64 := by simp
    have e2 : (BitVec.ofInt 64 (B : Int)).toNat = B := by simp; omega
    have e3 : (A % 2 ^ 64) &&& B = A &&& B := by
      apply Nat.eq_of_testBit_eq
      intro i
      rw [Nat.testBit_and, Nat.testBit_and, Nat.testBit_mod_two_pow]
      by_cases hi : i < 64
      · simp [hi]
      · have : B.testBit i = false := Nat.testBit_lt_two_pow (Nat.lt_of_lt_of_le hB (Nat.pow_le_pow_right (by omega) (by omega)))
        simp [this]
    rw [BitVec.toNat_and, e1, e2, e3, IntKind.wrap_i64]
    omega
  simp [OpV, execOp, hx, hy, eqGuard, binOp, Op.intBits]
  exact key
theorem opv_or (hx : evalE ρ x = .int .i64 a) (hy : evalE ρ y = .int .i64 b) (h : 0 ≤ a ∧ a ≤ 9223372036854775807 ∧ 0 ≤ b ∧ b ≤ 9223372036854775807) :
    OpV P (.binOp .or t x y t') ty ρ w (.int .i64 ((a.toNat ||| b.toNat : Nat) : Int)) := by
  obtain ⟨A, rfl⟩ := Int.eq_ofNat_of_zero_le h.1
  obtain ⟨B, rfl⟩ := Int.eq_ofNat_of_zero_le h.2.2.1
  have hx' : A ||| B < 2 ^ 63 := Nat.or_lt_two_pow (by omega) (by omega)
  have key : IntKind.i64.wrap ((BitVec.ofInt 64 (A : Int) ||| BitVec.ofInt 64 (B : Int)).toNat : Int) = ((A ||| B : Nat) : Int) := by
    have e1 : (BitVec.ofInt 64 (A : Int)).toNat = A := by simp; omega
    have e2 : (BitVec.ofInt 64 (B : Int)).toNat = B := by simp; omega
    rw [BitVec.toNat_or, e1, e2, IntKind.wrap_i64]
    omega
  simp [OpV, execOp, hx, hy, eqGuard, binOp, Op.intBits]
  exact key
/-- 0 or 1, shifted. -/
theorem opv_shl {k : IntKind} (hx : evalE ρ x = .int .i64 a) (hy : evalE ρ y = .int k b) (h : 0 ≤ a ∧ a ≤ 1 ∧ 0 ≤ b ∧ b ≤ 60) :
    OpV P (.binOp .shl t x y t') ty ρ w (.int .i64 ((a.toNat <<< b.toNat : Nat) : Int)) := by
  obtain ⟨A, rfl⟩ := Int.eq_ofNat_of_zero_le h.1
  obtain ⟨B, rfl⟩ := Int.eq_ofNat_of_zero_le h.2.2.1
  have hB : (2 : Nat) ^ B ≤ 2 ^ 60 := Nat.pow_le_pow_right (by omega) (by omega)
  have key : IntKind.i64.wrap ((A : Int) * 2 ^ B) = ((A <<< B : Nat) : Int) := by
    rw [Nat.shiftLeft_eq, IntKind.wrap_i64]
    have e : ((2 : Int) ^ B) = ((2 ^ B : Nat) : Int) := by simp
    rw [e]
    generalize (2 : Nat) ^ B = q at hB
    have hA : A = 0 ∨ A = 1 := by omega
    rcases hA with rfl | rfl
    · simp
    · simp only [Nat.one_mul, Int.natCast_one, Int.one_mul]
      omega
  simp [OpV, execOp, hx, hy, eqGuard, binOp, shift_shl_any, IntKind.bits]
  simpa using key
end Go.Hs
