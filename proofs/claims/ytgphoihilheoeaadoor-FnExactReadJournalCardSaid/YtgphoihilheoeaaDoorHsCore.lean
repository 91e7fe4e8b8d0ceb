/- The frame of a function as a map from slot numbers to values, and the rules of the walk in that form. -/
import Derived.Tactics
import Derived.OwnWalk
import Derived.Deep.Quiet
import Derived.Below
namespace Go.Hs
open Go.RowKit (Below)

abbrev Env := Nat → Value

def upd (ρ : Env) (d : Nat) (v : Value) : Env := fun i => bif Nat.beq i d then v else ρ i

def evalE (ρ : Env) : Operand → Value
  | .tmp t => ρ t
  | .const v => v
  | .global g => .pointer (some ⟨g, 0, none⟩)
  | .func f => .func (.func f) #[] #[]

structure Rep (n : Nat) (ρ : Env) (a : Act) : Prop where
  defers : a.defers = []
  size : a.tmps.size = n
  get : ∀ i, a.tmps.getD i undef = ρ i

theorem Rep.eval {n : Nat} {ρ : Env} {a : Act} (h : Rep n ρ a) : a.eval = evalE ρ := by
  funext x; cases x <;> simp [Act.eval, evalE, h.get]

theorem Rep.put {n : Nat} {ρ : Env} {a : Act} (h : Rep n ρ a) {d : Nat} (hd : Nat.blt d n = true) (v : Value) : Rep n (upd ρ d v) (a.put (some d) v) := by
  have hd' : d < n := by simpa using hd
  refine ⟨h.defers, by simp [Act.put, h.size], fun i => ?_⟩
  show (a.tmps.setIfInBounds d v).getD i undef = _
  unfold upd
  by_cases hi : i = d
  · subst hi
    simp [Array.getD_eq_getD_getElem?, h.size, hd']
  · have : Nat.beq i d = false := by
      cases hb : Nat.beq i d
      · rfl
      · exact absurd (Nat.eq_of_beq_eq_true hb) hi
    rw [this]
    simp only [cond_false]
    rw [← h.get i]
    simp [Array.getD_eq_getD_getElem?, Array.getElem?_setIfInBounds_ne (Ne.symm hi)]

theorem Rep.put_none {n : Nat} {ρ : Env} {a : Act} (h : Rep n ρ a) (v : Value) : Rep n ρ (a.put none v) := h

def yieldedE (ops : Array Oper) (ρ : Env) (j : Nat) : Option Bool :=
  match (ops[j]?).bind (·.dst) with
  | some d => match ρ d with
    | .bool b => some b
    | _ => none
  | none => none

def wantedE (ops : Array Oper) (o : Oper) (ρ : Env) : Bool :=
  match o.guard with
  | none => true
  | some (j, want) => match yieldedE ops ρ j with
    | some b => bif b then want else !want
    | none => false

def dstsLt (n : Nat) : List Oper → Bool
  | [] => true
  | o :: l => (match o.dst with | some d => Nat.blt d n | none => true) && dstsLt n l

theorem dstsLt_mem {n : Nat} {l : List Oper} (h : dstsLt n l = true) (o : Oper) (ho : o ∈ l) (d : Nat) (hd : o.dst = some d) : Nat.blt d n = true := by
  induction l with
  | nil => cases ho
  | cons x l ih =>
    simp only [dstsLt, Bool.and_eq_true] at h
    rcases List.mem_cons.1 ho with he | ho
    · have h1 := h.1
      rw [← he, hd] at h1
      exact h1
    · exact ih h.2 ho

theorem wanted_eq {n : Nat} {ops : Array Oper} {ρ : Env} {a : Act} (h : Rep n ρ a) (hl : dstsLt n ops.toList = true) (o : Oper) :
    Region.wanted o (yielded ops a.tmps) = wantedE ops o ρ := by
  unfold Region.wanted wantedE
  cases o.guard with
  | none => rfl
  | some p =>
    obtain ⟨j, want⟩ := p
    have key : yielded ops a.tmps j = yieldedE ops ρ j := by
      unfold yielded yieldedE
      cases hj : ops[j]? with
      | none => simp
      | some oj =>
        cases hd : oj.dst with
        | none => simp [hd]
        | some d =>
          have hm : oj ∈ ops.toList := by
            have := Array.mem_of_getElem? hj
            exact Array.mem_toList_iff.2 this
          have hlt : d < n := by simpa using dstsLt_mem hl oj hm d hd
          have hs := h.size
          have : a.tmps[d]? = some (ρ d) := by
            rw [← h.get d, Array.getD_eq_getD_getElem?, Array.getElem?_eq_getElem (show d < a.tmps.size by rw [h.size]; exact hlt)]
            rfl
          simp only [hd, Option.bind_some, this]
          cases ρ d <;> rfl
    simp only [key]
    cases yieldedE ops ρ j with
    | none => rfl
    | some b => cases b <;> cases want <;> rfl

/-- What follows a piece of code: if it runs through, if it leaves block i, if it returns. -/
def post (n : Nat) (N : Env → World → Prop) (X : Nat → Env → World → Prop) (R : Env → World → Prop) : Exit → Act → World → Prop
  | .normal, a, w => ∃ ρ, Rep n ρ a ∧ N ρ w
  | .exit i, a, w => ∃ ρ, Rep n ρ a ∧ X i ρ w
  | .ret, a, w => ∃ ρ, Rep n ρ a ∧ R ρ w
  | _, _, _ => False

def W (P : Program) (n : Nat) (c : Code) (N : Env → World → Prop) (X : Nat → Env → World → Prop) (R : Env → World → Prop) (ρ : Env) (w : World) : Prop :=
  ∀ a, Rep n ρ a → c.wp P (post n N X R) a w

section
variable {P : Program} {n : Nat} {N : Env → World → Prop} {X : Nat → Env → World → Prop} {R : Env → World → Prop} {ρ : Env} {w : World}

theorem W_mono {c : Code} {N' : Env → World → Prop} {X' : Nat → Env → World → Prop} {R' : Env → World → Prop}
    (hN : ∀ ρ w, N ρ w → N' ρ w) (hX : ∀ i ρ w, X i ρ w → X' i ρ w) (hR : ∀ ρ w, R ρ w → R' ρ w) (h : W P n c N X R ρ w) : W P n c N' X' R' ρ w :=
  fun a ha => Go.wp_mono (h a ha) fun e a w q => by
    cases e with
    | normal => obtain ⟨ρ, h1, h2⟩ := q; exact ⟨ρ, h1, hN _ _ h2⟩
    | exit i => obtain ⟨ρ, h1, h2⟩ := q; exact ⟨ρ, h1, hX _ _ _ h2⟩
    | ret => obtain ⟨ρ, h1, h2⟩ := q; exact ⟨ρ, h1, hR _ _ h2⟩
    | goto l => exact q.elim
    | panic ch => exact q.elim
    | outgrown => exact q.elim

theorem W_skip (h : N ρ w) : W P n .skip N X R ρ w := fun _ ha => wp_skip ⟨ρ, ha, h⟩
theorem W_ret (h : R ρ w) : W P n .ret N X R ρ w := fun _ ha => wp_ret ⟨ρ, ha, h⟩
theorem W_exit {i : Nat} (h : X i ρ w) : W P n (.exit i) N X R ρ w := fun _ ha => wp_exit ⟨ρ, ha, h⟩
theorem W_seq {x y : Code} (h : W P n x (fun ρ w => W P n y N X R ρ w) X R ρ w) : W P n (.seq x y) N X R ρ w :=
  fun a ha => wp_seq (Go.wp_mono (h a ha) fun e a w q => by
    cases e with
    | normal => obtain ⟨ρ, h1, h2⟩ := q; exact h2 a h1
    | exit i => exact q
    | ret => exact q
    | goto l => exact q
    | panic ch => exact q
    | outgrown => exact q)

def exitX (id : Nat) (N : Env → World → Prop) (X : Nat → Env → World → Prop) : Nat → Env → World → Prop :=
  fun i => bif Nat.beq i id then N else X i

theorem exitX_same {id : Nat} (h : N ρ w) : exitX id N X id ρ w := by
  unfold exitX; rw [Nat.beq_refl]; exact h
theorem exitX_other {id i : Nat} (hi : Nat.beq i id = false) (h : X i ρ w) : exitX id N X i ρ w := by
  unfold exitX; rw [hi]; exact h

theorem W_block {id : Nat} {c : Code} (h : W P n c N (exitX id N X) R ρ w) : W P n (.block id c) N X R ρ w :=
  fun a ha => wp_block (Go.wp_mono (h a ha) fun e a w q => by
    cases e with
    | normal => exact q
    | exit i =>
      obtain ⟨ρ, h1, h2⟩ := q
      unfold exitX at h2
      show (if i = id then _ else _)
      by_cases hi : i = id
      · subst hi; rw [Nat.beq_refl] at h2; rw [if_pos rfl]; exact ⟨ρ, h1, h2⟩
      · rw [if_neg hi]
        have : Nat.beq i id = false := by
          cases hb : Nat.beq i id
          · rfl
          · exact absurd (Nat.eq_of_beq_eq_true hb) hi
        rw [this] at h2
        exact ⟨ρ, h1, h2⟩
    | ret => exact q
    | goto l => exact q
    | panic ch => exact q
    | outgrown => exact q)

theorem W_cond {c : Operand} {x y : Code} {b : Bool} (hc : evalE ρ c = .bool b) (ht : b = true → W P n x N X R ρ w) (hf : b = false → W P n y N X R ρ w) :
    W P n (.cond c x y) N X R ρ w := fun a ha =>
  wp_cond_split (by rw [ha.eval]; exact hc) (fun h => ht h a ha) (fun h => hf h a ha)
theorem W_cond_dec {c : Operand} {x y : Code} {p : Prop} [Decidable p] (hc : evalE ρ c = .bool (decide p)) (ht : p → W P n x N X R ρ w) (hf : ¬ p → W P n y N X R ρ w) :
    W P n (.cond c x y) N X R ρ w := W_cond hc (fun h => ht (of_decide_eq_true h)) (fun h => hf (of_decide_eq_false h))
theorem W_cond_ndec {c : Operand} {x y : Code} {p : Prop} [Decidable p] (hc : evalE ρ c = .bool (!decide p)) (ht : ¬ p → W P n x N X R ρ w) (hf : p → W P n y N X R ρ w) :
    W P n (.cond c x y) N X R ρ w := W_cond hc (fun h => ht (by simpa using h)) (fun h => hf (by simpa using h))
theorem W_cond_true {c : Operand} {x y : Code} (hc : evalE ρ c = .bool true) (ht : W P n x N X R ρ w) : W P n (.cond c x y) N X R ρ w :=
  W_cond hc (fun _ => ht) (fun h => by cases h)
theorem W_cond_false {c : Operand} {x y : Code} (hc : evalE ρ c = .bool false) (hf : W P n y N X R ρ w) : W P n (.cond c x y) N X R ρ w :=
  W_cond hc (fun h => by cases h) (fun _ => hf)
/-- A slot's content, a row of them. -/
def Slots (ρ : Env) : List (Nat × Value) → Prop
  | [] => True
  | p :: l => ρ p.1 = p.2 ∧ Slots ρ l

def upds (ρ : Env) : List (Nat × Value) → Env
  | [] => ρ
  | p :: l => upd (upds ρ l) p.1 p.2

theorem upd_self {d : Nat} {v : Value} (h : ρ d = v) : upd ρ d v = ρ := by
  funext i
  unfold upd
  cases hb : Nat.beq i d
  · rfl
  · rw [Nat.eq_of_beq_eq_true hb]; exact h.symm

theorem upds_self : ∀ {l : List (Nat × Value)}, Slots ρ l → upds ρ l = ρ
  | [], _ => rfl
  | p :: l, h => by unfold upds; rw [upds_self h.2]; exact upd_self h.1

def elemN (D : List Nat) (i : Nat) : Bool := match D with
  | [] => false
  | d :: D => bif Nat.beq i d then true else elemN D i
/-- The slots of D forgotten. -/
def mix (D : List Nat) (ρj ρ : Env) : Env := fun i => bif elemN D i then ρj i else ρ i
/-- Alike but for the slots of D. -/
def Same (D : List Nat) (ρ0 ρ : Env) : Prop := ∀ i, elemN D i = false → ρ i = ρ0 i
theorem Same.refl {D : List Nat} {ρ : Env} : Same D ρ ρ := fun _ _ => rfl
theorem Same.upd {D : List Nat} {ρ0 ρ : Env} {d : Nat} {v : Value} (hd : elemN D d = true) (h : Same D ρ0 ρ) : Same D ρ0 (upd ρ d v) := fun i hi => by
  unfold Hs.upd
  cases hb : Nat.beq i d
  · exact h i hi
  · rw [Nat.eq_of_beq_eq_true hb, hd] at hi; cases hi
def keysIn (D : List Nat) : List (Nat × Value) → Bool
  | [] => true
  | p :: l => elemN D p.1 && keysIn D l
theorem Same.upds {D : List Nat} {ρ0 ρ : Env} : ∀ {l : List (Nat × Value)}, keysIn D l = true → Same D ρ0 ρ → Same D ρ0 (upds ρ l)
  | [], _, h => h
  | p :: l, hk, h => by
    simp only [keysIn, Bool.and_eq_true] at hk
    exact Same.upd hk.1 (Same.upds hk.2 h)
def allIn (D : List Nat) : List Nat → Bool
  | [] => true
  | d :: l => elemN D d && allIn D l
theorem allIn_elem {D : List Nat} : ∀ {l : List Nat}, allIn D l = true → ∀ i, elemN l i = true → elemN D i = true
  | d :: l, h, i, hi => by
    simp only [allIn, Bool.and_eq_true] at h
    unfold elemN at hi
    cases hb : Nat.beq i d
    · rw [hb] at hi; exact allIn_elem h.2 i hi
    · rw [Nat.eq_of_beq_eq_true hb]; exact h.1
theorem Same.mix {D D' : List Nat} {ρ0 ρj ρ : Env} (hD : allIn D D' = true) (h : Same D ρ0 ρ) : Same D ρ0 (mix D' ρj ρ) := fun i hi => by
  unfold Hs.mix
  cases hb : elemN D' i
  · exact h i hi
  · rw [allIn_elem hD i hb] at hi; cases hi
theorem mix_same {D : List Nat} {ρ0 ρ : Env} (h : Same D ρ0 ρ) : mix D ρ ρ0 = ρ := by
  funext i
  unfold mix
  cases hb : elemN D i
  · exact (h i hb).symm
  · rfl

/-- A loop: D: the slots that its rounds write; x is what turns from round to round, S says which of them hold what, I what else holds. -/
theorem W_loop {α : Type} {c : Code} (D : List Nat) (S : α → List (Nat × Value)) (I : α → World → Prop) (μ : α → Nat) (x0 : α) (h0 : Slots ρ (S x0)) (hI : I x0 w)
    (round : ∀ (x : α) (ρj : Env) (w : World), I x w → W P n c (fun ρ' w' => ∃ x', Slots ρ' (S x') ∧ Same D ρ ρ' ∧ I x' w' ∧ μ x' < μ x) X R (upds (mix D ρj ρ) (S x)) w) :
    W P n (.loop c) N X R ρ w := by
  intro a ha
  have key : ∀ (m : Nat) (x : α) (ρ1 : Env) (a : Act) (w : World), μ x = m → Slots ρ1 (S x) → Same D ρ ρ1 → I x w → Rep n ρ1 a →
      (∀ b k cs, ∃ e a' w', post n N X R e a' w' ∧ Arrives P (lone (b.at a (.code c :: .inLoop c :: k)) cs w) b k cs e a' w') := by
    intro m
    induction m using Nat.strongRecOn with
    | _ m ih =>
      intro x ρ1 a w hm hS hD hI hR b k cs
      have hr := round x ρ1 w hI
      rw [mix_same hD, upds_self hS] at hr
      obtain ⟨e, a₁, w₁, hq, harr⟩ := hr a hR b (.inLoop c :: k) cs
      cases e with
      | normal =>
        obtain ⟨ρ', hR', x', hS', hD', hI', hlt⟩ := hq
        obtain ⟨e₂, a₂, w₂, hq₂, harr₂⟩ := ih (μ x') (hm ▸ hlt) x' ρ' a₁ w₁ rfl hS' hD' hI' hR' b k cs
        exact ⟨e₂, a₂, w₂, hq₂, .of_steps (Steps.trans harr (.one step_inLoop)) harr₂⟩
      | exit id =>
        obtain ⟨r, r1, r2⟩ := hq
        exact ⟨.exit id, a₁, w₁, ⟨r, r1, r2⟩, .pass (x := .inLoop c) rfl (fun _ _ => .inl (by simp)) harr⟩
      | ret =>
        obtain ⟨r, r1, r2⟩ := hq
        exact ⟨.ret, a₁, w₁, ⟨r, r1, r2⟩, .pass (x := .inLoop c) rfl (fun _ _ => .inl (by simp)) harr⟩
      | goto l => exact hq.elim
      | panic ch => exact hq.elim
      | outgrown => exact hq.elim
  intro b k cs
  obtain ⟨e, a', w', hq, harr⟩ := key _ x0 ρ a w rfl h0 Same.refl hI ha b k cs
  exact ⟨e, a', w', hq, .of_steps (.one step_loop) harr⟩

/-! ### Operations, one behind the other -/
def Wops (P : Program) (n : Nat) (all : Array Oper) (l : List Oper) (N : Env → World → Prop) (ρ : Env) (w : World) : Prop :=
  dstsLt n all.toList = true → (∀ o ∈ l, o ∈ all.toList) → ∀ a, Rep n ρ a → ∀ Q : Exit → Act → World → Prop, (∀ a' ρ' w', Rep n ρ' a' → N ρ' w' → Q .normal a' w') → wpList P all Q l a w

theorem W_region {id : Nat} {ops : List Oper} (hd : dstsLt n ops = true) (h : Wops P n ops.toArray ops N ρ w) : W P n (.region id ops.toArray false) N X R ρ w :=
  fun a ha => wp_region_lit (h (by simpa using hd) (by simp) a ha _ fun a' ρ' w' h1 h2 => ⟨ρ', h1, h2⟩)

variable {all : Array Oper} {rest : List Oper}
theorem Wo_nil (h : N ρ w) : Wops P n all [] N ρ w := fun _ _ _ ha _ hQ => wpList_nil (hQ _ _ _ ha h)

/-- The operation yields v and leaves the world alone. -/
def OpV (P : Program) (op : Op) (ty : TypeId) (ρ : Env) (w : World) (v : Value) : Prop :=
  (execOp (evalE ρ) ⟨none, op, ty, "", #[], none⟩).run P w = .ok (.value v) w

variable {d : Nat} {op : Op} {ty : TypeId} {pos : String} {after : Array Edge} {g : Option (Nat × Bool)}

theorem Wo {v : Value} (hw : wantedE all ⟨some d, op, ty, pos, after, g⟩ ρ = true) (hv : OpV P op ty ρ w v) (hk : Wops P n all rest N (upd ρ d v) w) :
    Wops P n all (⟨some d, op, ty, pos, after, g⟩ :: rest) N ρ w := by
  intro hd hm a ha Q hQ
  refine wpList_step fun K hK => ?_
  rw [wanted_eq ha hd, if_pos hw]
  unfold Oper.wp
  rw [ha.eval]
  have : (execOp (evalE ρ) ⟨some d, op, ty, pos, after, g⟩) = (execOp (evalE ρ) ⟨none, op, ty, "", #[], none⟩) := by cases op <;> rfl
  rw [this, hv]
  exact hK _ _ (hk hd (fun o ho => hm o (List.mem_cons_of_mem _ ho)) _ (ha.put (dstsLt_mem hd _ (hm _ (List.mem_cons_self ..)) d rfl) v) Q hQ)

/-- An operation whose guard keeps it from running. -/
theorem Wo_skip (hw : wantedE all ⟨some d, op, ty, pos, after, g⟩ ρ = false) (hk : Wops P n all rest N (upd ρ d undef) w) :
    Wops P n all (⟨some d, op, ty, pos, after, g⟩ :: rest) N ρ w := by
  intro hd hm a ha Q hQ
  refine wpList_step fun K hK => ?_
  rw [wanted_eq ha hd, if_neg (by rw [hw]; simp)]
  exact hK _ _ (hk hd (fun o ho => hm o (List.mem_cons_of_mem _ ho)) _ (ha.put (dstsLt_mem hd _ (hm _ (List.mem_cons_self ..)) d rfl) undef) Q hQ)

/-- A truth value is told apart at once. -/
theorem Wo_split {b : Bool} (hw : wantedE all ⟨some d, op, ty, pos, after, g⟩ ρ = true) (hv : OpV P op ty ρ w (.bool b))
    (ht : b = true → Wops P n all rest N (upd ρ d (.bool true)) w) (hf : b = false → Wops P n all rest N (upd ρ d (.bool false)) w) :
    Wops P n all (⟨some d, op, ty, pos, after, g⟩ :: rest) N ρ w := by
  refine Wo hw hv ?_
  cases b
  · exact hf rfl
  · exact ht rfl
theorem Wo_split_dec {p : Prop} [Decidable p] (hw : wantedE all ⟨some d, op, ty, pos, after, g⟩ ρ = true) (hv : OpV P op ty ρ w (.bool (decide p)))
    (ht : p → Wops P n all rest N (upd ρ d (.bool true)) w) (hf : ¬ p → Wops P n all rest N (upd ρ d (.bool false)) w) :
    Wops P n all (⟨some d, op, ty, pos, after, g⟩ :: rest) N ρ w :=
  Wo_split hw hv (fun h => ht (of_decide_eq_true h)) (fun h => hf (of_decide_eq_false h))
theorem Wo_split_ndec {p : Prop} [Decidable p] (hw : wantedE all ⟨some d, op, ty, pos, after, g⟩ ρ = true) (hv : OpV P op ty ρ w (.bool (!decide p)))
    (ht : ¬ p → Wops P n all rest N (upd ρ d (.bool true)) w) (hf : p → Wops P n all rest N (upd ρ d (.bool false)) w) :
    Wops P n all (⟨some d, op, ty, pos, after, g⟩ :: rest) N ρ w :=
  Wo_split hw hv (fun h => ht (by simpa using h)) (fun h => hf (by simpa using h))

/-- The operation turns the world. -/
def OpW (P : Program) (op : Op) (ty : TypeId) (ρ : Env) (w : World) (v : Value) (w' : World) : Prop :=
  (execOp (evalE ρ) ⟨none, op, ty, "", #[], none⟩).run P w = .ok (.value v) w'
/-- .. and yields nothing (a store). -/
def OpS (P : Program) (op : Op) (ty : TypeId) (ρ : Env) (w w' : World) : Prop :=
  (execOp (evalE ρ) ⟨none, op, ty, "", #[], none⟩).run P w = .ok .skip w'

theorem Wo_w {v : Value} {w' : World} (hw : wantedE all ⟨some d, op, ty, pos, after, g⟩ ρ = true) (hv : OpW P op ty ρ w v w') (hk : Wops P n all rest N (upd ρ d v) w') :
    Wops P n all (⟨some d, op, ty, pos, after, g⟩ :: rest) N ρ w := by
  intro hd hm a ha Q hQ
  refine wpList_step fun K hK => ?_
  rw [wanted_eq ha hd, if_pos hw]
  unfold Oper.wp
  rw [ha.eval]
  have : (execOp (evalE ρ) ⟨some d, op, ty, pos, after, g⟩) = (execOp (evalE ρ) ⟨none, op, ty, "", #[], none⟩) := by cases op <;> rfl
  rw [this, hv]
  exact hK _ _ (hk hd (fun o ho => hm o (List.mem_cons_of_mem _ ho)) _ (ha.put (dstsLt_mem hd _ (hm _ (List.mem_cons_self ..)) d rfl) v) Q hQ)
/-- As Wo_w, what is known of the result told by a relation. -/
theorem Wo_ex {S : Value → World → Prop} (hw : wantedE all ⟨some d, op, ty, pos, after, g⟩ ρ = true) (hv : ∃ v w', OpW P op ty ρ w v w' ∧ S v w')
    (hk : ∀ v w', S v w' → Wops P n all rest N (upd ρ d v) w') :
    Wops P n all (⟨some d, op, ty, pos, after, g⟩ :: rest) N ρ w := by
  obtain ⟨v, w', h1, h2⟩ := hv
  exact Wo_w hw h1 (hk _ _ h2)
theorem Wo_store {w' : World} (hw : wantedE all ⟨none, op, ty, pos, after, g⟩ ρ = true) (hv : OpS P op ty ρ w w') (hk : Wops P n all rest N ρ w') :
    Wops P n all (⟨none, op, ty, pos, after, g⟩ :: rest) N ρ w := by
  intro hd hm a ha Q hQ
  refine wpList_step fun K hK => ?_
  rw [wanted_eq ha hd, if_pos hw]
  unfold Oper.wp
  rw [ha.eval]
  have : (execOp (evalE ρ) ⟨none, op, ty, pos, after, g⟩) = (execOp (evalE ρ) ⟨none, op, ty, "", #[], none⟩) := by cases op <;> rfl
  rw [this, hv]
  exact hK _ _ (hk hd (fun o ho => hm o (List.mem_cons_of_mem _ ho)) _ ha Q hQ)

/-! ### Calls -/
def Does (P : Program) (f : FuncId) (args : List Value) (w : World) (S : Value → World → Prop) : Prop :=
  Calls P f args.toArray w fun e w' => ∃ v, e = .returned v ∧ S v w'

theorem Does.mono {f : FuncId} {args : List Value} {S S' : Value → World → Prop} (h : Does P f args w S) (hs : ∀ v w', S v w' → S' v w') : Does P f args w S' :=
  Calls.mono h fun _ _ ⟨v, he, hv⟩ => ⟨v, he, hs _ _ hv⟩

/-- The operation calls function f with these arguments. -/
def OpC (P : Program) (op : Op) (ty : TypeId) (ρ : Env) (w : World) (f : FuncId) (args : List Value) : Prop :=
  (execOp (evalE ρ) ⟨none, op, ty, "", #[], none⟩).run P w = .ok (.enter f args.toArray) w

theorem Wo_call {f : FuncId} {args : List Value} {S : Value → World → Prop} (hw : wantedE all ⟨some d, op, ty, pos, after, g⟩ ρ = true) (hv : OpC P op ty ρ w f args)
    (hf : Does P f args w S) (hk : ∀ v w', S v w' → Wops P n all rest N (upd ρ d v) w') :
    Wops P n all (⟨some d, op, ty, pos, after, g⟩ :: rest) N ρ w := by
  intro hd hm a ha Q hQ
  refine wpList_step fun K hK => ?_
  rw [wanted_eq ha hd, if_pos hw]
  unfold Oper.wp
  rw [ha.eval]
  have : (execOp (evalE ρ) ⟨some d, op, ty, pos, after, g⟩) = (execOp (evalE ρ) ⟨none, op, ty, "", #[], none⟩) := by cases op <;> rfl
  rw [this, hv]
  refine Calls.mono hf ?_
  rintro e w' ⟨v, rfl, hs⟩
  exact hK _ _ (hk v w' hs hd (fun o ho => hm o (List.mem_cons_of_mem _ ho)) _ (ha.put (dstsLt_mem hd _ (hm _ (List.mem_cons_self ..)) d rfl) v) Q hQ)

theorem opc_func {f : FuncId} {args : Array Operand} {ts : Array TypeId} {vs : List Value} (hc : ∀ args w, Sem.run P (callFunc f args) w = .ok (.enter f args) w) (ha : args.toList.map (evalE ρ) = vs) :
    OpC P (.call { callee := .value (.func f), args := args, argTypes := ts }) ty ρ w f vs := by
  subst ha
  unfold OpC execOp
  simp only [resolve, evalE, Deferred.ofValue]
  show Sem.run P (callFunc f (#[] ++ args.map (evalE ρ) ++ #[])) w = _
  rw [hc]
  congr 2
  apply Array.ext'
  simp

theorem opc0 {fid : FuncId} {ts : Array TypeId} (hc : ∀ args w, Sem.run P (callFunc fid args) w = .ok (.enter fid args) w)  :
    OpC P (.call { callee := .value (.func fid), args := #[], argTypes := ts }) ty ρ w fid [] := opc_func hc (by simp)
theorem opc1 {fid : FuncId} {ts : Array TypeId} {x0 : Operand} {a : Value} (hc : ∀ args w, Sem.run P (callFunc fid args) w = .ok (.enter fid args) w) (h0 : evalE ρ x0 = a) :
    OpC P (.call { callee := .value (.func fid), args := #[x0], argTypes := ts }) ty ρ w fid [a] := opc_func hc (by simp [h0])
theorem opc2 {fid : FuncId} {ts : Array TypeId} {x0 x1 : Operand} {a b : Value} (hc : ∀ args w, Sem.run P (callFunc fid args) w = .ok (.enter fid args) w) (h0 : evalE ρ x0 = a) (h1 : evalE ρ x1 = b) :
    OpC P (.call { callee := .value (.func fid), args := #[x0, x1], argTypes := ts }) ty ρ w fid [a, b] := opc_func hc (by simp [h0, h1])
theorem opc3 {fid : FuncId} {ts : Array TypeId} {x0 x1 x2 : Operand} {a b c : Value} (hc : ∀ args w, Sem.run P (callFunc fid args) w = .ok (.enter fid args) w) (h0 : evalE ρ x0 = a) (h1 : evalE ρ x1 = b) (h2 : evalE ρ x2 = c) :
    OpC P (.call { callee := .value (.func fid), args := #[x0, x1, x2], argTypes := ts }) ty ρ w fid [a, b, c] := opc_func hc (by simp [h0, h1, h2])
theorem opc4 {fid : FuncId} {ts : Array TypeId} {x0 x1 x2 x3 : Operand} {a b c d : Value} (hc : ∀ args w, Sem.run P (callFunc fid args) w = .ok (.enter fid args) w) (h0 : evalE ρ x0 = a) (h1 : evalE ρ x1 = b) (h2 : evalE ρ x2 = c) (h3 : evalE ρ x3 = d) :
    OpC P (.call { callee := .value (.func fid), args := #[x0, x1, x2, x3], argTypes := ts }) ty ρ w fid [a, b, c, d] := opc_func hc (by simp [h0, h1, h2, h3])
theorem opc5 {fid : FuncId} {ts : Array TypeId} {x0 x1 x2 x3 x4 : Operand} {a b c d e : Value} (hc : ∀ args w, Sem.run P (callFunc fid args) w = .ok (.enter fid args) w) (h0 : evalE ρ x0 = a) (h1 : evalE ρ x1 = b) (h2 : evalE ρ x2 = c) (h3 : evalE ρ x3 = d) (h4 : evalE ρ x4 = e) :
    OpC P (.call { callee := .value (.func fid), args := #[x0, x1, x2, x3, x4], argTypes := ts }) ty ρ w fid [a, b, c, d, e] := opc_func hc (by simp [h0, h1, h2, h3, h4])
theorem opc6 {fid : FuncId} {ts : Array TypeId} {x0 x1 x2 x3 x4 x5 : Operand} {a b c d e f : Value} (hc : ∀ args w, Sem.run P (callFunc fid args) w = .ok (.enter fid args) w) (h0 : evalE ρ x0 = a) (h1 : evalE ρ x1 = b) (h2 : evalE ρ x2 = c) (h3 : evalE ρ x3 = d) (h4 : evalE ρ x4 = e) (h5 : evalE ρ x5 = f) :
    OpC P (.call { callee := .value (.func fid), args := #[x0, x1, x2, x3, x4, x5], argTypes := ts }) ty ρ w fid [a, b, c, d, e, f] := opc_func hc (by simp [h0, h1, h2, h3, h4, h5])

/-! ### Entering and leaving a function -/
def envOf (args : List Value) : Env := fun i => args.getD i undef

theorem Rep.start (args : List Value) (n : Nat) (h : Nat.ble args.length n = true) :
    Rep n (envOf args) { tmps := args.toArray ++ Array.replicate (n - args.toArray.size) undef, defers := [] } := by
  have h' : args.length ≤ n := by simpa using h
  refine ⟨rfl, by simp; omega, fun i => ?_⟩
  show (args.toArray ++ Array.replicate (n - args.toArray.size) undef).getD i undef = args.getD i undef
  rw [Array.getD_eq_getD_getElem?, List.getD_eq_getElem?_getD]
  by_cases hi : i < args.length
  · rw [Array.getElem?_append_left (by simpa using hi)]; simp
  · rw [Array.getElem?_append_right (by simpa using Nat.le_of_not_lt hi), List.getElem?_eq_none (Nat.le_of_not_lt hi)]
    rw [Array.getElem?_replicate]
    split <;> rfl

theorem fn_of_W1 {f : FuncId} {fn : Func} {c : Code} {args : List Value} {S : Value → World → Prop} {t : Nat} (hf : P.funcs[f]? = some fn) (hb : fn.body = some c)
    (hr : fn.results = #[.tmp t]) {n : Nat} (hn : fn.ntmps = n) (hl : Nat.ble args.length n = true)
    (h : W P n c (fun ρ w' => S (ρ t) w') (fun _ _ _ => False) (fun ρ w' => S (ρ t) w') (envOf args) w) : Does P f args w S := by
  subst hn
  refine calls_of_wp hf hb (Go.wp_mono (h _ (Rep.start args _ hl)) fun e a w q => ?_)
  cases e with
  | normal =>
    obtain ⟨ρ, h1, h2⟩ := q
    exact ⟨h1.defers, ρ t, by rw [results_tmp hr, h1.get], _, rfl, h2⟩
  | ret =>
    obtain ⟨ρ, h1, h2⟩ := q
    exact ⟨h1.defers, ρ t, by rw [results_tmp hr, h1.get], _, rfl, h2⟩
  | exit i => obtain ⟨ρ, h1, h2⟩ := q; exact h2.elim
  | goto l => exact q.elim
  | panic ch => exact q.elim
  | outgrown => exact q.elim

theorem fn_of_W2 {f : FuncId} {fn : Func} {c : Code} {args : List Value} {S : Value → World → Prop} {t u : Nat} (hf : P.funcs[f]? = some fn) (hb : fn.body = some c)
    (hr : fn.results = #[.tmp t, .tmp u]) {n : Nat} (hn : fn.ntmps = n) (hl : Nat.ble args.length n = true)
    (h : W P n c (fun ρ w' => S (.tuple #[ρ t, ρ u]) w') (fun _ _ _ => False) (fun ρ w' => S (.tuple #[ρ t, ρ u]) w') (envOf args) w) : Does P f args w S := by
  subst hn
  refine calls_of_wp hf hb (Go.wp_mono (h _ (Rep.start args _ hl)) fun e a w q => ?_)
  cases e with
  | normal =>
    obtain ⟨ρ, h1, h2⟩ := q
    exact ⟨h1.defers, _, by rw [results_tmp2 hr, h1.get, h1.get], _, rfl, h2⟩
  | ret =>
    obtain ⟨ρ, h1, h2⟩ := q
    exact ⟨h1.defers, _, by rw [results_tmp2 hr, h1.get, h1.get], _, rfl, h2⟩
  | exit i => obtain ⟨ρ, h1, h2⟩ := q; exact h2.elim
  | goto l => exact q.elim
  | panic ch => exact q.elim
  | outgrown => exact q.elim

theorem fn_of_W3 {f : FuncId} {fn : Func} {c : Code} {args : List Value} {S : Value → World → Prop} {t u v : Nat} (hf : P.funcs[f]? = some fn) (hb : fn.body = some c)
    (hr : fn.results = #[.tmp t, .tmp u, .tmp v]) {n : Nat} (hn : fn.ntmps = n) (hl : Nat.ble args.length n = true)
    (h : W P n c (fun ρ w' => S (.tuple #[ρ t, ρ u, ρ v]) w') (fun _ _ _ => False) (fun ρ w' => S (.tuple #[ρ t, ρ u, ρ v]) w') (envOf args) w) : Does P f args w S := by
  subst hn
  refine calls_of_wp hf hb (Go.wp_mono (h _ (Rep.start args _ hl)) fun e a w q => ?_)
  cases e with
  | normal =>
    obtain ⟨ρ, h1, h2⟩ := q
    exact ⟨h1.defers, _, by rw [results_tmp3 hr, h1.get, h1.get, h1.get], _, rfl, h2⟩
  | ret =>
    obtain ⟨ρ, h1, h2⟩ := q
    exact ⟨h1.defers, _, by rw [results_tmp3 hr, h1.get, h1.get, h1.get], _, rfl, h2⟩
  | exit i => obtain ⟨ρ, h1, h2⟩ := q; exact h2.elim
  | goto l => exact q.elim
  | panic ch => exact q.elim
  | outgrown => exact q.elim

end
/-- w' is w with more blocks: what was there is as it was. -/
def Ext (w w' : World) : Prop := Below w.heap.size w w'
theorem Ext.refl (w : World) : Ext w w := Below.refl _ _
theorem Ext.trans {a b c : World} (h : Ext a b) (k : Ext b c) : Ext a c := Below.trans h (Below.mono k h.size)
theorem Ext.size {a b : World} (h : Ext a b) : a.heap.size ≤ b.heap.size := Below.size h
theorem Ext.drew {a b : World} (h : Ext a b) : Ext a b.drew := Below.drew h
theorem Ext.drawn {a b : World} (h : Ext a b) (n : Nat) : Ext a { b with drawn := n } := ⟨h.os, h.tape, h.output, h.size, h.block⟩
theorem Ext.alloc {a b : World} (h : Ext a b) (o : Obj) : Ext a (b.alloc o) := Below.alloc h h.size o
theorem Ext.cell {w w' : World} (h : Ext w w') {a : Addr} {v : Value} (hc : w.cell? a = some v) : w'.cell? a = some v := by
  rw [Below.cell h (World.block_lt_of_cell? _ _ hc)]; exact hc
theorem Ext.frozen {w w' : World} (h : Ext w w') {a : Addr} {v : Value} (hc : w.cell? a = some v) : w'.frozen? a = w.frozen? a :=
  Below.frozen h (World.block_lt_of_cell? _ _ hc)
theorem Ext.setCell {a b : World} (h : Ext a b) {p : Addr} (hp : a.heap.size ≤ p.block) (u : Value) : Ext a (b.setCell p u) := Below.setCell h hp u
theorem Ext.grown {a b c : World} {row : Option Nat} (h : Ext a b) (hg : b.grownBy c row) (hr : ∀ k, row = some k → a.heap.size ≤ k) : Ext a c := Below.grown h hg h.size hr

/-- What a call that only computes leaves: this value, and the world as it was but for more blocks. -/
def Ret (w : World) (r : Value) : Value → World → Prop := fun v w' => v = r ∧ Ext w w'
theorem at_ret {S : Value → World → Prop} {u v : Value} {w : World} (h : u = v) (hs : S v w) : S u w := h ▸ hs
/-- .. a value of which this is known. -/
def RetP (w : World) (p : World → Value → Prop) : Value → World → Prop := fun v w' => Ext w w' ∧ p w' v

/-! ### Regions that draw their order, in which nothing that was there is written -/
def Wq (P : Program) (n : Nat) (all : Array Oper) (w : World) (l : List Oper) (N : Env → Prop) (ρ : Env) : Prop :=
  dstsLt n all.toList = true → (∀ o ∈ l, o ∈ all.toList) → ∀ a, Rep n ρ a → ∀ Q : Act → Prop, (∀ a' ρ', Rep n ρ' a' → N ρ' → Q a') → wpQuiet P all (Ext w) Q l a

section
variable {P : Program} {n : Nat} {N : Env → World → Prop} {X : Nat → Env → World → Prop} {R : Env → World → Prop} {M : Env → Prop} {ρ : Env} {w w0 : World} {all : Array Oper} {rest : List Oper}
  {d d2 : Nat} {op : Op} {ty ty2 t el tl : TypeId} {pos pos2 : String} {after after2 : Array Edge} {g g2 : Option (Nat × Bool)} {x y : Operand} {k : Nat}

theorem W_draw {id : Nat} {ops : List Oper} (hm : P.follows .mixedOrders = true) (hB : Region.lexB .any ops.toArray = true) (hd : dstsLt n ops = true)
    (h : Wq P n ops.toArray w ops (fun ρ' => ∀ w', Ext w w' → N ρ' w') ρ) : W P n (.region id ops.toArray true) N X R ρ w :=
  fun a ha => wp_region_quiet (C := Ext w) hm hB ((Ext.refl w).drawn _) (by
    have := h (by simpa using hd) (by simp) a ha (fun a' => ∀ w', Ext w w' → post n N X R .normal a' w') (fun a' ρ' h1 h2 w' hw' => ⟨ρ', h1, h2 w' hw'⟩)
    simpa using this)
theorem Wq_nil (h : M ρ) : Wq P n all w [] M ρ := fun _ _ _ ha _ hQ => wpQuiet_nil (hQ _ _ ha h)
theorem Wq_o {v : Value} (hw : wantedE all ⟨some d, op, ty, pos, after, g⟩ ρ = true) (hv : ∀ w', Ext w w' → OpV P op ty ρ w' v) (hk : Wq P n all w rest M (upd ρ d v)) :
    Wq P n all w (⟨some d, op, ty, pos, after, g⟩ :: rest) M ρ := by
  intro hd hm a ha Q hQ
  refine wpQuiet_step fun K hK => ?_
  rw [wanted_eq ha hd, if_pos hw]
  refine ⟨v, fun w' hw' => ?_, hK _ (hk hd (fun o ho => hm o (List.mem_cons_of_mem _ ho)) _ (ha.put (dstsLt_mem hd _ (hm _ (List.mem_cons_self ..)) d rfl) v) Q hQ)⟩
  unfold Oper.quietAt
  rw [ha.eval]
  have : (execOp (evalE ρ) ⟨some d, op, ty, pos, after, g⟩) = (execOp (evalE ρ) ⟨none, op, ty, "", #[], none⟩) := by cases op <;> rfl
  rw [this, hv w' hw']
  exact ⟨rfl, rfl⟩
theorem Wq_skip (hw : wantedE all ⟨some d, op, ty, pos, after, g⟩ ρ = false) (hk : Wq P n all w rest M (upd ρ d undef)) :
    Wq P n all w (⟨some d, op, ty, pos, after, g⟩ :: rest) M ρ := by
  intro hd hm a ha Q hQ
  refine wpQuiet_step fun K hK => ?_
  rw [wanted_eq ha hd, if_neg (by rw [hw]; simp)]
  exact hK _ (hk hd (fun o ho => hm o (List.mem_cons_of_mem _ ho)) _ (ha.put (dstsLt_mem hd _ (hm _ (List.mem_cons_self ..)) d rfl) undef) Q hQ)
theorem Wq_split {b : Bool} (hw : wantedE all ⟨some d, op, ty, pos, after, g⟩ ρ = true) (hv : ∀ w', Ext w w' → OpV P op ty ρ w' (.bool b))
    (ht : b = true → Wq P n all w rest M (upd ρ d (.bool true))) (hf : b = false → Wq P n all w rest M (upd ρ d (.bool false))) :
    Wq P n all w (⟨some d, op, ty, pos, after, g⟩ :: rest) M ρ := by
  refine Wq_o hw hv ?_
  cases b
  · exact hf rfl
  · exact ht rfl
theorem Wq_split_dec {p : Prop} [Decidable p] (hw : wantedE all ⟨some d, op, ty, pos, after, g⟩ ρ = true) (hv : ∀ w', Ext w w' → OpV P op ty ρ w' (.bool (decide p)))
    (ht : p → Wq P n all w rest M (upd ρ d (.bool true))) (hf : ¬ p → Wq P n all w rest M (upd ρ d (.bool false))) :
    Wq P n all w (⟨some d, op, ty, pos, after, g⟩ :: rest) M ρ :=
  Wq_split hw hv (fun h => ht (of_decide_eq_true h)) (fun h => hf (of_decide_eq_false h))
theorem Wq_split_ndec {p : Prop} [Decidable p] (hw : wantedE all ⟨some d, op, ty, pos, after, g⟩ ρ = true) (hv : ∀ w', Ext w w' → OpV P op ty ρ w' (.bool (!decide p)))
    (ht : ¬ p → Wq P n all w rest M (upd ρ d (.bool true))) (hf : p → Wq P n all w rest M (upd ρ d (.bool false))) :
    Wq P n all w (⟨some d, op, ty, pos, after, g⟩ :: rest) M ρ :=
  Wq_split hw hv (fun h => ht (by simpa using h)) (fun h => hf (by simpa using h))
theorem Wq_call {f : FuncId} {args : List Value} {r : Value} (hw : wantedE all ⟨some d, op, ty, pos, after, g⟩ ρ = true) (hv : ∀ w', Ext w w' → OpC P op ty ρ w' f args)
    (hf : ∀ w', Ext w w' → Does P f args w' (Ret w' r)) (hk : Wq P n all w rest M (upd ρ d r)) :
    Wq P n all w (⟨some d, op, ty, pos, after, g⟩ :: rest) M ρ := by
  intro hd hm a ha Q hQ
  refine wpQuiet_step fun K hK => ?_
  rw [wanted_eq ha hd, if_pos hw]
  refine ⟨r, fun w' hw' => ?_, hK _ (hk hd (fun o ho => hm o (List.mem_cons_of_mem _ ho)) _ (ha.put (dstsLt_mem hd _ (hm _ (List.mem_cons_self ..)) d rfl) r) Q hQ)⟩
  unfold Oper.quietAt
  rw [ha.eval]
  have : (execOp (evalE ρ) ⟨some d, op, ty, pos, after, g⟩) = (execOp (evalE ρ) ⟨none, op, ty, "", #[], none⟩) := by cases op <;> rfl
  rw [this, hv w' hw']
  exact ⟨rfl, Calls.mono (hf w' hw') fun e w'' ⟨v, he, hv', hx'⟩ => ⟨by rw [he, hv'], hw'.trans hx'⟩⟩
end

attribute [irreducible] Does W Wops Wq OpV OpW OpS OpC
end Go.Hs
