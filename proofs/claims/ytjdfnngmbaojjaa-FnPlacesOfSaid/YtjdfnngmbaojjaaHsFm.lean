/- Formulas as trees, their texts, and how a text begins with one: no program in sight. -/
namespace Go.Hs

inductive Fm where
  | t
  | neg (f : Fm)
  | S (f : Fm)
  | A (f : Fm)
  | and (f g : Fm)
  | or (f g : Fm)
  deriving DecidableEq, Inhabited

namespace Fm
/-- The text: t ! S A ( & | ). -/
def enc : Fm → List UInt8
  | t => [116]
  | neg f => 33 :: enc f
  | S f => 83 :: enc f
  | A f => 65 :: enc f
  | and f g => 40 :: (enc f ++ 38 :: (enc g ++ [41]))
  | or f g => 40 :: (enc f ++ 124 :: (enc g ++ [41]))

theorem enc_pos (f : Fm) : 0 < f.enc.length := by cases f <;> simp [enc]
theorem enc_ne (f : Fm) : f.enc ≠ [] := by cases f <;> simp [enc]

/-- No text of a formula is the beginning of another one's. -/
theorem enc_inj : ∀ (f g : Fm) (r r' : List UInt8), f.enc ++ r = g.enc ++ r' → f = g ∧ r = r' := by
  intro f
  induction f with
  | t => intro g r r' h; cases g <;> simp_all [enc]
  | neg f ih => intro g r r' h; cases g <;> simp [enc] at h; obtain ⟨rfl, rfl⟩ := ih _ _ _ h; exact ⟨rfl, rfl⟩
  | S f ih => intro g r r' h; cases g <;> simp [enc] at h; obtain ⟨rfl, rfl⟩ := ih _ _ _ h; exact ⟨rfl, rfl⟩
  | A f ih => intro g r r' h; cases g <;> simp [enc] at h; obtain ⟨rfl, rfl⟩ := ih _ _ _ h; exact ⟨rfl, rfl⟩
  | and f1 f2 ih1 ih2 =>
    intro g r r' h
    cases g <;> simp [enc] at h
    · obtain ⟨rfl, h⟩ := ih1 _ _ _ h
      simp at h
      obtain ⟨rfl, h⟩ := ih2 _ _ _ h
      simp at h
      exact ⟨rfl, h⟩
    · obtain ⟨rfl, h⟩ := ih1 _ _ _ h
      simp at h
  | or f1 f2 ih1 ih2 =>
    intro g r r' h
    cases g <;> simp [enc] at h
    · obtain ⟨rfl, h⟩ := ih1 _ _ _ h
      simp at h
    · obtain ⟨rfl, h⟩ := ih1 _ _ _ h
      simp at h
      obtain ⟨rfl, h⟩ := ih2 _ _ _ h
      simp at h
      exact ⟨rfl, h⟩

theorem enc_inj' {f g : Fm} (h : f.enc = g.enc) : f = g := (enc_inj f g [] [] (by simpa using h)).1

def deep : Fm → Nat
  | t => 0
  | neg f => deep f
  | S f => deep f + 1
  | A f => deep f + 1
  | and f g => max (deep f) (deep g)
  | or f g => max (deep f) (deep g)

def opp : Fm → Fm
  | t => neg t
  | neg f => f
  | S f => A (opp f)
  | A f => S (opp f)
  | and f g => or (opp f) (opp g)
  | or f g => and (opp f) (opp g)

theorem deep_opp (f : Fm) : f.opp.deep = f.deep := by induction f <;> simp_all [opp, deep]
theorem deep_lt (f : Fm) : f.deep < f.enc.length := by induction f <;> simp_all [enc, deep] <;> omega
end Fm

open Classical in
/-- The formula with which a text begins, and what is behind it. -/
noncomputable def pre (l : List UInt8) : Option (Fm × List UInt8) :=
  if h : ∃ p : Fm × List UInt8, l = p.1.enc ++ p.2 then some (choose h) else none

theorem pre_eq {l : List UInt8} {f : Fm} {r : List UInt8} (h : l = f.enc ++ r) : pre l = some (f, r) := by
  have hx : ∃ p : Fm × List UInt8, l = p.1.enc ++ p.2 := ⟨(f, r), h⟩
  unfold pre
  rw [dif_pos hx]
  have hs := Classical.choose_spec hx
  generalize Classical.choose hx = p at hs
  obtain ⟨g, r'⟩ := p
  obtain ⟨rfl, rfl⟩ := Fm.enc_inj _ _ _ _ (h.symm.trans hs)
  rfl
theorem pre_some {l : List UInt8} {f : Fm} {r : List UInt8} (h : pre l = some (f, r)) : l = f.enc ++ r := by
  unfold pre at h
  split at h
  · rename_i hx
    have hs := Classical.choose_spec hx
    simp only [Option.some.injEq] at h
    rw [h] at hs
    exact hs
  · cases h
theorem pre_none {l : List UInt8} (h : ∀ f r, l ≠ Fm.enc f ++ r) : pre l = none := by
  unfold pre
  rw [dif_neg]
  rintro ⟨⟨f, r⟩, e⟩
  exact h f r e
theorem not_of_none {l : List UInt8} (h : pre l = none) (f : Fm) (r : List UInt8) : l ≠ f.enc ++ r := fun e => by rw [pre_eq e] at h; cases h
theorem pre_iff {l : List UInt8} {f : Fm} {r : List UInt8} : pre l = some (f, r) ↔ l = f.enc ++ r := ⟨pre_some, pre_eq⟩

theorem pre_nil : pre [] = none := pre_none fun f r h => by have := congrArg List.length h; have := f.enc_pos; simp at *; omega
theorem pre_t (r : List UInt8) : pre (116 :: r) = some (.t, r) := pre_eq rfl
theorem pre_neg {r r' : List UInt8} {f : Fm} (h : pre r = some (f, r')) : pre (33 :: r) = some (.neg f, r') := pre_eq (by rw [pre_some h]; rfl)
theorem pre_S {r r' : List UInt8} {f : Fm} (h : pre r = some (f, r')) : pre (83 :: r) = some (.S f, r') := pre_eq (by rw [pre_some h]; rfl)
theorem pre_A {r r' : List UInt8} {f : Fm} (h : pre r = some (f, r')) : pre (65 :: r) = some (.A f, r') := pre_eq (by rw [pre_some h]; rfl)
theorem pre_un_none {c : UInt8} {r : List UInt8} (h : pre r = none) (hc : c = 33 ∨ c = 83 ∨ c = 65) : pre (c :: r) = none := pre_none fun f r' e => by
  cases f <;> simp [Fm.enc] at e
  · obtain ⟨rfl, _⟩ := e; simp at hc
  · exact not_of_none h _ _ e.2
  · exact not_of_none h _ _ e.2
  · exact not_of_none h _ _ e.2
  · obtain ⟨rfl, _⟩ := e; simp at hc
  · obtain ⟨rfl, _⟩ := e; simp at hc
theorem pre_other {c : UInt8} {r : List UInt8} (h : c ≠ 116 ∧ c ≠ 33 ∧ c ≠ 83 ∧ c ≠ 65 ∧ c ≠ 40) : pre (c :: r) = none := pre_none fun f r' e => by
  cases f <;> simp [Fm.enc] at e <;> simp_all
theorem pre_and {r r2 r3 : List UInt8} {f g : Fm} (h1 : pre r = some (f, 38 :: r2)) (h2 : pre r2 = some (g, 41 :: r3)) : pre (40 :: r) = some (.and f g, r3) :=
  pre_eq (by rw [pre_some h1, pre_some h2]; simp [Fm.enc])
theorem pre_or {r r2 r3 : List UInt8} {f g : Fm} (h1 : pre r = some (f, 124 :: r2)) (h2 : pre r2 = some (g, 41 :: r3)) : pre (40 :: r) = some (.or f g, r3) :=
  pre_eq (by rw [pre_some h1, pre_some h2]; simp [Fm.enc])
theorem pre_br1 {r : List UInt8} (h : pre r = none) : pre (40 :: r) = none := pre_none fun f r' e => by
  cases f <;> simp [Fm.enc] at e
  · exact not_of_none h _ _ e
  · exact not_of_none h _ _ e
theorem pre_br2 {r r1 : List UInt8} {f : Fm} (h : pre r = some (f, r1)) (h1 : ∀ c r2, r1 = c :: r2 → c ≠ 38 ∧ c ≠ 124) : pre (40 :: r) = none := pre_none fun g r' e => by
  cases g <;> simp [Fm.enc] at e
  · rw [pre_eq e] at h
    simp at h
    obtain ⟨_, rfl⟩ := h
    exact (h1 _ _ rfl).1 rfl
  · rw [pre_eq e] at h
    simp at h
    obtain ⟨_, rfl⟩ := h
    exact (h1 _ _ rfl).2 rfl
theorem pre_br3 {r r2 : List UInt8} {f : Fm} {c : UInt8} (h : pre r = some (f, c :: r2)) (h2 : pre r2 = none) : pre (40 :: r) = none := pre_none fun g r' e => by
  cases g <;> simp [Fm.enc] at e
  all_goals
    rw [pre_eq e] at h
    simp at h
    obtain ⟨_, _, rfl⟩ := h
    exact not_of_none h2 _ _ rfl
theorem pre_br4 {r r2 r3 : List UInt8} {f g : Fm} {c : UInt8} (h : pre r = some (f, c :: r2)) (h2 : pre r2 = some (g, r3)) (h3 : ∀ r4, r3 ≠ 41 :: r4) : pre (40 :: r) = none := pre_none fun k r' e => by
  cases k <;> simp [Fm.enc] at e
  all_goals
    rw [pre_eq e] at h
    simp at h
    obtain ⟨_, _, rfl⟩ := h
    rw [pre_eq rfl] at h2
    simp at h2
    exact h3 _ h2.2.symm

/-- The formula that a text of at most 60 bytes is. -/
noncomputable def theF (s : List UInt8) : Option Fm :=
  if s.length ≤ 60 then match pre s with
    | some (f, []) => some f
    | _ => none
  else none
theorem theF_some {s : List UInt8} {f : Fm} : theF s = some f ↔ s = f.enc ∧ s.length ≤ 60 := by
  unfold theF
  split
  · rename_i hl
    constructor
    · intro h
      split at h
      · rename_i g hp
        simp at h
        subst h
        have := pre_some hp
        simp at this
        exact ⟨this, hl⟩
      · cases h
    · rintro ⟨rfl, _⟩
      rw [pre_eq (f := f) (r := []) (by simp)]
  · rename_i hl
    constructor
    · intro h; cases h
    · intro h; exact absurd h.2 hl
theorem theF_enc {f : Fm} (h : f.enc.length ≤ 60) : theF f.enc = some f := theF_some.2 ⟨rfl, h⟩
theorem theF_none {s : List UInt8} (h : theF s = none) (f : Fm) (hl : f.enc.length ≤ 60) : s ≠ f.enc := fun e => by
  subst e; rw [theF_enc hl] at h; cases h
theorem theF_long {s : List UInt8} (h : 60 < s.length) : theF s = none := by unfold theF; rw [if_neg (by omega)]

/-- Where the formula ends with which what is left of a text begins, n being the text's length; -1. -/
noncomputable def endV (l : List UInt8) (n : Nat) : Int := match pre l with
  | some (_, r) => ((n - r.length : Nat) : Int)
  | none => -1
end Go.Hs
