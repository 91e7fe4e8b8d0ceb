/- Slices of the call's own: each has its blocks for itself; they grow by append and are written. -/
import Derived.Test.YtgphoihilheoeaaDoorHsHeap
import Derived.Laws.AppendOwn
import Derived.Laws.OwnMore
set_option linter.unusedVariables false
namespace Go.Hs
open Go.RowKit (Below)

/-- Nothing that was there has turned, but for these blocks. -/
structure Only (fp : List Nat) (w w' : World) : Prop where
  os : w'.os = w.os
  tape : w'.tape = w.tape
  output : w'.output = w.output
  size : w.heap.size ≤ w'.heap.size
  block : ∀ k, k ∉ fp → k < w.heap.size → w'.heap[k]? = w.heap[k]?

section
variable {w w' w'' w0 : World} {fp fq : List Nat} {lo : Nat}
theorem Only.refl : Only fp w w := ⟨rfl, rfl, rfl, Nat.le_refl _, fun _ _ _ => rfl⟩
theorem Only.trans (h : Only fp w w') (k : Only fp w' w'') : Only fp w w'' :=
  ⟨k.os.trans h.os, k.tape.trans h.tape, k.output.trans h.output, Nat.le_trans h.size k.size, fun i h1 h2 => (k.block i h1 (Nat.lt_of_lt_of_le h2 h.size)).trans (h.block i h1 h2)⟩
theorem Only.mono (h : Only fp w w') (hs : ∀ k ∈ fp, k ∈ fq) : Only fq w w' := ⟨h.os, h.tape, h.output, h.size, fun k h1 h2 => h.block k (fun hk => h1 (hs k hk)) h2⟩
theorem Ext.only (h : Ext w w') : Only fp w w' := ⟨h.os, h.tape, h.output, h.size, fun k _ h2 => h.block k h2⟩
theorem Only.ext (h : Only fp w w') (e : Ext w0 w) (hf : ∀ k ∈ fp, w0.heap.size ≤ k) : Ext w0 w' :=
  ⟨h.os.trans e.os, h.tape.trans e.tape, h.output.trans e.output, Nat.le_trans e.size h.size, fun k hk => (h.block k (fun hm => by have := hf k hm; omega) (Nat.lt_of_lt_of_le hk e.size)).trans (e.block k hk)⟩
theorem Only.ext0 (h : Only [] w w') : Ext w w' := h.ext (Ext.refl w) (fun _ h => by cases h)
theorem Only.keep (h : Only fp w w') (hf : ∀ k ∈ fp, k < lo) : Keep lo w w' := fun k h1 h2 => h.block k (fun hm => by have := hf k hm; omega) h2
theorem Only.grownBy {ob : Option Nat} (h : w.grownBy w' ob) (hf : ∀ k, ob = some k → k ∈ fp) : Only fp w w' :=
  ⟨h.os, h.tape, h.output, h.size, fun k h1 h2 => h.block k h2 (fun e => h1 (hf k e.symm))⟩
theorem Only.setCell {b : Nat} {i : Nat} {v : Value} (hb : b ∈ fp) : Only fp w (w.setCell ⟨b, i, none⟩ v) :=
  ⟨rfl, rfl, rfl, by rw [size_setCell]; exact Nat.le_refl _, fun k h1 _ => heap_setCell_other v (fun e => h1 (by simp only at e; rw [e]; exact hb))⟩
end

theorem add_mk (b o j : Nat) : (⟨b, o, none⟩ : Addr).add j = ⟨b, o + j, none⟩ := by
  unfold Addr.add; split
  · simp_all
  · rfl
/-- A reading with the blocks that it has for itself. -/
class Loc {α : Type} (X : World → List Nat → Value → α → Prop) : Prop where
  loc : ∀ {w w' : World} {fp : List Nat} {v : Value} {x : α}, (∀ k ∈ fp, w'.heap[k]? = w.heap[k]?) → X w fp v x → X w' fp v x
  lt : ∀ {w : World} {fp : List Nat} {v : Value} {x : α}, X w fp v x → ∀ k ∈ fp, k < w.heap.size
  cell : ∀ {w : World} {fp : List Nat} {v : Value} {x : α}, X w fp v x → isCell v = true

class Shows {α : Type} (X : World → List Nat → Value → α → Prop) (E : outParam (World → Value → α → Prop)) : Prop where
  shows : ∀ {w : World} {fp : List Nat} {v : Value} {x : α}, X w fp v x → E w v x

def XInt : World → List Nat → Value → Int → Prop := fun _ fp v x => fp = [] ∧ v = .int .i64 x
def XBool : World → List Nat → Value → Bool → Prop := fun _ fp v x => fp = [] ∧ v = .bool x
def XStr : World → List Nat → Value → List UInt8 → Prop := fun _ fp v x => fp = [] ∧ v = .string ⟨x.toArray⟩ ∧ x.length ≤ 9223372036854775807
instance : Loc XInt := ⟨fun _ h => h, (fun h k hk => by rw [h.1] at hk; cases hk), fun h => by rw [h.2]; rfl⟩
instance : Loc XBool := ⟨fun _ h => h, (fun h k hk => by rw [h.1] at hk; cases hk), fun h => by rw [h.2]; rfl⟩
instance : Loc XStr := ⟨fun _ h => h, (fun h k hk => by rw [h.1] at hk; cases hk), fun h => by rw [h.2.1]; rfl⟩
instance : Shows XInt EInt := ⟨fun h => h.2⟩
instance : Shows XBool EBool := ⟨fun h => h.2⟩
instance : Shows XStr EStr := ⟨fun h => h.2⟩

def XAll {α : Type} (X : World → List Nat → Value → α → Prop) (w : World) : List (List Nat) → List Value → List α → Prop
  | [], [], [] => True
  | f :: fs, c :: cs, x :: xs => X w f c x ∧ XAll X w fs cs xs
  | _, _, _ => False

section
variable {α : Type} {X : World → List Nat → Value → α → Prop} {w w' : World} {fs fs' : List (List Nat)} {cs cs' : List Value} {xs xs' : List α}
theorem XAll.len : ∀ {fs : List (List Nat)} {cs : List Value} {xs : List α}, XAll X w fs cs xs → fs.length = xs.length ∧ cs.length = xs.length
  | [], [], [], _ => ⟨rfl, rfl⟩
  | f :: fs, c :: cs, x :: xs, h => by have := XAll.len h.2; simp; omega
  | [], _ :: _, _, h => h.elim
  | [], [], _ :: _, h => h.elim
  | _ :: _, [], _, h => h.elim
  | _ :: _, _ :: _, [], h => h.elim
theorem XAll.append : ∀ {fs : List (List Nat)} {cs : List Value} {xs : List α}, XAll X w fs cs xs → XAll X w fs' cs' xs' → XAll X w (fs ++ fs') (cs ++ cs') (xs ++ xs')
  | [], [], [], _, k => k
  | f :: fs, c :: cs, x :: xs, h, k => ⟨h.1, XAll.append h.2 k⟩
  | [], _ :: _, _, h, _ => h.elim
  | [], [], _ :: _, h, _ => h.elim
  | _ :: _, [], _, h, _ => h.elim
  | _ :: _, _ :: _, [], h, _ => h.elim
theorem XAll.at : ∀ {fs : List (List Nat)} {cs : List Value} {xs : List α} {i : Nat}, XAll X w fs cs xs → (hi : i < xs.length) → ∃ f c, fs[i]? = some f ∧ cs[i]? = some c ∧ X w f c xs[i]
  | f :: fs, c :: cs, x :: xs, 0, h, _ => ⟨f, c, rfl, rfl, h.1⟩
  | f :: fs, c :: cs, x :: xs, i + 1, h, hi => by
    obtain ⟨f', c', h1, h2, h3⟩ := XAll.at h.2 (i := i) (by simpa using hi)
    exact ⟨f', c', by simpa using h1, by simpa using h2, by simpa using h3⟩
  | [], [], [], _, _, hi => by simp at hi
  | [], _ :: _, _, _, h, _ => h.elim
  | [], [], _ :: _, _, h, _ => h.elim
  | _ :: _, [], _, _, h, _ => h.elim
  | _ :: _, _ :: _, [], _, h, _ => h.elim
theorem XAll.loc [Loc X] : ∀ {fs : List (List Nat)} {cs : List Value} {xs : List α}, (∀ k ∈ fs.flatten, w'.heap[k]? = w.heap[k]?) → XAll X w fs cs xs → XAll X w' fs cs xs
  | [], [], [], _, _ => trivial
  | f :: fs, c :: cs, x :: xs, hk, h => ⟨Loc.loc (fun k hm => hk k (by simp [hm])) h.1, XAll.loc (fun k hm => hk k (by simp only [List.flatten_cons, List.mem_append]; exact .inr hm)) h.2⟩
  | [], _ :: _, _, _, h => h.elim
  | [], [], _ :: _, _, h => h.elim
  | _ :: _, [], _, _, h => h.elim
  | _ :: _, _ :: _, [], _, h => h.elim
theorem XAll.lt [Loc X] : ∀ {fs : List (List Nat)} {cs : List Value} {xs : List α}, XAll X w fs cs xs → ∀ k ∈ fs.flatten, k < w.heap.size
  | [], [], [], _, k, hk => by cases hk
  | f :: fs, c :: cs, x :: xs, h, k, hk => by
    simp only [List.flatten_cons, List.mem_append] at hk
    rcases hk with hk | hk
    · exact Loc.lt h.1 k hk
    · exact XAll.lt h.2 k hk
  | [], _ :: _, _, h, _, _ => h.elim
  | [], [], _ :: _, h, _, _ => h.elim
  | _ :: _, [], _, h, _, _ => h.elim
  | _ :: _, _ :: _, [], h, _, _ => h.elim
theorem XAll.cells [Loc X] : ∀ {fs : List (List Nat)} {cs : List Value} {xs : List α}, XAll X w fs cs xs → ∀ u ∈ cs, isCell u = true
  | [], [], [], _, u, hu => by cases hu
  | f :: fs, c :: cs, x :: xs, h, u, hu => by
    rcases List.mem_cons.1 hu with rfl | hu
    · exact Loc.cell h.1
    · exact XAll.cells h.2 u hu
  | [], _ :: _, _, h, _, _ => h.elim
  | [], [], _ :: _, h, _, _ => h.elim
  | _ :: _, [], _, h, _, _ => h.elim
  | _ :: _, _ :: _, [], h, _, _ => h.elim
/-- Element i turned, all others as they were. -/
theorem XAll.turned [Loc X] : ∀ {fs : List (List Nat)} {cs : List Value} {xs : List α} {i : Nat} {f : List Nat} {u : Value} {x : α}, XAll X w fs cs xs → i < xs.length → X w' f u x →
    (∀ (j : Nat) g, j ≠ i → fs[j]? = some g → ∀ k ∈ g, w'.heap[k]? = w.heap[k]?) → XAll X w' (fs.set i f) (cs.set i u) (xs.set i x)
  | g :: fs, c :: cs, x :: xs, 0, f, u, y, h, _, hx, hk => by
    refine ⟨hx, XAll.loc (fun k hm => ?_) h.2⟩
    obtain ⟨g', hg, hm⟩ := List.mem_flatten.1 hm
    obtain ⟨j, hj, rfl⟩ := List.mem_iff_getElem.1 hg
    exact hk (j + 1) _ (by omega) (by simp [hj]) k hm
  | g :: fs, c :: cs, x :: xs, i + 1, f, u, y, h, hi, hx, hk =>
    ⟨Loc.loc (hk 0 g (by omega) rfl) h.1, XAll.turned h.2 (by simpa using hi) hx (fun j g' hj hg => hk (j + 1) g' (by omega) (by simpa using hg))⟩
  | [], [], [], _, _, _, _, _, hi, _, _ => by simp at hi
  | [], _ :: _, _, _, _, _, _, h, _, _, _ => h.elim
  | [], [], _ :: _, _, _, _, _, h, _, _, _ => h.elim
  | _ :: _, [], _, _, _, _, _, h, _, _, _ => h.elim
  | _ :: _, _ :: _, [], _, _, _, _, h, _, _, _ => h.elim
end

def XSl {α : Type} (e : TypeId) (X : World → List Nat → Value → α → Prop) (w : World) (fp : List Nat) (v : Value) (xs : List α) : Prop :=
  ∃ cs fps, w.ownsRow 0 e 1 v xs.length cs ∧ fp = v.ownBlock.toList ++ fps.flatten ∧ XAll X w fps cs xs

section
variable {α : Type} {X : World → List Nat → Value → α → Prop} {w w' : World} {fp : List Nat} {v : Value} {xs : List α} {e : TypeId}
theorem ownsRow_loc {n : Nat} {cs : List Value} (hk : ∀ k, v.ownBlock = some k → w'.heap[k]? = w.heap[k]?) (h : w.ownsRow 0 e 1 v n cs) : w'.ownsRow 0 e 1 v n cs := by
  refine ⟨h.1, ?_⟩
  rcases h.2 with hn | ⟨g, cap, cur, rfl, hb, hg, rest⟩
  · exact .inl hn
  · exact .inr ⟨g, cap, cur, rfl, hb, by rw [hk g rfl]; exact hg, rest⟩
instance loc_XSl [Loc X] : Loc (XSl e X) := ⟨by
    rintro w w' fp v xs hk ⟨cs, fps, h1, rfl, h3⟩
    exact ⟨cs, fps, ownsRow_loc (fun k e => hk k (by simp [e])) h1, rfl, h3.loc (fun k hm => hk k (by simp only [List.mem_append]; exact .inr hm))⟩, by
    rintro w fp v xs ⟨cs, fps, h1, rfl, h3⟩ k hk
    rcases List.mem_append.1 hk with hk | hk
    · exact (h1.lt k (by simpa using hk)).2
    · exact h3.lt k hk, by
    rintro w fp v xs ⟨cs, fps, h1, rfl, h3⟩
    rcases h1.2 with ⟨rfl, _⟩ | ⟨g, cap, cur, rfl, _⟩ <;> rfl⟩
instance shows_XSl {E : World → Value → α → Prop} [Shows X E] : Shows (XSl e X) (ESl E) := ⟨by
    rintro w fp v xs ⟨cs, fps, h1, rfl, h3⟩
    have hl := h3.len
    rcases h1.2 with ⟨rfl, h0⟩ | ⟨g, cap, cur, rfl, hb, hg, hnc, hcm, hcs, ht⟩
    · have : xs = [] := List.eq_nil_of_length_eq_zero h0
      subst this
      exact ⟨none, 0, rfl, RSl.nil⟩
    · refine ⟨_, _, rfl, by unfold maxLen at hcm; omega, .inr ⟨g, 0, rfl, fun i hi => ?_⟩⟩
      obtain ⟨f, c, h4, h5, h6⟩ := h3.at hi
      refine ⟨c, ?_, Shows.shows h6⟩
      have := h1.cells (g := g) rfl i c h5
      rw [add_mk] at this
      exact this⟩
theorem XSl.len_le (h : XSl e X w fp v xs) : xs.length ≤ 9223372036854775807 := by
  obtain ⟨cs, fps, h1, rfl, h3⟩ := h
  rcases h1.2 with ⟨rfl, h0⟩ | ⟨g, cap, cur, rfl, hb, hg, hnc, hcm, hcs, ht⟩
  · omega
  · unfold maxLen at hcm; omega
end

/-- Data that has its blocks for itself, all from lo on. -/
def Owned {α : Type} (lo : Nat) (X : World → List Nat → Value → α → Prop) (w : World) (v : Value) (x : α) : Prop :=
  ∃ fp : List Nat, fp.Nodup ∧ (∀ k ∈ fp, lo ≤ k) ∧ X w fp v x

/-- .. all from lo on, ahead of hi. -/
def OwnedB {α : Type} (lo hi : Nat) (X : World → List Nat → Value → α → Prop) (w : World) (v : Value) (x : α) : Prop :=
  ∃ fp : List Nat, fp.Nodup ∧ (∀ k ∈ fp, lo ≤ k ∧ k < hi) ∧ X w fp v x

/-- What a call leaves that hands back data of its own. -/
def RetO {α : Type} (w : World) (X : World → List Nat → Value → α → Prop) (x : α) : Value → World → Prop := fun v w' => Ext w w' ∧ Owned w.heap.size X w' v x

section
variable {α : Type} {X : World → List Nat → Value → α → Prop} {E : World → Value → α → Prop} {w w' w0 wb : World} {fp : List Nat} {v u : Value} {x y : α} {xs ys : List α} {e : TypeId} {lo lo' : Nat}
theorem Owned.keep [Loc X] (h : Owned lo X w v x) (k : Keep lo w w') : Owned lo X w' v x := by
  obtain ⟨fp, h1, h2, h3⟩ := h
  exact ⟨fp, h1, h2, Loc.loc (fun i hi => k i (h2 i hi) (Loc.lt h3 i hi)) h3⟩
theorem Owned.ext [Loc X] (h : Owned lo X w v x) (k : Ext w w') : Owned lo X w' v x := h.keep k.keep
theorem Owned.mono (h : Owned lo X w v x) (hl : lo' ≤ lo) : Owned lo' X w v x := by
  obtain ⟨fp, h1, h2, h3⟩ := h
  exact ⟨fp, h1, fun k hk => Nat.le_trans hl (h2 k hk), h3⟩
theorem Owned.above [Loc X] [Shows X E] (h : Owned lo X w v x) : Above lo E w v x := fun w1 k _ => by
  obtain ⟨fp, h1, h2, h3⟩ := h.keep k
  exact Shows.shows h3
theorem Owned.read [Loc X] [Shows X E] (h : Owned lo X w v x) : E w v x := h.above.here
theorem Owned.toB [Loc X] (h : Owned lo X w v x) : OwnedB lo w.heap.size X w v x := by
  obtain ⟨fp, h1, h2, h3⟩ := h
  exact ⟨fp, h1, fun k hk => ⟨h2 k hk, Loc.lt h3 k hk⟩, h3⟩
theorem OwnedB.o {hi : Nat} (h : OwnedB lo hi X w v x) : Owned lo X w v x := by
  obtain ⟨fp, h1, h2, h3⟩ := h
  exact ⟨fp, h1, fun k hk => (h2 k hk).1, h3⟩
theorem OwnedB.ext [Loc X] {hi : Nat} (h : OwnedB lo hi X w v x) (e : Ext w w') : OwnedB lo hi X w' v x := by
  obtain ⟨fp, h1, h2, h3⟩ := h
  exact ⟨fp, h1, h2, Loc.loc (fun k hk => e.block k (Loc.lt h3 k hk)) h3⟩
theorem OwnedB.wrote [Loc X] {hi b : Nat} (h : OwnedB lo hi X w v x) (K : ∀ k, k ≠ b → w'.heap[k]? = w.heap[k]?) (hb : b < lo ∨ hi ≤ b) : OwnedB lo hi X w' v x := by
  obtain ⟨fp, h1, h2, h3⟩ := h
  exact ⟨fp, h1, h2, Loc.loc (fun k hk => K k (by have := h2 k hk; omega)) h3⟩
theorem OwnedB.read [Loc X] [Shows X E] {hi : Nat} (h : OwnedB lo hi X w v x) : E w v x := h.o.read
theorem OwnedB.above [Loc X] [Shows X E] {hi : Nat} (h : OwnedB lo hi X w v x) : Above lo E w v x := h.o.above
theorem OwnedB.len_le {hi : Nat} {xs : List α} (h : OwnedB lo hi (XSl e X) w v xs) : xs.length ≤ 9223372036854775807 := by
  obtain ⟨fp, h1, h2, h3⟩ := h.o
  exact h3.len_le
instance mono_OwnedB [Loc X] {hi : Nat} : Mono (OwnedB lo hi X) := ⟨fun e h => h.ext e⟩
instance mono_Owned [Loc X] : Mono (Owned lo X) := ⟨fun e h => h.ext e⟩
theorem Owned.nil : Owned lo (XSl e X) w (.slice none 0 0) [] := ⟨[], List.nodup_nil, (fun _ h => by cases h), [], [], World.ownsRow_nil w 0 e 1, rfl, trivial⟩
theorem Owned.len_le (h : Owned lo (XSl e X) w v xs) : xs.length ≤ 9223372036854775807 := by
  obtain ⟨fp, h1, h2, h3⟩ := h
  exact h3.len_le
theorem XAll.rep {z : Value} {x : α} (n : Nat) (hx : X w [] z x) : XAll X w (List.replicate n []) (List.replicate n z) (List.replicate n x) := by
  induction n with
  | zero => trivial
  | succ n ih => exact ⟨hx, ih⟩
theorem ownsRow_block {b : Nat} {cs : List Value} (hb : w.heap[b]? = some (.cells cs.toArray e (0, 0))) (hm : cs.length ≤ maxLen) :
    w.ownsRow 0 e 1 (.slice (some ⟨b, 0, none⟩) cs.length cs.length) cs.length cs :=
  ⟨by simp, .inr ⟨b, cs.length, cs.toArray, rfl, Nat.zero_le _, hb, Nat.le_refl _, hm, by simp, by simp⟩⟩
/-- A block all of whose cells hold elements without blocks of their own. -/
theorem Owned.block {b n : Nat} {cs : List Value} (hb : w.heap[b]? = some (.cells cs.toArray e (0, 0))) (hl : lo ≤ b) (hn : cs.length = n) (hm : n ≤ maxLen) (hx : XAll X w (List.replicate n []) cs xs) :
    Owned lo (XSl e X) w (.slice (some ⟨b, 0, none⟩) n n) xs := by
  subst hn
  have hlen := hx.len
  refine ⟨[b], List.nodup_cons.2 ⟨by simp, List.nodup_nil⟩, fun k hk => by simp at hk; omega, cs, List.replicate cs.length [], ?_, ?_, hx⟩
  · rw [← hlen.2]; exact ownsRow_block hb hm
  · have : (List.replicate cs.length ([] : List Nat)).flatten = [] := by
      generalize cs.length = n
      induction n with
      | zero => rfl
      | succ n ih => rw [List.replicate_succ, List.flatten_cons, ih]; rfl
    rw [this]; rfl
theorem Owned.made {b n : Nat} {z : Value} (hb : w.heap[b]? = some (.cells (List.replicate n z).toArray e (0, 0))) (hl : lo ≤ b) (hm : n ≤ maxLen) (hx : X w [] z x) :
    Owned lo (XSl e X) w (.slice (some ⟨b, 0, none⟩) n n) (List.replicate n x) := by
  exact Owned.block hb hl (by simp) hm (XAll.rep n hx)
end

/-! ### append -/
section
variable {P : Program} {w : World} {lo : Nat} {t ty e : TypeId} {i : TypeInfo} {z : Value} {v : Value} {n : Nat} {cs : List Value}
theorem oneCell_of {u : Value} (h : isCell u = true) : u.oneCell' = true := by cases u <;> first | rfl | cases h
theorem run_app (ht : P.underlying t = some (.slice e)) (hi : P.info? e = some i) (hz : i.zero = some z) (hs : i.size = 1) (hby : i.bytes ≤ 64) (hz1 : isCell z = true)
    (hown : w.ownsRow lo e 1 v n cs) (a : Addr) (m c : Nat) (news : List Value) (hl : news.length = m) (hnews : ∀ j u, news[j]? = some u → w.cell? (a.add j) = some u) (h1 : ∀ u ∈ news, isCell u = true)
    (hbig : n + m ≤ 1099511627776) (hlo : lo ≤ w.heap.size) :
    ∃ v' w', (Builtin.append_ #[t, t] ty #[v, .slice (some a) m c]).run P w = .ok v' w' ∧ w'.ownsRow lo e 1 v' (n + m) (cs ++ news) ∧ w.grownBy w' v.ownBlock ∧
      (v'.ownBlock = v.ownBlock ∨ ∃ g, v'.ownBlock = some g ∧ w.heap.size ≤ g) := by
  have h1' : ∀ u ∈ news, u.oneCell' = true := fun u hu => oneCell_of (h1 u hu)
  have hzs : z.cells.size = 1 := by rw [isCell_cells hz1]; rfl
  have hmul : (n + m) * i.bytes ≤ 140737488355328 := by
    have := Nat.mul_le_mul hbig hby
    omega
  obtain ⟨v', w', hr, h2, h3, h4⟩ := run_append_own (P := P) w lo t ty e i z 1 i.bytes ht hi hz hs rfl hzs (by omega) v n cs hown a m c news (by omega) hnews h1' (by unfold maxLen; omega) hmul hlo
  refine ⟨v', w', hr, h2, h3, ?_⟩
  have hl' : news.length = m * i.size := by rw [hs]; omega
  rcases hown.2 with ⟨rfl, rfl⟩ | ⟨g, cap, cur, rfl, hbg, hg, hnc, hcm, hcs, htake⟩
  · by_cases hm : m = 0
    · left; rw [h4.2 ⟨rfl, hm⟩]
    · have hr2 := run_append_nil (P := P) w t ty e i z ht hi hz a m c news hl' hnews (by omega) (by omega) (by simp only [Nat.zero_add] at hmul; omega)
      rw [hr] at hr2
      injection hr2 with e1 e2
      right; exact ⟨w.heap.size, by rw [e1]; rfl, Nat.le_refl _⟩
  · by_cases hroom : n + m ≤ cap
    · obtain ⟨w2, hr2, _⟩ := run_append_fits (P := P) w lo t ty e i 1 ht hi hs g n cap cs hown a m c news (by omega) hnews h1' hroom
      rw [hr] at hr2
      injection hr2 with e1 e2
      left; rw [e1]; rfl
    · have holds : ∀ j u, cs[j]? = some u → w.cell? ((⟨g, 0, none⟩ : Addr).add j) = some u := hown.cells (g := g) rfl
      have hlc : cs.length = n * i.size := by rw [hs]; exact hown.1
      have hr2 := run_append_grow (P := P) w t ty e i z ht hi hz ⟨g, 0, none⟩ n cap cs hlc holds a m c news hl' hnews (by omega) (by omega) (growslice_fits (by omega) hmul)
      rw [hr] at hr2
      injection hr2 with e1 e2
      right; exact ⟨w.heap.size, by rw [e1]; rfl, Nat.le_refl _⟩
end

section
variable {α : Type} {X : World → List Nat → Value → α → Prop} {w wb : World} {v : Value} {xs ys : List α} {e t ty : TypeId} {lo : Nat} {P : Program} {i : TypeInfo} {z : Value}
/-- New elements, each with blocks of its own, put behind. -/
theorem Owned.app [Loc X] (ht : P.underlying t = some (.slice e)) (hi : P.info? e = some i) (hz : i.zero = some z) (hs : i.size = 1) (hby : i.bytes ≤ 64) (hz1 : isCell z = true)
    {hi' : Nat} (h : OwnedB lo hi' (XSl e X) w v xs) (a : Addr) (m c : Nat) (news : List Value) (fu : List (List Nat)) (hl : news.length = m) (hnews : ∀ j u, news[j]? = some u → w.cell? (a.add j) = some u)
    (hx : XAll X w fu news ys) (hnd : fu.flatten.Nodup) (hlf : ∀ k ∈ fu.flatten, hi' ≤ k)
    (hbig : xs.length + m ≤ 1099511627776) (hlo : lo ≤ hi') (hlw : lo ≤ w.heap.size) :
    ∃ v' w', (Builtin.append_ #[t, t] ty #[v, .slice (some a) m c]).run P w = .ok v' w' ∧ Owned lo (XSl e X) w' v' (xs ++ ys) ∧ w.grownBy w' v.ownBlock ∧
      (v'.ownBlock = v.ownBlock ∨ ∃ g, v'.ownBlock = some g ∧ w.heap.size ≤ g) := by
  obtain ⟨fp, hn, hB, hX⟩ := h
  have hge : ∀ k ∈ fp, lo ≤ k := fun k hk => (hB k hk).1
  have hX' := hX
  have hdis' : ∀ k ∈ fu.flatten, k ∉ fp := fun k hk hm => by have := hlf k hk; have := (hB k hm).2; omega
  obtain ⟨cs, fps, hr, rfl, hA⟩ := hX
  have hys := hx.len
  obtain ⟨v', w', h1, h2, h3, h4⟩ := run_app (P := P) (ty := ty) ht hi hz hs hby hz1 hr a m c news hl hnews hx.cells (by omega) (Nat.zero_le _)
  refine ⟨v', w', h1, ?_, h3, h4⟩
  have hlt := Loc.lt hX'
  have hltu := hx.lt
  have nin : ∀ k ∈ fps.flatten, some k ≠ v.ownBlock := by
    intro k hk e
    have h5 := (List.nodup_append.1 hn).2.2
    exact h5 k (by rw [← e]; simp) k hk rfl
  have ninu : ∀ k ∈ fu.flatten, some k ≠ v.ownBlock := by
    intro k hk e
    exact hdis' k hk (by rw [← e]; simp)
  refine ⟨v'.ownBlock.toList ++ (fps ++ fu).flatten, ?_, ?_, cs ++ news, fps ++ fu, ?_, rfl, ?_⟩
  · rw [List.flatten_append]
    rw [List.nodup_append] at hn
    have base : (fps.flatten ++ fu.flatten).Nodup := List.nodup_append.2 ⟨hn.2.1, hnd, fun a ha b hb hab => hdis' b hb (by subst hab; exact List.mem_append_right _ ha)⟩
    rcases h4 with h4 | ⟨g, h4, hg⟩
    · rw [h4]
      refine List.nodup_append.2 ⟨hn.1, base, fun a ha b hb hab => ?_⟩
      subst hab
      rcases List.mem_append.1 hb with hb | hb
      · exact hn.2.2 a ha a hb rfl
      · exact hdis' a hb (List.mem_append_left _ ha)
    · rw [h4]
      refine List.nodup_append.2 ⟨by simp, base, fun a ha b hb hab => ?_⟩
      subst hab
      simp at ha
      subst ha
      rcases List.mem_append.1 hb with hb | hb
      · have := hlt a (List.mem_append_right _ hb); omega
      · have := hltu a hb; omega
  · intro k hk
    rw [List.flatten_append] at hk
    rcases List.mem_append.1 hk with hk | hk
    · rcases h4 with h4 | ⟨g, h4, hg⟩
      · rw [h4] at hk; exact hge k (List.mem_append_left _ hk)
      · rw [h4] at hk; simp at hk; omega
    · rcases List.mem_append.1 hk with hk | hk
      · exact hge k (List.mem_append_right _ hk)
      · have := hlf k hk; omega
  · have : (xs ++ ys).length = xs.length + m := by rw [List.length_append]; omega
    rw [this]; exact h2
  · refine XAll.append (hA.loc fun k hk => ?_) (hx.loc fun k hk => ?_)
    · exact h3.block k (hlt k (List.mem_append_right _ hk)) (nin k hk)
    · exact h3.block k (hltu k hk) (ninu k hk)
end

/-! ### Elements without blocks of their own -/
class Scal {α : Type} (X : World → List Nat → Value → α → Prop) (E : outParam (World → Value → α → Prop)) : Prop where
  give : ∀ {w : World} {v : Value} {x : α}, E w v x → X w [] v x
  turn : ∀ {w w' : World} {v : Value} {x : α}, E w v x → E w' v x
instance : Scal XInt EInt := ⟨fun h => ⟨rfl, h⟩, fun h => h⟩
instance : Scal XBool EBool := ⟨fun h => ⟨rfl, h⟩, fun h => h⟩
instance : Scal XStr EStr := ⟨fun h => ⟨rfl, h⟩, fun h => h⟩

section
variable {α : Type} {X : World → List Nat → Value → α → Prop} {E : World → Value → α → Prop} {w w' w0 wb : World} {v u xv : Value} {x y : α} {xs ys : List α} {e : TypeId} {lo lo' : Nat}
theorem Owned.scal [Scal X E] (h : E w v x) : Owned lo X w v x := ⟨[], List.nodup_nil, (fun _ h => by cases h), Scal.give h⟩
theorem Owned.int {n : Int} : Owned lo XInt w (.int .i64 n) n := Owned.scal (E := EInt) rfl
theorem Owned.bool {b : Bool} : Owned lo XBool w (.bool b) b := Owned.scal (E := EBool) rfl
theorem Owned.str {s : List UInt8} (h : s.length ≤ 9223372036854775807) : Owned lo XStr w (str s) s := Owned.scal (E := EStr) ⟨rfl, h⟩
theorem Owned.lt_own (h : Owned lo (XSl e X) w v xs) {k : Nat} (hk : v.ownBlock = some k) : lo ≤ k ∧ k < w.heap.size := by
  obtain ⟨fp, h1, h2, cs, fps, h3, rfl, h5⟩ := h
  exact ⟨h2 k (by simp [hk]), (h3.lt k hk).2⟩
/-- An own slice that is not empty has a place. -/
theorem Owned.lit (h : Owned lo (XSl e X) w v xs) (hp : 0 < xs.length) : ∃ b c, v = .slice (some ⟨b, 0, none⟩) xs.length c ∧ xs.length ≤ c := by
  obtain ⟨fp, h1, h2, cs, fps, h3, rfl, h5⟩ := h
  rcases h3.2 with ⟨rfl, h0⟩ | ⟨g, cap, cur, rfl, _, _, hc, _⟩
  · omega
  · exact ⟨g, cap, rfl, hc⟩

/-- It does not look at this slice's block. -/
def Besides {β : Type} (ob : Option Nat) (E : World → Value → β → Prop) (w : World) (v : Value) (x : β) : Prop :=
  ∀ w1, (∀ k, ob ≠ some k → k < w.heap.size → w1.heap[k]? = w.heap[k]?) → w.heap.size ≤ w1.heap.size → E w1 v x
/-- What an append leaves of the rest. -/
def Moves (w : World) (v : Value) (w' : World) (v' : Value) : Prop := w.grownBy w' v.ownBlock ∧ (v'.ownBlock = v.ownBlock ∨ ∃ g, v'.ownBlock = some g ∧ w.heap.size ≤ g)
section
variable {β : Type} {F : World → Value → β → Prop} {z : Value} {q : β} {v' : Value}
theorem Besides.here {ob : Option Nat} (h : Besides ob F w z q) : F w z q := h w (fun _ _ _ => rfl) (Nat.le_refl _)
theorem Besides.moves (h : Besides v.ownBlock F w z q) (m : Moves w v w' v') : Besides v'.ownBlock F w' z q := by
  intro w1 h1 h2
  have hs := m.1.size
  refine h w1 (fun k hk hlt => ?_) (by omega)
  have e1 : w'.heap[k]? = w.heap[k]? := m.1.block k hlt (fun e => hk e.symm)
  rw [← e1]
  refine h1 k (fun e => ?_) (by omega)
  rcases m.2 with h4 | ⟨g, h4, hg⟩
  · rw [h4] at e; exact hk e
  · rw [h4] at e; cases e; omega
theorem Besides.ext {ob : Option Nat} (h : Besides ob F w z q) (e : Ext w w') : Besides ob F w' z q := fun w1 h1 h2 => by
  have hs := e.size
  exact h w1 (fun k hk hlt => by rw [← e.block k hlt]; exact h1 k hk (by omega)) (by omega)
theorem OwnedB.moves {γ : Type} {Y : World → List Nat → Value → γ → Prop} [Loc Y] {zs : γ} {lt ht hi : Nat} {e' : TypeId} {u : Value} {α' : Type} {X' : World → List Nat → Value → α' → Prop} {xs' : List α'} (h : OwnedB lo hi Y w u zs) (m : Moves w v w' v')
    (k : OwnedB lt ht (XSl e' X') w v xs') (hd : ht ≤ lo ∨ hi ≤ lt) : OwnedB lo hi Y w' u zs := by
  obtain ⟨fp, h1, h2, h3⟩ := h
  refine ⟨fp, h1, h2, Loc.loc (fun i hi' => m.1.block i (Loc.lt h3 i hi') (fun e => ?_)) h3⟩
  obtain ⟨fq, k1, k2, cs, fps, k3, rfl, k4⟩ := k
  have := k2 i (by simp [← e])
  have := h2 i hi'
  omega
theorem Moves.ext {lt ht : Nat} {e' : TypeId} {α' : Type} {X' : World → List Nat → Value → α' → Prop} {xs' : List α'} (m : Moves w v w' v') (k : OwnedB lt ht (XSl e' X') w v xs') (h : Ext w0 w) (hl : w0.heap.size ≤ lt) : Ext w0 w' := by
  obtain ⟨fq, k1, k2, cs, fps, k3, rfl, k4⟩ := k
  exact ⟨m.1.os.trans h.os, m.1.tape.trans h.tape, m.1.output.trans h.output, Nat.le_trans h.size m.1.size, fun i hi => (m.1.block i (Nat.lt_of_lt_of_le hi h.size) (fun e => by have := k2 i (by simp [← e]); omega)).trans (h.block i hi)⟩
theorem Blk.moves {lt ht b : Nat} {cs : List Value} {e' : TypeId} {α' : Type} {X' : World → List Nat → Value → α' → Prop} {xs' : List α'} (h : Blk w b cs) (m : Moves w v w' v') (k : OwnedB lt ht (XSl e' X') w v xs') (hd : ht ≤ b ∨ b < lt) : Blk w' b cs := by
  refine h.of_heap (m.1.block b h.lt (fun e => ?_))
  obtain ⟨fq, k1, k2, cs, fps, k3, rfl, k4⟩ := k
  have := k2 b (by simp [← e])
  omega
theorem Besides.start (h : Owned lo (XSl e X) wb v xs) (hq : Above wb.heap.size F w z q) : Besides v.ownBlock F w z q := fun w1 h1 h2 =>
  hq w1 (fun k hk hlt => h1 k (fun e => by have := (h.lt_own e).2; omega) hlt) h2
end
end

section
variable {P : Program} {n : Nat} {N : Env → World → Prop} {ρ : Env} {w w0 wb : World} {all : Array Oper} {rest : List Oper}
  {d : Nat} {ty t e : TypeId} {pos : String} {after : Array Edge} {g : Option (Nat × Bool)} {s x y : Operand} {v u xv : Value} {b c lo : Nat} {i : TypeInfo} {z : Value}
  {α : Type} {X : World → List Nat → Value → α → Prop} {E : World → Value → α → Prop} {xs ys : List α} {q : α}
theorem Wo_run {v : Value} {w' : World} {op : Op} (hw : wantedE all ⟨some d, op, ty, pos, after, g⟩ ρ = true) (hv : (execOp (evalE ρ) ⟨none, op, ty, "", #[], none⟩).run P w = .ok (.value v) w') (hk : Wops P n all rest N (upd ρ d v) w') :
    Wops P n all (⟨some d, op, ty, pos, after, g⟩ :: rest) N ρ w := Wo_w hw (by unfold OpW; exact hv) hk
/-- What a program tells of an element's type: one cell, of few bytes. -/
structure El (P : Program) (t e : TypeId) (z : Value) : Prop where
  und : P.underlying t = some (.slice e)
  info : ∃ i, P.info? e = some i ∧ i.zero = some z ∧ i.size = 1 ∧ i.bytes ≤ 64
  zero : isCell z = true
theorem El.of (hu : P.underlying t = some (.slice e)) (h : (P.info? e).map (fun i => (i.zero, i.size, Nat.ble i.bytes 64)) = some (some z, 1, true)) (hz : isCell z = true) : El P t e z := by
  refine ⟨hu, ?_, hz⟩
  cases hi : P.info? e with
  | none => rw [hi] at h; cases h
  | some i =>
    rw [hi] at h
    simp only [Option.map_some, Option.some.injEq, Prod.mk.injEq] at h
    exact ⟨i, rfl, h.1, h.2.1, by simpa using h.2.2⟩
theorem Wo_app1 [Loc X] (hw : wantedE all ⟨some d, .call { callee := .builtin .append, args := #[s, x], argTypes := #[t, t] }, ty, pos, after, g⟩ ρ = true) (hel : El P t e z)
    (hv : evalE ρ s = v) (hx : evalE ρ x = .slice (some ⟨b, 0, none⟩) 1 c) (hB : Blk w b [u]) {hi lu : Nat} (h : OwnedB lo hi (XSl e X) w v xs) (hu : Owned lu X w u q) (hlu : hi ≤ lu)
    (hbig : xs.length + 1 ≤ 1099511627776) (hlo : lo ≤ hi) (hlw : lo ≤ w.heap.size) (h0 : Ext w0 w) (hl0 : w0.heap.size ≤ lo)
    (hk : ∀ v' w', Owned lo (XSl e X) w' v' (xs ++ [q]) → Ext w0 w' → Moves w v w' v' → Wops P n all rest N (upd ρ d v') w') :
    Wops P n all (⟨some d, .call { callee := .builtin .append, args := #[s, x], argTypes := #[t, t] }, ty, pos, after, g⟩ :: rest) N ρ w := by
  obtain ⟨i, hi, hz, hs, hby⟩ := hel.info
  obtain ⟨fu, hn, hge, hX⟩ := hu
  have hcell : w.cell? ⟨b, 0, none⟩ = some u := hB.cell rfl
  obtain ⟨v', w', h1, h2, h3, h4⟩ := Owned.app (P := P) (ty := ty) (ys := [q]) hel.und hi hz hs hby hel.zero h ⟨b, 0, none⟩ 1 c [u] [fu] rfl (fun j u' hj => by
    cases j with
    | zero => simp at hj; subst hj; simpa [Addr.add] using hcell
    | succ j => simp at hj) ⟨hX, trivial⟩ (by simpa using hn) (by simp only [List.flatten_cons, List.flatten_nil, List.append_nil]; intro k hk; exact Nat.le_trans hlu (hge k hk)) hbig hlo hlw
  refine Wo_run (v := v') (w' := w') hw ?_ (hk v' w' h2 ((Only.grownBy (fp := v.ownBlock.toList) h3 (fun k hk => by simp [hk])).ext h0 (fun k hk => ?_)) ⟨h3, h4⟩)
  · simp only [execOp, resolve, invoke, builtin, Sem.run_bind, Sem.run_pure, Result.andThen_ok, List.map_toArray, List.map_cons, List.map_nil, hv, hx, h1]
  · have : v.ownBlock = some k := by simpa using hk
    have := (h.o.lt_own this).1
    omega
/-- append(xs, ys...) -/
theorem Wo_appS [Loc X] [Scal X E] (hw : wantedE all ⟨some d, .call { callee := .builtin .append, args := #[s, x], argTypes := #[t, t] }, ty, pos, after, g⟩ ρ = true) (hel : El P t e z)
    (hv : evalE ρ s = v) (hx : evalE ρ x = xv) (hy : ESl E w xv ys) {hi : Nat} (h : OwnedB lo hi (XSl e X) w v xs)
    (hbig : xs.length + ys.length ≤ 1099511627776) (hlo : lo ≤ hi) (hlw : lo ≤ w.heap.size) (h0 : Ext w0 w) (hl0 : w0.heap.size ≤ lo)
    (hk : ∀ v' w', Owned lo (XSl e X) w' v' (xs ++ ys) → Ext w0 w' → Moves w v w' v' → Wops P n all rest N (upd ρ d v') w') :
    Wops P n all (⟨some d, .call { callee := .builtin .append, args := #[s, x], argTypes := #[t, t] }, ty, pos, after, g⟩ :: rest) N ρ w := by
  obtain ⟨i, hi, hz, hs, hby⟩ := hel.info
  obtain ⟨a, c, rfl, hm, hR⟩ := hy
  have hcells : ∃ ad : Addr, (a = some ad ∨ (a = none ∧ ys = [])) ∧ ∃ news : List Value, news.length = ys.length ∧ (∀ j u, news[j]? = some u → w.cell? (ad.add j) = some u) ∧ XAll X w (List.replicate ys.length []) news ys := by
    rcases hR with rfl | ⟨b, o, rfl, hc⟩
    · cases a with
      | none => exact ⟨⟨0, 0, none⟩, .inr ⟨rfl, rfl⟩, [], rfl, fun j u h => by simp at h, trivial⟩
      | some ad => exact ⟨ad, .inl rfl, [], rfl, fun j u h => by simp at h, trivial⟩
    · refine ⟨⟨b, o, none⟩, .inl rfl, ?_⟩
      clear hk hv hx hm hbig
      induction ys generalizing o with
      | nil => exact ⟨[], rfl, fun j u h => by simp at h, trivial⟩
      | cons y ys ih =>
        obtain ⟨u, hu, hE⟩ := hc 0 (by simp)
        obtain ⟨news, h1, h2, h3⟩ := ih (o := o + 1) (fun i hi => by
          obtain ⟨u, h5, h6⟩ := hc (i + 1) (by simpa using hi)
          exact ⟨u, by rw [← h5]; congr 2; omega, by simpa using h6⟩)
        have add := add_mk b
        refine ⟨u :: news, by simp [h1], fun j u' hj => ?_, ⟨Scal.give hE, h3⟩⟩
        cases j with
        | zero => simp at hj; subst hj; rw [add]; simpa using hu
        | succ j =>
          have := h2 j u' (by simpa using hj)
          rw [add] at this ⊢
          rw [← this]; congr 2; omega
  obtain ⟨ad, had, news, hnl, hnews, hXA⟩ := hcells
  have hflat : (List.replicate ys.length ([] : List Nat)).flatten = [] := by
    generalize ys.length = n
    induction n with
    | zero => rfl
    | succ n ih => rw [List.replicate_succ, List.flatten_cons, ih]; rfl
  rcases had with rfl | ⟨rfl, rfl⟩
  · obtain ⟨v', w', h1, h2, h3, h4⟩ := Owned.app (P := P) (ty := ty) (ys := ys) hel.und hi hz hs hby hel.zero h ad ys.length c news (List.replicate ys.length []) hnl hnews hXA (by rw [hflat]; exact List.nodup_nil) (by rw [hflat]; intro k hk; cases hk) hbig hlo hlw
    refine Wo_run (v := v') (w' := w') hw ?_ (hk v' w' h2 ((Only.grownBy (fp := v.ownBlock.toList) h3 (fun k hk => by simp [hk])).ext h0 (fun k hk => ?_)) ⟨h3, h4⟩)
    · simp only [execOp, resolve, invoke, builtin, Sem.run_bind, Sem.run_pure, Result.andThen_ok, List.map_toArray, List.map_cons, List.map_nil, hv, hx, h1]
    · have : v.ownBlock = some k := by simpa using hk
      have := (h.o.lt_own this).1
      omega
  · have h' := h.o
    have hrun : (Builtin.append_ #[t, t] ty #[v, .slice none 0 c]).run P w = .ok v w := by
      obtain ⟨fp, _, _, cs, fps, h3, _, _⟩ := h'
      rcases h3.2 with ⟨rfl, h0⟩ | ⟨g, cap, cur, rfl, _, _, hnc, _⟩
      · simp [Builtin.append_, run_underlying hel.und, sizeOf, typeInfo, hi, Builtin.lenOf, Builtin.firstCells]
      · simp [Builtin.append_, run_underlying hel.und, sizeOf, typeInfo, hi, Builtin.lenOf, Builtin.firstCells, hnc, storeCells]
    refine Wo_run (v := v) (w' := w) hw ?_ (hk v w (by simpa using h') h0 ⟨⟨rfl, rfl, rfl, Nat.le_refl _, fun _ _ _ => rfl⟩, .inl rfl⟩)
    simp only [execOp, resolve, invoke, builtin, Sem.run_bind, Sem.run_pure, Result.andThen_ok, List.map_toArray, List.map_cons, List.map_nil, hv, hx, List.length_nil, hrun]
end
end Go.Hs
