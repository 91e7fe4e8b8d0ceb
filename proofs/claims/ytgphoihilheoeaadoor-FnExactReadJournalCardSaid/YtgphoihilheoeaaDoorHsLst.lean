/- The least picture of a set: no program in sight. -/
import Derived.Test.YtgphoihilheoeaaDoorHsGr
import Derived.Test.YtgphoihilheoeaaDoorHsTxt
set_option linter.unusedVariables false
set_option linter.unusedSimpArgs false
namespace Go.Hs
open Classical Op
section
variable {p q c c' : List (List Int)} {a b n k : Nat} {o o' L L' : List Nat}
/-- orders of the first ones, 0 staying first -/
def ordS (n : Nat) : Nat → List (List Nat)
  | 0 => [[0]]
  | k + 1 => (ordS n k).flatMap fun o => ((List.range n).filter fun x => decide (1 ≤ x) && !o.contains x).map fun x => o ++ [x]
def orders (n : Nat) : List (List Nat) := ordS n (n - 1)
def Pre (n : Nat) (o : List Nat) : Prop := o.Nodup ∧ o.head? = some 0 ∧ ∀ x ∈ o, x < n
def Ord (n : Nat) (o : List Nat) : Prop := o.length = n ∧ Pre n o
theorem Pre.pos (h : Pre n o) : 1 ≤ o.length := by
  have := h.2.1
  cases o with
  | nil => cases this
  | cons _ _ => simp
theorem Pre.le (h : Pre n o) : o.length ≤ n := nodup_len h.1 h.2.2
theorem Pre.snoc (h : Pre n o) {x : Nat} (hx : x < n) (hn : x ∉ o) : Pre n (o ++ [x]) := by
  refine ⟨List.nodup_append.2 ⟨h.1, by simp, fun a ha b hb e => ?_⟩, ?_, fun y hy => ?_⟩
  · simp only [List.mem_singleton] at hb; subst hb; subst e; exact hn ha
  · rw [List.head?_append, h.2.1]; rfl
  · rcases List.mem_append.1 hy with hy | hy
    · exact h.2.2 y hy
    · simp only [List.mem_singleton] at hy; subst hy; exact hx
theorem Pre.init {x : Nat} (h : Pre n (o ++ [x])) (ho : o ≠ []) : Pre n o ∧ x < n ∧ x ∉ o := by
  obtain ⟨h1, h2, h3⟩ := h
  rw [List.nodup_append] at h1
  refine ⟨⟨h1.1, ?_, fun y hy => h3 y (by simp [hy])⟩, h3 x (by simp), fun hm => h1.2.2 x hm x (by simp) rfl⟩
  cases o with
  | nil => exact absurd rfl ho
  | cons y o => simpa using h2
theorem mem_ordS (hn : 1 ≤ n) : ∀ (k : Nat) (o : List Nat), o ∈ ordS n k ↔ o.length = k + 1 ∧ Pre n o := by
  intro k
  induction k with
  | zero =>
    intro o
    simp only [ordS, List.mem_singleton]
    constructor
    · rintro rfl; exact ⟨rfl, by simp, rfl, by simp; omega⟩
    · rintro ⟨h1, h2⟩
      cases o with
      | nil => cases h1
      | cons x o =>
        have : o = [] := List.eq_nil_of_length_eq_zero (by simpa using h1)
        subst this
        have := h2.2.1
        simp at this; subst this; rfl
  | succ k ih =>
    intro o
    simp only [ordS, List.mem_flatMap, List.mem_map, List.mem_filter, List.mem_range, Bool.and_eq_true, decide_eq_true_eq, Bool.not_eq_true', List.contains_eq_mem, decide_eq_false_iff_not]
    constructor
    · rintro ⟨o', h1, x, ⟨h2, h3, h4⟩, rfl⟩
      obtain ⟨h5, h6⟩ := (ih o').1 h1
      exact ⟨by simp [h5], h6.snoc h2 h4⟩
    · rintro ⟨h1, h2⟩
      have hne : o ≠ [] := by rintro rfl; cases h1
      have e := List.dropLast_concat_getLast hne
      have hl : o.dropLast.length = k + 1 := by simp [h1]
      rw [← e] at h2
      obtain ⟨h3, h4, h5⟩ := h2.init (by intro h; rw [h] at hl; cases hl)
      refine ⟨o.dropLast, (ih _).2 ⟨hl, h3⟩, o.getLast hne, ⟨h4, ?_, h5⟩, e⟩
      rcases Nat.eq_zero_or_pos (o.getLast hne) with h0 | h0
      · exfalso
        rw [h0] at h5
        have := h3.2.1
        cases hd : o.dropLast with
        | nil => rw [hd] at hl; cases hl
        | cons y ys => rw [hd] at this h5; simp at this; exact h5 (by simp [this])
      · exact h0
theorem mem_orders (hn : 1 ≤ n) : o ∈ orders n ↔ Ord n o := by
  unfold orders Ord
  rw [mem_ordS hn]
  rw [show n - 1 + 1 = n by omega]

/-- the nodes in another order -/
def reo (c : List (List Int)) (o : List Nat) : List (List Int) := o.map fun i => o.map fun j => bit c i j
theorem reo_len : (reo c o).length = o.length := by simp [reo]
theorem bit_qp {i m : Nat} (hi : i < L.length) (hm : m < L.length) : bit (qp p L) i m = b01 ((arr p L[i]).any fun j => decide (knd p j = L[m])) := by
  unfold bit
  have e : (qp p L).getD i [] = L.map fun y => b01 ((arr p L[i]).any fun j => decide (knd p j = y)) := by
    rw [getD_lt (by rw [qp_len]; exact hi)]
    simp [qp]
  rw [e, getD_lt (by simpa using hm)]
  simp
theorem Ord.perm (h : Ord n o) : o.Perm (List.range n) := by
  refine (List.perm_ext_iff_of_nodup h.2.1 List.nodup_range).2 fun x => ⟨fun hx => List.mem_range.2 (h.2.2.2 x hx), fun hx => ?_⟩
  refine Classical.byContradiction fun hn => ?_
  have := nodup_len (n := n) (l := x :: o) (List.nodup_cons.2 ⟨hn, h.2.1⟩) (fun j hj => by
    rcases List.mem_cons.1 hj with rfl | hj
    · exact List.mem_range.1 hx
    · exact h.2.2.2 j hj)
  simp only [List.length_cons, h.1] at this
  omega
theorem reo_cand (hc : Cand p a c) (ho : Ord c.length o) : Cand p a (reo c o) := by
  obtain ⟨L, hL, rfl⟩ := hc
  rw [qp_len] at ho
  have hlt := ho.2.2.2
  have hpos : 1 ≤ L.length := by have := ho.2.pos; rw [ho.1] at this; exact this
  refine ⟨o.map fun i => L.getD i 0, ⟨?_, ?_, fun x => ?_⟩, ?_⟩
  · have hn := ho.2.1
    unfold List.Nodup at hn ⊢
    rw [List.pairwise_map]
    refine List.Pairwise.imp_of_mem (fun {x y} hx hy hxy e => hxy ?_) hn
    rw [getD_lt (hlt x hx), getD_lt (hlt y hy)] at e
    exact (List.getElem_inj hL.1).1 e
  · rw [List.head?_map, ho.2.2.1, ← hL.2.1]
    simp only [Option.map_some]
    rw [List.head?_eq_getElem?, List.getElem?_eq_getElem (by omega), getD_lt (by omega)]
  · rw [← hL.2.2 x, List.mem_map]
    constructor
    · rintro ⟨i, hi, rfl⟩
      rw [getD_lt (hlt i hi)]; exact List.getElem_mem _
    · intro hx
      obtain ⟨i, hi, e⟩ := List.mem_iff_getElem.1 hx
      refine ⟨i, ho.perm.mem_iff.2 (List.mem_range.2 hi), ?_⟩
      rw [getD_lt hi]; exact e
  · unfold reo
    rw [show qp p (o.map fun i => L.getD i 0) = o.map fun i => o.map fun m => b01 ((arr p (L.getD i 0)).any fun j => decide (knd p j = L.getD m 0)) by simp [qp]]
    refine List.map_congr_left fun i hi => List.map_congr_left fun m hm => ?_
    rw [bit_qp (hlt i hi) (hlt m hm), getD_lt (hlt i hi), getD_lt (hlt m hm)]
theorem cand_reo (hc : Cand p a c) (hc' : Cand p a c') : ∃ o, Ord c.length o ∧ c' = reo c o := by
  obtain ⟨L, hL, rfl⟩ := hc
  obtain ⟨L', hL', rfl⟩ := hc'
  have hperm := hL.perm hL'
  have hi : ∀ x ∈ L', L.idxOf x < L.length ∧ L.getD (L.idxOf x) 0 = x := fun x hx => by
    have h1 := List.idxOf_lt_length_iff.2 (hperm.mem_iff.2 hx)
    exact ⟨h1, by rw [getD_lt h1]; exact List.getElem_idxOf h1⟩
  have hpos : 1 ≤ L.length := by
    have := hL.2.1
    cases L with
    | nil => cases this
    | cons _ _ => simp
  have hback : (L'.map fun x => L.idxOf x).map (fun i => L.getD i 0) = L' := by
    rw [List.map_map]
    conv => rhs; rw [← List.map_id L']
    exact List.map_congr_left fun x hx => (hi x hx).2
  refine ⟨L'.map fun x => L.idxOf x, ⟨?_, ?_, ?_, fun i him => ?_⟩, ?_⟩
  · rw [List.length_map, qp_len, hperm.length_eq]
  · have hn := hL'.1
    unfold List.Nodup at hn ⊢
    rw [List.pairwise_map]
    refine List.Pairwise.imp_of_mem (fun {x y} hx hy hxy e => hxy ?_) hn
    rw [← (hi x hx).2, e, (hi y hy).2]
  · rw [List.head?_map, hL'.2.1]
    simp only [Option.map_some, Option.some.injEq]
    have := hL.2.1
    cases L with
    | nil => cases this
    | cons y L => simp at this; subst this; simp
  · obtain ⟨x, hx, rfl⟩ := List.mem_map.1 him
    rw [qp_len]; exact (hi x hx).1
  · conv => lhs; rw [← hback]
    unfold reo
    rw [show qp p ((L'.map fun x => L.idxOf x).map fun i => L.getD i 0) = (L'.map fun x => L.idxOf x).map fun i => (L'.map fun x => L.idxOf x).map fun m => b01 ((arr p (L.getD i 0)).any fun j => decide (knd p j = L.getD m 0)) by simp [qp]]
    refine List.map_congr_left fun i him => List.map_congr_left fun m hmm => ?_
    obtain ⟨x, hx, rfl⟩ := List.mem_map.1 him
    obtain ⟨y, hy, rfl⟩ := List.mem_map.1 hmm
    have h1 := (hi x hx).1
    have h2 := (hi y hy).1
    rw [bit_qp h1 h2, getD_lt h1, getD_lt h2]

/-- the least one -/
def Lst (p : List (List Int)) (a : Nat) (c : List (List Int)) : Prop := Cand p a c ∧ ∀ c', Cand p a c' → bytesLess (txt c') (txt c) = false
theorem Lst.uniq (hp : Gr p) (ha : a < p.length) (h : Lst p a c) (h' : Lst p a c') : c = c' :=
  txt_inj (h.1.gr hp ha) (h'.1.gr hp ha) (bless_tri _ _ (h'.2 c h.1) (h.2 c' h'.1))
/-- one more looked at -/
def lstep (x best y : List (List Int)) : List (List Int) := if bytesLess (txt y) (txt best) then y else best
theorem lst_fold (hc : Cand p a c) : ∀ (os : List (List Nat)) (best : List (List Int)), (∀ o ∈ os, Ord c.length o) → Cand p a best →
    Cand p a (os.foldl (fun best o => lstep c best (reo c o)) best) ∧ bytesLess (txt best) (txt (os.foldl (fun best o => lstep c best (reo c o)) best)) = false ∧
    ∀ o ∈ os, bytesLess (txt (reo c o)) (txt (os.foldl (fun best o => lstep c best (reo c o)) best)) = false := by
  intro os
  induction os with
  | nil => intro best _ hb; exact ⟨hb, bless_irr _, fun o ho => by cases ho⟩
  | cons o os ih =>
    intro best ho hb
    simp only [List.foldl_cons]
    have hr := reo_cand hc (ho o (by simp))
    have hs : Cand p a (lstep c best (reo c o)) ∧ bytesLess (txt best) (txt (lstep c best (reo c o))) = false ∧ bytesLess (txt (reo c o)) (txt (lstep c best (reo c o))) = false := by
      unfold lstep
      split
      · rename_i h
        refine ⟨hr, ?_, bless_irr _⟩
        cases hh : bytesLess (txt best) (txt (reo c o)) with
        | false => rfl
        | true => have := bless_trans _ _ _ h hh; rw [bless_irr] at this; cases this
      · rename_i h
        exact ⟨hb, bless_irr _, by simpa using h⟩
    obtain ⟨h1, h2, h3⟩ := ih _ (fun o' ho' => ho o' (by simp [ho'])) hs.1
    refine ⟨h1, bless_ge hs.2.1 h2, fun o' ho' => ?_⟩
    rcases List.mem_cons.1 ho' with rfl | ho'
    · exact bless_ge hs.2.2 h2
    · exact h3 o' ho'
/-- a picture of it there is -/
noncomputable def kdl (p : List (List Int)) (a : Nat) : List Nat := knd p a :: (List.range p.length).filter fun x => decide (x ≠ knd p a ∧ ∃ y, Rch p a y ∧ knd p y = x)
theorem kdl_ok (hp : Gr p) (ha : a < p.length) : Kds p a (kdl p a) := by
  unfold kdl
  refine ⟨List.nodup_cons.2 ⟨?_, (pw_nodup (range_filter_pw _ _))⟩, rfl, fun x => ?_⟩
  · simp
  · simp only [List.mem_cons, List.mem_filter, List.mem_range, decide_eq_true_eq]
    constructor
    · rintro (rfl | ⟨_, _, h⟩)
      · exact ⟨a, .refl _, rfl⟩
      · exact h
    · rintro ⟨y, h1, rfl⟩
      by_cases e : knd p y = knd p a
      · exact .inl e
      · exact .inr ⟨knd_lt (h1.lt hp ha), e, y, h1, rfl⟩
theorem fold_lst (hp : Gr p) (ha : a < p.length) (hc : Cand p a c) : Lst p a ((orders c.length).foldl (fun best o => lstep c best (reo c o)) c) := by
  have h1 := (hc.gr hp ha).1
  obtain ⟨h2, _, h3⟩ := lst_fold hc (orders c.length) c (fun o ho => (mem_orders h1).1 ho) hc
  refine ⟨h2, fun c' hc' => ?_⟩
  obtain ⟨o, ho, rfl⟩ := cand_reo hc hc'
  exact h3 o ((mem_orders h1).2 ho)
/-- the least picture of the set at a -/
noncomputable def lst (p : List (List Int)) (a : Nat) : List (List Int) := if h : ∃ c, Lst p a c then Classical.choose h else []
theorem lst_ok (hp : Gr p) (ha : a < p.length) : Lst p a (lst p a) := by
  have h : ∃ c, Lst p a c := ⟨_, fold_lst hp ha ⟨_, kdl_ok hp ha, rfl⟩⟩
  unfold lst
  rw [dif_pos h]; exact Classical.choose_spec h
theorem lst_eq (hp : Gr p) (ha : a < p.length) (h : Lst p a c) : lst p a = c := (lst_ok hp ha).uniq hp ha h
theorem lst_fold_eq (hp : Gr p) (ha : a < p.length) (hc : Cand p a c) : (orders c.length).foldl (fun best o => lstep c best (reo c o)) c = lst p a := (lst_eq hp ha (fold_lst hp ha hc)).symm
theorem lst_cand (hp : Gr p) (ha : a < p.length) : Cand p a (lst p a) := (lst_ok hp ha).1
theorem lst_gr (hp : Gr p) (ha : a < p.length) : Gr (lst p a) := (lst_cand hp ha).gr hp ha
theorem lst_bis (hp : Gr p) (ha : a < p.length) : Bis p a (lst p a) 0 := (lst_cand hp ha).bis hp ha
theorem lst_pos (hp : Gr p) (ha : a < p.length) : 0 < (lst p a).length := (lst_gr hp ha).1
/-- the same set, the same least picture -/
theorem lst_same (hp : Gr p) (hq : Gr q) (ha : a < p.length) (hb : b < q.length) : lst p a = lst q b ↔ Bis p a q b := by
  constructor
  · intro e
    have h1 := lst_bis hp ha
    rw [e] at h1
    exact h1.trans (lst_bis hq hb).symm
  · intro h
    exact lst_eq hp ha ⟨h.symm.cand hq hp hb ha (lst_cand hq hb), fun c' hc' => (lst_ok hq hb).2 c' (h.cand hp hq ha hb hc')⟩
theorem lst_lst (hp : Gr p) (ha : a < p.length) : lst (lst p a) 0 = lst p a := (lst_same (lst_gr hp ha) hp (lst_pos hp ha) ha).2 (lst_bis hp ha).symm
theorem lst_len (hp : Gr p) (ha : a < p.length) (hc : Cand p a c) : (lst p a).length = c.length := (lst_cand hp ha).len hc
theorem lst_le (hp : Gr p) (ha : a < p.length) : (lst p a).length ≤ p.length := by
  obtain ⟨L, hL, e⟩ := lst_cand hp ha
  rw [e, qp_len]; exact (hL.len hp ha).2
theorem lst_pic (hp : Pic p) (ha : a < p.length) : Pic (lst p a) := by
  have h := lst_gr hp.gr ha
  exact ⟨h.1, Nat.le_trans (lst_le hp.gr ha) hp.2.1, h.2.2⟩
/-- a least picture -/
def LeastP (p : List (List Int)) : Prop := Pic p ∧ lst p 0 = p
theorem LeastP.lst (hp : Gr p) (ha : a < p.length) (h5 : (Hs.lst p a).length ≤ 5) : LeastP (Hs.lst p a) := by
  have h := lst_gr hp ha
  exact ⟨⟨h.1, h5, h.2.2⟩, lst_lst hp ha⟩
/-- what comes of a search: at best one of those at hand -/
def Srch (c : List (List Int)) (o : List Nat) (best best' : List (List Int)) : Prop :=
  (best' = best ∨ ∃ o', o <+: o' ∧ Ord c.length o' ∧ best' = reo c o') ∧ bytesLess (txt best) (txt best') = false ∧ ∀ o', o <+: o' → Ord c.length o' → bytesLess (txt (reo c o')) (txt best') = false
theorem Srch.full (ho : Ord c.length o) (best : List (List Int)) : Srch c o best (lstep c best (reo c o)) := by
  have hpre : ∀ o', o <+: o' → Ord c.length o' → o' = o := fun o' h1 h2 => (h1.eq_of_length (by rw [ho.1, h2.1])).symm
  unfold lstep
  split
  · rename_i h
    refine ⟨.inr ⟨o, List.prefix_refl _, ho, rfl⟩, ?_, fun o' h1 h2 => by rw [hpre o' h1 h2]; exact bless_irr _⟩
    cases hh : bytesLess (txt best) (txt (reo c o)) with
    | false => rfl
    | true => have := bless_trans _ _ _ h hh; rw [bless_irr] at this; cases this
  · rename_i h
    exact ⟨.inl rfl, bless_irr _, fun o' h1 h2 => by rw [hpre o' h1 h2]; simpa using h⟩
/-- a search among the nodes below k put next -/
def SrchK (c : List (List Int)) (o : List Nat) (k : Nat) (best best' : List (List Int)) : Prop :=
  (best' = best ∨ ∃ o', o <+: o' ∧ Ord c.length o' ∧ best' = reo c o') ∧ bytesLess (txt best) (txt best') = false ∧ ∀ v o', v < k → (o ++ [v]) <+: o' → Ord c.length o' → bytesLess (txt (reo c o')) (txt best') = false
theorem SrchK.zero (best : List (List Int)) : SrchK c o 0 best best := ⟨.inl rfl, bless_irr _, fun v o' h => by omega⟩
theorem SrchK.skip {best best' : List (List Int)} (h : SrchK c o k best best') (hk : k ∈ o) : SrchK c o (k + 1) best best' := by
  refine ⟨h.1, h.2.1, fun v o' hv hp ho => ?_⟩
  by_cases e : v = k
  · exfalso
    subst e
    obtain ⟨t, rfl⟩ := hp
    have := ho.2.1
    rw [List.append_assoc, List.nodup_append] at this
    exact this.2.2 v hk v (by simp) rfl
  · exact h.2.2 v o' (by omega) hp ho
theorem SrchK.step {best best' best'' : List (List Int)} (h : SrchK c o k best best') (h2 : Srch c (o ++ [k]) best' best'') : SrchK c o (k + 1) best best'' := by
  refine ⟨?_, bless_ge h.2.1 h2.2.1, fun v o' hv hp ho => ?_⟩
  · rcases h2.1 with e | ⟨o', h3, h4, h5⟩
    · rw [e]; exact h.1
    · exact .inr ⟨o', (List.prefix_append _ _).trans h3, h4, h5⟩
  · by_cases e : v = k
    · subst e; exact h2.2.2 o' hp ho
    · exact bless_ge (h.2.2 v o' (by omega) hp ho) h2.2.1
theorem SrchK.all {best best' : List (List Int)} (h : SrchK c o c.length best best') (hl : o.length < c.length) : Srch c o best best' := by
  refine ⟨h.1, h.2.1, fun o' hp ho => ?_⟩
  obtain ⟨t, rfl⟩ := hp
  cases t with
  | nil => exfalso; have := ho.1; simp at this; omega
  | cons v t => exact h.2.2 v _ (ho.2.2.2 v (by simp)) ⟨t, by simp⟩ ho
theorem Srch.lst {best' : List (List Int)} (hp : Gr p) (ha : a < p.length) (hc : Cand p a c) (h : Srch c [0] c best') : lst p a = best' := by
  refine lst_eq hp ha ⟨?_, fun c' hc' => ?_⟩
  · rcases h.1 with rfl | ⟨o', _, h1, rfl⟩
    · exact hc
    · exact reo_cand hc h1
  · obtain ⟨o, ho, rfl⟩ := cand_reo hc hc'
    refine h.2.2 o ?_ ho
    have := ho.2.2.1
    cases o with
    | nil => cases this
    | cons x o => simp at this; subst this; exact ⟨o, rfl⟩
end
end Go.Hs
