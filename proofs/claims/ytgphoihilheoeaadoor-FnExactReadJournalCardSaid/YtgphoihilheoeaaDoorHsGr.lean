/- Graphs that draw sets: when two nodes draw the same, and the pictures that a set has: no program in sight. -/
import Derived.Test.YtgphoihilheoeaaDoorHsBisG
set_option linter.unusedVariables false
set_option linter.unusedSimpArgs false
namespace Go.Hs
open Classical
section
variable {p q s : List (List Int)} {a b c x y z k j n m : Nat}

/-- both draw the same set -/
def Bis (p : List (List Int)) (a : Nat) (q : List (List Int)) (b : Nat) : Prop :=
  ∃ R : Nat → Nat → Prop, R a b ∧ ∀ x y, R x y → (∀ k ∈ arr p x, ∃ j ∈ arr q y, R k j) ∧ (∀ j ∈ arr q y, ∃ k ∈ arr p x, R k j)
theorem Bis.refl : Bis p a p a := ⟨fun x y => x = y, rfl, by rintro x y rfl; exact ⟨fun k hk => ⟨k, hk, rfl⟩, fun k hk => ⟨k, hk, rfl⟩⟩⟩
theorem Bis.symm (h : Bis p a q b) : Bis q b p a := by
  obtain ⟨R, h1, h2⟩ := h
  exact ⟨fun x y => R y x, h1, fun x y h => ⟨(h2 y x h).2, (h2 y x h).1⟩⟩
theorem Bis.trans (h : Bis p a q b) (h' : Bis q b s c) : Bis p a s c := by
  obtain ⟨R, h1, h2⟩ := h
  obtain ⟨S, h3, h4⟩ := h'
  refine ⟨fun x z => ∃ y, R x y ∧ S y z, ⟨b, h1, h3⟩, fun x z ⟨y, h5, h6⟩ => ⟨fun k hk => ?_, fun k hk => ?_⟩⟩
  · obtain ⟨j, hj, e⟩ := (h2 x y h5).1 k hk
    obtain ⟨i, hi, e2⟩ := (h4 y z h6).1 j hj
    exact ⟨i, hi, j, e, e2⟩
  · obtain ⟨j, hj, e⟩ := (h4 y z h6).2 k hk
    obtain ⟨i, hi, e2⟩ := (h2 x y h5).2 j hj
    exact ⟨i, hi, j, e2, e⟩
theorem Bis.fst (h : Bis p a q b) : ∀ k ∈ arr p a, ∃ j ∈ arr q b, Bis p k q j := by
  obtain ⟨R, h1, h2⟩ := h
  intro k hk
  obtain ⟨j, hj, e⟩ := (h2 a b h1).1 k hk
  exact ⟨j, hj, R, e, h2⟩
theorem Bis.snd (h : Bis p a q b) : ∀ j ∈ arr q b, ∃ k ∈ arr p a, Bis p k q j := by
  obtain ⟨R, h1, h2⟩ := h
  intro k hk
  obtain ⟨j, hj, e⟩ := (h2 a b h1).2 k hk
  exact ⟨j, hj, R, e, h2⟩
/-- what has the same members is the same -/
theorem Bis.mk (h1 : ∀ k ∈ arr p a, ∃ j ∈ arr q b, Bis p k q j) (h2 : ∀ j ∈ arr q b, ∃ k ∈ arr p a, Bis p k q j) : Bis p a q b := by
  refine ⟨fun x y => (x = a ∧ y = b) ∨ Bis p x q y, .inl ⟨rfl, rfl⟩, fun x y h => ?_⟩
  have hh : (∀ k ∈ arr p x, ∃ j ∈ arr q y, Bis p k q j) ∧ (∀ j ∈ arr q y, ∃ k ∈ arr p x, Bis p k q j) := by
    rcases h with ⟨rfl, rfl⟩ | h
    · exact ⟨h1, h2⟩
    · exact ⟨h.fst, h.snd⟩
  exact ⟨fun k hk => by obtain ⟨j, hj, e⟩ := hh.1 k hk; exact ⟨j, hj, .inr e⟩, fun k hk => by obtain ⟨j, hj, e⟩ := hh.2 k hk; exact ⟨j, hj, .inr e⟩⟩
theorem Bis.rch (h : Bis p a q b) (hr : Rch p a x) : ∃ y, Rch q b y ∧ Bis p x q y := by
  induction hr with
  | refl => exact ⟨b, .refl _, h⟩
  | step h1 hj ih =>
    obtain ⟨y, h2, h3⟩ := ih
    obtain ⟨j, hj', e⟩ := h3.fst _ hj
    exact ⟨j, h2.step hj', e⟩

/-- not told apart in as many rounds as there are nodes -/
def eqv (p : List (List Int)) (a b : Nat) : Bool := bsm p p.length a b
theorem Bis.bsm (h : Bis p a p b) : ∀ n, bsm p n a b = true := by
  intro n
  obtain ⟨R, h1, h2⟩ := h
  induction n generalizing a b with
  | zero => rfl
  | succ n ih =>
    refine bsm_succ.2 ⟨ih h1, fun k hk => ?_, fun k hk => ?_⟩
    · obtain ⟨j, hj, e⟩ := (h2 a b h1).1 k hk
      exact ⟨j, hj, ih e⟩
    · obtain ⟨j, hj, e⟩ := (h2 a b h1).2 k hk
      refine ⟨j, hj, ?_⟩
      rw [bsm_sym]; exact ih e
theorem bis_of_eqv (hp : Gr p) (ha : a < p.length) (hb : b < p.length) (h : eqv p a b = true) : Bis p a p b := by
  refine ⟨fun x y => x < p.length ∧ y < p.length ∧ eqv p x y = true, ⟨ha, hb, h⟩, fun x y ⟨h1, h2, h3⟩ => ?_⟩
  obtain ⟨_, h4, h5⟩ := bsm_succ.1 (stab_len hp (Nat.le_succ _) x y h1 h2 h3)
  refine ⟨fun k hk => ?_, fun k hk => ?_⟩
  · obtain ⟨j, hj, e⟩ := h4 k hk
    exact ⟨j, hj, arr_lt hp h1 hk, arr_lt hp h2 hj, e⟩
  · obtain ⟨j, hj, e⟩ := h5 k hk
    refine ⟨j, hj, arr_lt hp h1 hj, arr_lt hp h2 hk, ?_⟩
    unfold eqv; rw [bsm_sym]; exact e
theorem eqv_iff (hp : Gr p) (ha : a < p.length) (hb : b < p.length) : eqv p a b = true ↔ Bis p a p b := ⟨bis_of_eqv hp ha hb, fun h => h.bsm _⟩

/-- the least node that draws the same set -/
def knd (p : List (List Int)) (a : Nat) : Nat := ((List.range p.length).find? fun b => eqv p a b).getD 0
theorem knd_spec (ha : a < p.length) : knd p a < p.length ∧ eqv p a (knd p a) = true ∧ ∀ b, b < knd p a → eqv p a b = false := by
  unfold knd
  cases h : (List.range p.length).find? fun b => eqv p a b with
  | none =>
    have := List.find?_eq_none.1 h a (List.mem_range.2 ha)
    exact absurd (bsm_refl _ _) this
  | some b =>
    simp only [Option.getD_some]
    obtain ⟨h1, as1, bs, h2, h3⟩ := List.find?_eq_some_iff_append.1 h
    have hb : b < p.length := List.mem_range.1 (by rw [h2]; simp)
    refine ⟨hb, h1, fun i hi => ?_⟩
    have hpw : (List.range p.length).Pairwise (· < ·) := List.pairwise_lt_range
    rw [h2, List.pairwise_append] at hpw
    have hm : i ∈ as1 ++ b :: bs := by rw [← h2]; exact List.mem_range.2 (by omega)
    rcases List.mem_append.1 hm with hm | hm
    · simpa using h3 i hm
    · rcases List.mem_cons.1 hm with rfl | hm
      · omega
      · have := (List.pairwise_cons.1 hpw.2.1).1 i hm; omega
theorem eqv_refl (a : Nat) : eqv p a a = true := bsm_refl _ _
theorem eqv_sym (a b : Nat) : eqv p a b = eqv p b a := bsm_sym _ _ _
theorem eqv_trans (h : eqv p a b = true) (h2 : eqv p b c = true) : eqv p a c = true := bsm_trans _ h h2
theorem knd_lt (ha : a < p.length) : knd p a < p.length := (knd_spec ha).1
theorem knd_eq_iff (ha : a < p.length) (hb : b < p.length) : knd p a = knd p b ↔ eqv p a b = true := by
  obtain ⟨h1, h2, h3⟩ := knd_spec ha
  obtain ⟨h4, h5, h6⟩ := knd_spec hb
  constructor
  · intro e
    refine eqv_trans h2 ?_
    rw [e, eqv_sym]; exact h5
  · intro e
    rcases Nat.lt_trichotomy (knd p a) (knd p b) with hl | he | hl
    · have := h6 _ hl
      rw [eqv_trans (by rw [eqv_sym]; exact e) h2] at this; cases this
    · exact he
    · have := h3 _ hl
      rw [eqv_trans e h5] at this; cases this
theorem knd_bis (hp : Gr p) (ha : a < p.length) (hb : b < p.length) : knd p a = knd p b ↔ Bis p a p b := (knd_eq_iff ha hb).trans (eqv_iff hp ha hb)
theorem knd_self (hp : Gr p) (ha : a < p.length) : Bis p a p (knd p a) := bis_of_eqv hp ha (knd_lt ha) (knd_spec ha).2.1
theorem knd_knd (ha : a < p.length) : knd p (knd p a) = knd p a := ((knd_eq_iff ha (knd_lt ha)).2 (knd_spec ha).2.1).symm

/-- the picture of these kinds, in this order -/
def qp (p : List (List Int)) (L : List Nat) : List (List Int) := L.map fun x => L.map fun y => b01 ((arr p x).any fun j => decide (knd p j = y))
/-- these are the kinds of all that a reaches, its own first -/
def Kds (p : List (List Int)) (a : Nat) (L : List Nat) : Prop := L.Nodup ∧ L.head? = some (knd p a) ∧ ∀ x, x ∈ L ↔ ∃ y, Rch p a y ∧ knd p y = x
/-- a picture of the set at a -/
def Cand (p : List (List Int)) (a : Nat) (c : List (List Int)) : Prop := ∃ L, Kds p a L ∧ c = qp p L
theorem qp_len {L : List Nat} : (qp p L).length = L.length := by simp [qp]
theorem qp_rlen {L : List Nat} (r : List Int) (h : r ∈ qp p L) : r.length = L.length := by
  obtain ⟨x, _, rfl⟩ := List.mem_map.1 h
  simp
theorem qp_bits {L : List Nat} (r : List Int) (h : r ∈ qp p L) (x : Int) (hx : x ∈ r) : x = 0 ∨ x = 1 := by
  obtain ⟨x, _, rfl⟩ := List.mem_map.1 h
  obtain ⟨y, _, rfl⟩ := List.mem_map.1 hx
  unfold b01; split <;> simp
theorem arr_qp {L : List Nat} {i m : Nat} (hi : i < L.length) : m ∈ arr (qp p L) i ↔ ∃ hm : m < L.length, ∃ j ∈ arr p L[i], knd p j = L[m] := by
  have e : (qp p L).getD i [] = L.map fun y => b01 ((arr p L[i]).any fun j => decide (knd p j = y)) := by
    rw [getD_lt (by rw [qp_len]; exact hi)]
    simp [qp]
  unfold arr
  rw [mem_arrR, e]
  simp only [List.length_map]
  constructor
  · rintro ⟨h1, h2⟩
    refine ⟨h1, ?_⟩
    rw [getD_lt (by simpa using h1)] at h2
    simp only [List.getElem_map, b01_one, List.any_eq_true, decide_eq_true_eq] at h2
    exact h2
  · rintro ⟨h1, h2⟩
    refine ⟨h1, ?_⟩
    rw [getD_lt (by simpa using h1)]
    simp only [List.getElem_map, b01_one, List.any_eq_true, decide_eq_true_eq]
    exact h2
theorem Kds.lt {L : List Nat} (hp : Gr p) (ha : a < p.length) (h : Kds p a L) (hx : x ∈ L) : x < p.length := by
  obtain ⟨y, h1, rfl⟩ := (h.2.2 x).1 hx
  exact knd_lt (h1.lt hp ha)
theorem Kds.len {L : List Nat} (hp : Gr p) (ha : a < p.length) (h : Kds p a L) : 1 ≤ L.length ∧ L.length ≤ p.length := by
  refine ⟨?_, nodup_len h.1 fun j hj => h.lt hp ha hj⟩
  have := h.2.1
  cases L with
  | nil => cases this
  | cons _ _ => simp
theorem Kds.kk {L : List Nat} (hp : Gr p) (ha : a < p.length) (h : Kds p a L) (hx : x ∈ L) : knd p x = x := by
  obtain ⟨y, h1, rfl⟩ := (h.2.2 x).1 hx
  exact knd_knd (h1.lt hp ha)
theorem Kds.perm {L L' : List Nat} (h : Kds p a L) (h' : Kds p a L') : L.Perm L' := (List.perm_ext_iff_of_nodup h.1 h'.1).2 fun x => (h.2.2 x).trans (h'.2.2 x).symm
theorem Cand.len {c c' : List (List Int)} (h : Cand p a c) (h' : Cand p a c') : c.length = c'.length := by
  obtain ⟨L, h1, rfl⟩ := h
  obtain ⟨L', h1', rfl⟩ := h'
  rw [qp_len, qp_len]; exact (h1.perm h1').length_eq
theorem Cand.gr {c : List (List Int)} (hp : Gr p) (ha : a < p.length) (h : Cand p a c) : Gr c := by
  obtain ⟨L, h1, rfl⟩ := h
  have := h1.len hp ha
  refine ⟨by rw [qp_len]; exact this.1, by rw [qp_len]; have := hp.2.1; omega, fun r hr => ⟨by rw [qp_len]; exact qp_rlen r hr, qp_bits r hr⟩⟩
theorem Cand.pic {c : List (List Int)} (hp : Gr p) (ha : a < p.length) (h : Cand p a c) (h5 : c.length ≤ 5) : Pic c := by
  have := h.gr hp ha
  exact ⟨this.1, h5, this.2.2⟩
/-- it draws the same set -/
theorem Cand.bis {c : List (List Int)} (hp : Gr p) (ha : a < p.length) (h : Cand p a c) : Bis p a c 0 := by
  obtain ⟨L, hL, rfl⟩ := h
  have hlen := hL.len hp ha
  have h0 : L[0]'(by omega) = knd p a := by
    have := hL.2.1
    rw [List.head?_eq_getElem?, List.getElem?_eq_getElem (by omega)] at this
    exact Option.some.inj this
  refine ⟨fun y i => Rch p a y ∧ ∃ hi : i < L.length, knd p y = L[i], ⟨.refl _, by omega, h0.symm⟩, fun y i ⟨h1, hi, h2⟩ => ?_⟩
  have hy := h1.lt hp ha
  have hb := knd_self hp hy
  rw [h2] at hb
  refine ⟨fun k hk => ?_, fun m hm => ?_⟩
  · have hr := h1.step hk
    obtain ⟨m, hm, e⟩ := List.mem_iff_getElem.1 ((hL.2.2 (knd p k)).2 ⟨k, hr, rfl⟩)
    obtain ⟨j, hj, e2⟩ := hb.fst k hk
    refine ⟨m, (arr_qp hi).2 ⟨hm, j, hj, ?_⟩, hr, hm, e.symm⟩
    rw [e]
    exact ((knd_bis hp (hr.lt hp ha) (arr_lt hp (hL.lt hp ha (List.getElem_mem hi)) hj)).2 e2).symm
  · obtain ⟨hm, j, hj, e⟩ := (arr_qp hi).1 hm
    obtain ⟨k, hk, e2⟩ := hb.snd j hj
    have hr := h1.step hk
    refine ⟨k, hk, hr, hm, ?_⟩
    rw [← e]
    exact (knd_bis hp (hr.lt hp ha) (arr_lt hp (hL.lt hp ha (List.getElem_mem hi)) hj)).2 e2
/-- what draws the same set has the same pictures -/
theorem Bis.cand {c : List (List Int)} (hp : Gr p) (hq : Gr q) (ha : a < p.length) (hb : b < q.length) (h : Bis p a q b) (hc : Cand p a c) : Cand q b c := by
  obtain ⟨L, hL, rfl⟩ := hc
  let φ : Nat → Nat := fun x => if hx : ∃ y, y < q.length ∧ Bis p x q y then knd q (Classical.choose hx) else 0
  have hφ : ∀ x y, y < q.length → Bis p x q y → φ x = knd q y := fun x y hy hxy => by
    have hx : ∃ y, y < q.length ∧ Bis p x q y := ⟨y, hy, hxy⟩
    have e : φ x = knd q (Classical.choose hx) := dif_pos hx
    have hs := Classical.choose_spec hx
    rw [e]
    exact (knd_bis hq hs.1 hy).2 (hs.2.symm.trans hxy)
  have hex : ∀ x ∈ L, ∃ z, Rch q b z ∧ Bis p x q z := fun x hx => by
    obtain ⟨y, h1, rfl⟩ := (hL.2.2 x).1 hx
    obtain ⟨z, h2, h3⟩ := h.rch h1
    exact ⟨z, h2, (knd_self hp (h1.lt hp ha)).symm.trans h3⟩
  have hxl : ∀ x ∈ L, x < p.length := fun x hx => hL.lt hp ha hx
  have hinj : ∀ x ∈ L, ∀ x' ∈ L, φ x = φ x' → x = x' := fun x hx x' hx' e => by
    obtain ⟨z, h1, h2⟩ := hex x hx
    obtain ⟨z', h1', h2'⟩ := hex x' hx'
    rw [hφ x z (h1.lt hq hb) h2, hφ x' z' (h1'.lt hq hb) h2'] at e
    have := (knd_bis hq (h1.lt hq hb) (h1'.lt hq hb)).1 e
    have := (knd_bis hp (hxl x hx) (hxl x' hx')).2 ((h2.trans this).trans h2'.symm)
    rw [hL.kk hp ha hx, hL.kk hp ha hx'] at this
    exact this
  refine ⟨L.map φ, ⟨?_, ?_, fun y => ?_⟩, ?_⟩
  · clear hex hxl
    obtain ⟨hn, _⟩ := hL
    unfold List.Nodup at hn ⊢
    rw [List.pairwise_map]
    refine List.Pairwise.imp_of_mem (fun {x y} hx hy hxy e => hxy (hinj x hx y hy e)) hn
  · rw [List.head?_map, hL.2.1]
    exact congrArg some (hφ _ b hb ((knd_self hp ha).symm.trans h))
  · rw [List.mem_map]
    constructor
    · rintro ⟨x, hx, rfl⟩
      obtain ⟨z, h1, h2⟩ := hex x hx
      exact ⟨z, h1, (hφ x z (h1.lt hq hb) h2).symm⟩
    · rintro ⟨z, h1, rfl⟩
      obtain ⟨y, h2, h3⟩ := h.symm.rch h1
      refine ⟨knd p y, (hL.2.2 _).2 ⟨y, h2, rfl⟩, hφ _ z (h1.lt hq hb) ((knd_self hp (h2.lt hp ha)).symm.trans h3.symm)⟩
  · unfold qp
    rw [List.map_map]
    refine List.map_congr_left fun x hx => ?_
    simp only [Function.comp, List.map_map]
    refine List.map_congr_left fun y hy => ?_
    simp only [Function.comp]
    refine congrArg b01 ?_
    rw [Bool.eq_iff_iff]
    simp only [List.any_eq_true, decide_eq_true_eq]
    obtain ⟨z, h1, h2⟩ := hex x hx
    have hz := h1.lt hq hb
    have ex := hφ x z hz h2
    have h3 := h2.trans (knd_self hq hz)
    rw [← ex] at h3
    have hpx := hxl x hx
    have hqx : φ x < q.length := by rw [ex]; exact knd_lt hz
    obtain ⟨z', h1', h2'⟩ := hex y hy
    have hz' := h1'.lt hq hb
    have ey := hφ y z' hz' h2'
    constructor
    · rintro ⟨j, hj, e⟩
      obtain ⟨i, hi, e2⟩ := h3.fst j hj
      refine ⟨i, hi, ?_⟩
      have hpj := arr_lt hp hpx hj
      rw [ey]
      refine (knd_bis hq (arr_lt hq hqx hi) hz').2 (e2.symm.trans ((knd_self hp hpj).trans ?_))
      rw [e]; exact h2'
    · rintro ⟨i, hi, e⟩
      obtain ⟨j, hj, e2⟩ := h3.snd i hi
      refine ⟨j, hj, ?_⟩
      have hpj := arr_lt hp hpx hj
      have hqi := arr_lt hq hqx hi
      rw [ey] at e
      have h5 := (knd_bis hq hqi hz').1 e
      have := (knd_bis hp hpj (hxl y hy)).2 ((e2.trans h5).trans h2'.symm)
      rw [hL.kk hp ha hy] at this
      exact this
end
end Go.Hs
