/- Arguments read as data: from the form's reading to the predicates of the walks. -/
import Derived.Test.YtgphoihilheoeaaDoorHsHeap
import Derived.ProofKit
import Derived.OpenShut
import Derived.ShutString
import Derived.Deep.Slices
namespace Go.Hs
open Go.ChangeShapes Go.WideShapes Go.ChangeAt Go.RowKit Go.Deep
open Go.ChangeMaps (open_string shut_string)

section
variable {P : Program}
/-- Whatever reads at type t as one cell reads so. -/
def Reads {α : Type} (P : Program) (t : TypeId) (E : World → Value → α → Prop) : Prop :=
  ∀ (H : Type) (enc : TypeId × Value → H) (w : World) (base : Nat) (sp : Nat → Bool) (held : Bool) (fuel : Nat) (cs : List Value) (x : DataW H × List MemPlace),
    DataW.trod enc P w base sp held fuel t cs = some x → ∃ v y, cs = [v] ∧ E w v y

theorem reads_int {t : TypeId} (ht : P.underlying t = some (.int .i64)) : Reads P t EInt := by
  intro H enc w base sp held fuel cs x h
  obtain ⟨n, rfl, _, _⟩ := DataW.trod_int ht h
  exact ⟨_, n, rfl, rfl⟩
theorem reads_byte {t : TypeId} (ht : P.underlying t = some (.int .u8)) : Reads P t EByte := by
  intro H enc w base sp held fuel cs x h
  obtain ⟨n, rfl, _, hw⟩ := DataW.trod_int ht h
  have hb := bounds_u8 hw
  refine ⟨_, UInt8.ofNat n.toNat, rfl, ?_⟩
  show Value.int .u8 n = _
  have : ((UInt8.ofNat n.toNat).toNat : Int) = n := by
    rw [UInt8.toNat_ofNat']
    have : n.toNat % 2 ^ 8 = n.toNat := Nat.mod_eq_of_lt (by omega)
    rw [this]
    omega
  rw [this]
theorem reads_str {t : TypeId} (ht : P.underlying t = some .string) : Reads P t EStr := by
  intro H enc w base sp held fuel cs x h
  obtain ⟨s, rfl, _, hs⟩ := DataW.trod_string ht h
  exact ⟨_, s.data.toList, rfl, rfl, by unfold maxLen at hs; exact hs⟩
theorem spot_none {w : World} {a : Addr} {v : Value} (h : w.cell? a = some v) : a.spot = none := by
  unfold World.cell? at h
  split at h
  · split at h
    · cases h
    · rename_i hs; simpa using hs
  · cases h
theorem reads_slice {α : Type} [Inhabited α] {E : World → Value → α → Prop} {t e : TypeId} (ht : P.underlying t = some (.slice e)) (ce : P.cellsOf e = 1) (hE : Reads P e E) : Reads P t (ESl E) := by
  intro H enc w base sp held fuel cs x h
  rcases open_slice ht h with ⟨rfl, _⟩ | ⟨a, len, cap, m, n, D, Pl, rfl, hb, hl, hm, hmm, _, hx⟩
  · exact ⟨_, [], rfl, none, 0, rfl, RSl.nil⟩
  · have hlm : len ≤ m := by rw [hmm]; split <;> omega
    have each : ∀ i, i < len → ∃ p : Value × α, w.cell? (a.add i) = some p.1 ∧ E w p.1 p.2 := by
      intro i hi
      obtain ⟨cs', h1, h2⟩ := hx i (by omega)
      rw [ce] at h1
      obtain ⟨v, y, rfl, hv⟩ := hE _ _ _ _ _ _ _ _ _ h2
      refine ⟨(v, y), ?_, hv⟩
      simp only [World.cells?, Nat.mul_one] at h1
      split at h1
      · simp only [List.range_succ, List.range_zero, List.nil_append, List.mapM_cons, List.mapM_nil, Option.pure_def, Option.bind_eq_bind] at h1
        have e0 : (a.add i).add 0 = a.add i := by simp [Addr.add]
        rw [e0] at h1
        cases hc : w.cell? (a.add i) with
        | none => rw [hc] at h1; cases h1
        | some u => rw [hc] at h1; simp at h1; rw [h1]
      · cases h1
    classical
    let f : Nat → Value × α := fun i => if hi : i < len then (each i hi).choose else (undef, default)
    have hf : ∀ i, i < len → w.cell? (a.add i) = some (f i).1 ∧ E w (f i).1 (f i).2 := by
      intro i hi
      have : f i = (each i hi).choose := dif_pos hi
      rw [this]
      exact (each i hi).choose_spec
    refine ⟨.slice (some a) len cap, (List.range len).map fun i => (f i).2, rfl, some a, cap, by simp, ?_⟩
    refine ⟨by simp; unfold maxLen at hm; omega, ?_⟩
    by_cases h0 : len = 0
    · left; subst h0; rfl
    · right
      have hs : a.spot = none := by
        have := spot_none (hf 0 (by omega)).1
        simpa [Addr.add] using this
      obtain ⟨b, o, sp'⟩ := a
      simp only at hs
      subst hs
      refine ⟨b, o, rfl, fun i hi => ?_⟩
      simp only [List.length_map, List.length_range] at hi
      have e1 : (⟨b, o, none⟩ : Addr).add i = ⟨b, o + i, none⟩ := by
        unfold Addr.add; split
        · simp_all
        · rfl
      refine ⟨(f i).1, ?_, ?_⟩
      · rw [← e1]; exact (hf i hi).1
      · simp only [List.getElem_map, List.getElem_range]; exact (hf i hi).2

theorem read_slice {α : Type} {E : World → Value → α → Prop} {t e : TypeId} {H : Type} {enc : TypeId × Value → H} {w : World} {r : Reach} {b0 base : Nat} {sp : Nat → Bool} {held : Bool} {v : Value} {d : DataW H} {ps : List MemPlace}
    (ht : P.underlying t = some (.slice e)) (hE : Reads P t (ESl E)) (hval : Value.okWide P w r b0 t v) (hd : DataW.Trod enc P w base sp held t v d ps) : ∃ xs, ESl E w v xs := by
  obtain ⟨a, len, cap, rfl⟩ := okWide_slice ht hval
  obtain ⟨fuel, hf⟩ := hd
  obtain ⟨u, xs, hu, h⟩ := hE _ _ _ _ _ _ _ _ _ hf
  simp [Value.cells] at hu
  subst hu
  exact ⟨xs, h⟩
theorem read_str {t : TypeId} {H : Type} {enc : TypeId × Value → H} {w : World} {r : Reach} {b0 base : Nat} {sp : Nat → Bool} {held : Bool} {v : Value} {d : DataW H} {ps : List MemPlace}
    (ht : P.underlying t = some .string) (hval : Value.okWide P w r b0 t v) (hd : DataW.Trod enc P w base sp held t v d ps) : ∃ l, v = str l ∧ l.length ≤ 9223372036854775807 := by
  obtain ⟨s, rfl, _, _, hs⟩ := open_string ht hval hd
  exact ⟨s.data.toList, rfl, by unfold maxLen at hs; exact hs⟩
theorem read_int {t : TypeId} {H : Type} {enc : TypeId × Value → H} {w : World} {r : Reach} {b0 base : Nat} {sp : Nat → Bool} {held : Bool} {v : Value} {d : DataW H} {ps : List MemPlace}
    (ht : P.underlying t = some (.int .i64)) (hval : Value.okWide P w r b0 t v) (hd : DataW.Trod enc P w base sp held t v d ps) : ∃ n : Int, v = .int .i64 n ∧ -9223372036854775808 ≤ n ∧ n ≤ 9223372036854775807 := by
  obtain ⟨n, rfl, _, _, hw⟩ := open_int ht hval hd
  exact ⟨n, rfl, bounds_i64 hw⟩
end
end Go.Hs
