/- Go's library by the shelf's contracts: Split, Join, Cut, Itoa. -/
import Derived.Test.YtgphoihilheoeaaDoorHsWEl
import Derived.Test.YtgphoihilheoeaaDoorHsLib
import Derived.Shelf.Lay
import Derived.Ground.NamesProg
import Derived.Shelf.Strings.Split
import Derived.Shelf.Strings.OnBuilder
import Derived.Shelf.Strings.Cut
import Derived.Shelf.Strconv.Itoa3
namespace Go.Proofs.YtgphoihilheoeaaDoor
open Go.Hs
set_option maxRecDepth 10000
set_option maxHeartbeats 4000000
set_option linter.unusedVariables false
set_option linter.unusedSimpArgs false

open Go.Shelf in
shelf_lay Lays.n146 Nm 146 at Tryd as Tryd.laysSplit
/-- internal/bytealg.MaxLen's number -/
abbrev gMx : Nat := Tryd.laysSplit_ren.g 1
abbrev XS := XSl 9 XStr
theorem Split_ok (w : World) (s : List UInt8) (hM : EMx gMx w (.bool true) ()) (hs : s.length ≤ 1048576) :
    Does Tryd.prog 92 [str s, str [47]] w (RetO w XS (cutB 47 s)) := by
  obtain ⟨m, hm⟩ := hM
  have hc := Go.Proofs.Any.strings_Split Tryd.laysSplit (by kernel_rfl) ⟨s.toArray⟩ ⟨#[47]⟩ m w (by simp [ByteArray.size]; omega) hm (by simp [ByteArray.size])
  unfold Does
  refine Calls.mono (show Calls Tryd.prog 92 _ w _ from hc) ?_
  rintro e w' ⟨he, rfl⟩
  rw [splitB_eq, splitB_len] at *
  refine ⟨_, he, (Ext.refl w).alloc _, ?_⟩
  have hl := cutB_len (s := 47) s
  have hc2 := List.count_le_length (a := (47 : UInt8)) (l := s)
  refine Owned.block (cs := (cutB 47 s).map str) (heap_alloc_new w _) (Nat.le_refl _) (by simp) (by unfold maxLen; omega) ?_
  exact xall_str _ fun x hx => by have := cutB_mem_len (c := 47) s.length s (Nat.le_refl _) x hx; omega

open Go.Shelf in
shelf_lay Lays.n156 Nm 156 at Tryd as Tryd.laysJoin
theorem Join_extra : Builder.Extra Tryd.prog Tryd.laysJoin_ren where
  sizeBuilder := by kernel_rfl
  liesBuilder := by kernel_rfl
  t5 := Tryd.underlying5
  a5 := fun w => run_isAgg_plain Tryd.underlying5 rfl w
  z5 := Tryd.sizeOf5
  v5 := Tryd.zeroValue5
  infoByte := by kernel_rfl
  cellsByte := by kernel_rfl
  sizeByte := by kernel_rfl
  neB5 := by decide
theorem Join_ok (w : World) (v : Value) (ps : List (List UInt8)) {lo : Nat} (h : Owned lo XS w v ps) (hl : (joinB 47 ps).length ≤ 1048576) (hl2 : ps.length ≤ 1048576) :
    Does Tryd.prog 108 [v, str [47]] w (Ret w (str (joinB 47 ps))) := by
  rcases ps.eq_nil_or_concat with rfl | hne
  · obtain ⟨a, c, rfl, h1, h2⟩ := h.read
    unfold Does
    refine Calls.mono (show Calls Tryd.prog 108 _ w _ from Go.Proofs.Any.strings_Join_none Tryd.laysJoin Join_extra a c ⟨#[47]⟩ w) ?_
    rintro e w' ⟨he, rfl⟩
    exact ⟨_, he, rfl, Ext.refl _⟩
  · have hp : 0 < ps.length := by obtain ⟨a, b, rfl⟩ := hne; simp
    obtain ⟨b, c, rfl, hc⟩ := h.lit hp
    have hb := h.lt_own (k := b) rfl
    obtain ⟨a', c', e, h1, h2⟩ := h.read
    obtain ⟨rfl, -, rfl⟩ : some _ = a' ∧ ps.length = ps.length ∧ c = c' := by injection e with e1 e2 e3; exact ⟨e1, e2, e3⟩
    have hcell : ∀ (j : Nat) x, (ps.map fun l => (⟨l.toArray⟩ : ByteArray))[j]? = some x → w.cell? ⟨b, 0 + j, none⟩ = some (.string x) := by
      intro j x hx
      rw [List.getElem?_map] at hx
      obtain ⟨l, hl, rfl⟩ := Option.map_eq_some_iff.1 hx
      obtain ⟨hj, rfl⟩ := List.getElem?_eq_some_iff.1 hl
      rcases h2 with rfl | ⟨b2, o2, e2, h2⟩
      · cases hj
      · injection e2 with e2; injection e2 with e3 e4; subst e3; subst e4
        obtain ⟨u, hu, rfl, _⟩ := h2 j hj
        exact hu
    have hj : (Go.Lib.join ((ps.map fun l => (⟨l.toArray⟩ : ByteArray)).map (·.data.toList)) [47]) = joinB 47 ps := by
      rw [List.map_map, show ((fun x : ByteArray => x.data.toList) ∘ fun l : List UInt8 => (⟨l.toArray⟩ : ByteArray)) = id from funext fun l => rfl, List.map_id, join_eq]
    have hc := Go.Proofs.Any.strings_Join Tryd.laysJoin Join_extra b 0 c (ps.map fun l => (⟨l.toArray⟩ : ByteArray)) ⟨#[47]⟩ w hcell hb.2 (by simp; omega) (by simp; omega) (by
      show (Go.Lib.join _ [47]).length ≤ _
      rw [hj]; omega)
    rw [List.length_map] at hc
    unfold Does
    refine Calls.mono (show Calls Tryd.prog 108 _ w _ from hc) ?_
    rintro e w' ⟨he, hB⟩
    refine ⟨_, he, ?_, hB⟩
    show Value.string ⟨(Go.Lib.join _ [47]).toArray⟩ = _
    rw [hj]

open Go.Shelf in
shelf_lay Lays.n145 Nm 145 at Tryd as Tryd.laysCut
theorem Cut_ok (w : World) (s : List UInt8) (c : UInt8) (hM : EMx gMx w (.bool true) ()) (hs : s.length ≤ 1048576) :
    Does Tryd.prog 48 [str s, str [c]] w (Ret w (.tuple #[str (cutF c s).1, str (cutF c s).2.1, .bool (cutF c s).2.2])) := by
  obtain ⟨m, hm⟩ := hM
  have hc := Go.Proofs.Any.strings_Cut Tryd.laysCut ⟨s.toArray⟩ ⟨#[c]⟩ m w (by simp [ByteArray.size]; omega) hm
  unfold Does
  refine Calls.mono (show Calls Tryd.prog 48 _ w _ from hc) ?_
  rintro e w' ⟨he, n, rfl⟩
  refine ⟨_, he, ?_, ?_⟩
  · have := cut_eq c s
    simp only [show (#[c] : Array UInt8).toList = [c] from rfl, this]
  · exact ⟨rfl, rfl, rfl, Nat.le_refl _, fun _ _ => rfl⟩

open Go.Shelf in
shelf_lay Lays.n171 Nm 171 at Tryd as Tryd.laysItoa
theorem Itoa_ok (w : World) (n : Nat) (h : n < 10) : Does Tryd.prog 72 [.int .i64 (n : Int)] w (Ret w (str [dig n])) := by
  unfold Does
  refine Calls.mono (show Calls Tryd.prog 72 _ w _ from Go.Proofs.Any.strconv_Itoa_small Tryd.laysItoa n (by omega) w) ?_
  rintro e w' ⟨he, rfl⟩
  refine ⟨_, he, ?_, Ext.refl _⟩
  rw [decDigits_small h]

end Go.Proofs.YtgphoihilheoeaaDoor
