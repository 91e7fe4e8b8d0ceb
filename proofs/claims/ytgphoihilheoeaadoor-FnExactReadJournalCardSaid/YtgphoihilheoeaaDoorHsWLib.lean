/- Go's library by the shelf's contracts: Split, Join, Cut, Itoa. -/
import Derived.Test.YtgphoihilheoeaaDoorHsWEl
import Derived.Test.YtgphoihilheoeaaDoorHsLib
import Derived.Shelf.Lay
import Derived.Ground.NamesProg
import Derived.Shelf.Strings.Split
import Derived.Shelf.Strings.OnBuilder
import Derived.Shelf.Strings.Cut
import Derived.Shelf.Strconv.Itoa3
namespace Go.Proofs.YtgphoihilheoeaaDoor
open Go.Hs
set_option maxRecDepth 10000
set_option maxHeartbeats 4000000
set_option linter.unusedVariables false
set_option linter.unusedSimpArgs false

def Tryd.laysSplit_ren : Go.Shelf.Ren := ⟨fun | 146 => 92 | 221 => 110 | 268 => 129 | 138 => 130 | 143 => 131 | 195 => 148 | 197 => 149 | 218 => 150 | 219 => 94 | 260 => 170 | 217 => 111 | 225 => 112 | 224 => 113 | 267 => 114 | 266 => 132 | 314 => 133 | n => n, fun | 9 => 9 | 31 => 65 | 3 => 3 | 4 => 4 | 0 => 0 | 105 => 141 | 21 => 21 | 5 => 5 | 46 => 109 | 119 => 166 | 139 => 169 | 138 => 168 | 146 => 129 | 51 => 128 | n => n, fun | 1 => 0 | 3 => 4 | 4 => 5 | n => n⟩
theorem Tryd.laysSplit : Go.Proofs.Lays.n146 Tryd.prog Tryd.laysSplit_ren := {
  mixed := by kernel_rfl
  f138 := Tryd.func130.trans (congrArg some (by kernel_rfl))
  f143 := Tryd.func131.trans (congrArg some (by kernel_rfl))
  f146 := Tryd.func92.trans (congrArg some (by kernel_rfl))
  f195 := Tryd.func148.trans (congrArg some (by kernel_rfl))
  f197 := Tryd.func149.trans (congrArg some (by kernel_rfl))
  f217 := Tryd.func111.trans (congrArg some (by kernel_rfl))
  f218 := Tryd.func150.trans (congrArg some (by kernel_rfl))
  f219 := Tryd.func94.trans (congrArg some (by kernel_rfl))
  f221 := Tryd.func110.trans (congrArg some (by kernel_rfl))
  f224 := Tryd.func113.trans (congrArg some (by kernel_rfl))
  f225 := Tryd.func112.trans (congrArg some (by kernel_rfl))
  f260 := Tryd.func170.trans (congrArg some (by kernel_rfl))
  f266 := Tryd.func132.trans (congrArg some (by kernel_rfl))
  f267 := Tryd.func114.trans (congrArg some (by kernel_rfl))
  f268 := Tryd.func129.trans (congrArg some (by kernel_rfl))
  f314 := Tryd.func133.trans (congrArg some (by kernel_rfl))
  t0 := Tryd.underlying0
  a0 := Tryd.isAgg0
  z0 := Tryd.sizeOf0
  v0 := Tryd.zeroValue0
  t3 := Tryd.underlying3
  a3 := Tryd.isAgg3
  z3 := Tryd.sizeOf3
  v3 := Tryd.zeroValue3
  t4 := Tryd.underlying4
  a4 := Tryd.isAgg4
  z4 := Tryd.sizeOf4
  v4 := Tryd.zeroValue4
  t5 := Tryd.underlying5
  a5 := Tryd.isAgg5
  z5 := Tryd.sizeOf5
  v5 := Tryd.zeroValue5
  t9 := Tryd.underlying9
  a9 := Tryd.isAgg9
  z9 := Tryd.sizeOf9
  v9 := Tryd.zeroValue9
  t21 := Tryd.underlying21
  a21 := Tryd.isAgg21
  z21 := Tryd.sizeOf21
  v21 := Tryd.zeroValue21
  t31 := Tryd.underlying65
  a31 := Tryd.isAgg65
  z31 := Tryd.sizeOf65
  v31 := Tryd.zeroValue65
  t46 := Tryd.underlying109
  a46 := Tryd.isAgg109
  z46 := Tryd.sizeOf109
  v46 := Tryd.zeroValue109
  t51 := Tryd.underlying128
  a51 := Tryd.isAgg128
  z51 := Tryd.sizeOf128
  v51 := Tryd.zeroValue128
  t105 := Tryd.underlying141
  a105 := Tryd.isAgg141
  z105 := Tryd.sizeOf141
  v105 := Tryd.zeroValue141
  t119 := Tryd.underlying166
  a119 := Tryd.isAgg166
  z119 := Tryd.sizeOf166
  t138 := Tryd.underlying168
  a138 := Tryd.isAgg168
  z138 := Tryd.sizeOf168
  v138 := Tryd.zeroValue168
  t139 := Tryd.underlying169
  a139 := Tryd.isAgg169
  z139 := Tryd.sizeOf169
  v139 := Tryd.zeroValue169
  t146 := Tryd.underlying129
  a146 := Tryd.isAgg129
  z146 := Tryd.sizeOf129
  v146 := Tryd.zeroValue129
  g1 := by kernel_rfl
  g3 := by kernel_rfl
  g4 := by kernel_rfl }
/-- internal/bytealg.MaxLen's number -/
abbrev gMx : Nat := Tryd.laysSplit_ren.g 1
abbrev XS := XSl 9 XStr
theorem Split_ok (w : World) (s : List UInt8) (hM : EMx gMx w (.bool true) ()) (hs : s.length ≤ 1048576) :
    Does Tryd.prog 92 [str s, str [47]] w (RetO w XS (cutB 47 s)) := by
  obtain ⟨m, hm⟩ := hM
  have hc := Go.Proofs.Any.strings_Split Tryd.laysSplit (by kernel_rfl) ⟨s.toArray⟩ ⟨#[47]⟩ m w (by simp [ByteArray.size]; omega) hm (by simp [ByteArray.size])
  unfold Does
  refine Calls.mono (show Calls Tryd.prog 92 _ w _ from hc) ?_
  rintro e w' ⟨he, rfl⟩
  rw [splitB_eq, splitB_len] at *
  refine ⟨_, he, (Ext.refl w).alloc _, ?_⟩
  have hl := cutB_len (s := 47) s
  have hc2 := List.count_le_length (a := (47 : UInt8)) (l := s)
  refine Owned.block (cs := (cutB 47 s).map str) (heap_alloc_new w _) (Nat.le_refl _) (by simp) (by unfold maxLen; omega) ?_
  exact xall_str _ fun x hx => by have := cutB_mem_len (c := 47) s.length s (Nat.le_refl _) x hx; omega

def Tryd.laysJoin_ren : Go.Shelf.Ren := ⟨fun | 156 => 108 | 165 => 122 | 166 => 123 | 169 => 124 | 240 => 141 | 241 => 142 | 276 => 166 | 277 => 167 | n => n, fun | 31 => 65 | 9 => 9 | 3 => 3 | 4 => 4 | 0 => 0 | 20 => 20 | 72 => 114 | 76 => 118 | 70 => 112 | 37 => 43 | 75 => 117 | 127 => 137 | 164 => 154 | 5 => 5 | 80 => 120 | n => n, fun | n => n⟩
theorem Tryd.laysJoin : Go.Proofs.Lays.n156 Tryd.prog Tryd.laysJoin_ren := {
  mixed := by kernel_rfl
  f156 := Tryd.func108.trans (congrArg some (by kernel_rfl))
  f165 := Tryd.func122.trans (congrArg some (by kernel_rfl))
  f166 := Tryd.func123.trans (congrArg some (by kernel_rfl))
  f169 := Tryd.func124.trans (congrArg some (by kernel_rfl))
  f240 := Tryd.func141.trans (congrArg some (by kernel_rfl))
  f241 := Tryd.func142.trans (congrArg some (by kernel_rfl))
  f276 := Tryd.func166.trans (congrArg some (by kernel_rfl))
  f277 := Tryd.func167.trans (congrArg some (by kernel_rfl))
  t0 := Tryd.underlying0
  a0 := Tryd.isAgg0
  z0 := Tryd.sizeOf0
  v0 := Tryd.zeroValue0
  t3 := Tryd.underlying3
  a3 := Tryd.isAgg3
  z3 := Tryd.sizeOf3
  v3 := Tryd.zeroValue3
  t4 := Tryd.underlying4
  a4 := Tryd.isAgg4
  z4 := Tryd.sizeOf4
  v4 := Tryd.zeroValue4
  t9 := Tryd.underlying9
  a9 := Tryd.isAgg9
  z9 := Tryd.sizeOf9
  v9 := Tryd.zeroValue9
  t20 := Tryd.underlying20
  a20 := Tryd.isAgg20
  z20 := Tryd.sizeOf20
  v20 := Tryd.zeroValue20
  t31 := Tryd.underlying65
  a31 := Tryd.isAgg65
  z31 := Tryd.sizeOf65
  v31 := Tryd.zeroValue65
  t37 := Tryd.underlying43
  a37 := Tryd.isAgg43
  z37 := Tryd.sizeOf43
  v37 := Tryd.zeroValue43
  t70 := Tryd.underlying112
  a70 := Tryd.isAgg112
  z70 := Tryd.sizeOf112
  v70 := Tryd.zeroValue112
  t72 := Tryd.underlying114
  a72 := Tryd.isAgg114
  z72 := Tryd.sizeOf114
  v72 := Tryd.zeroValue114
  t75 := Tryd.underlying117
  a75 := Tryd.isAgg117
  z75 := Tryd.sizeOf117
  v75 := Tryd.zeroValue117
  t76 := Tryd.underlying118
  a76 := Tryd.isAgg118
  z76 := Tryd.sizeOf118
  v76 := Tryd.zeroValue118
  t127 := Tryd.underlying137
  a127 := Tryd.isAgg137
  z127 := Tryd.sizeOf137
  v127 := Tryd.zeroValue137
  t164 := Tryd.underlying154
  a164 := Tryd.isAgg154
  z164 := Tryd.sizeOf154
  v164 := Tryd.zeroValue154 }
theorem Join_extra : Builder.Extra Tryd.prog Tryd.laysJoin_ren where
  sizeBuilder := by kernel_rfl
  liesBuilder := by kernel_rfl
  t5 := Tryd.underlying5
  a5 := fun w => run_isAgg_plain Tryd.underlying5 rfl w
  z5 := Tryd.sizeOf5
  v5 := Tryd.zeroValue5
  infoByte := by kernel_rfl
  cellsByte := by kernel_rfl
  sizeByte := by kernel_rfl
  neB5 := by decide
theorem Join_ok (w : World) (v : Value) (ps : List (List UInt8)) {lo : Nat} (h : Owned lo XS w v ps) (hl : (joinB 47 ps).length ≤ 1048576) (hl2 : ps.length ≤ 1048576) :
    Does Tryd.prog 108 [v, str [47]] w (Ret w (str (joinB 47 ps))) := by
  rcases ps.eq_nil_or_concat with rfl | hne
  · obtain ⟨a, c, rfl, h1, h2⟩ := h.read
    unfold Does
    refine Calls.mono (show Calls Tryd.prog 108 _ w _ from Go.Proofs.Any.strings_Join_none Tryd.laysJoin Join_extra a c ⟨#[47]⟩ w) ?_
    rintro e w' ⟨he, rfl⟩
    exact ⟨_, he, rfl, Ext.refl _⟩
  · have hp : 0 < ps.length := by obtain ⟨a, b, rfl⟩ := hne; simp
    obtain ⟨b, c, rfl, hc⟩ := h.lit hp
    have hb := h.lt_own (k := b) rfl
    obtain ⟨a', c', e, h1, h2⟩ := h.read
    obtain ⟨rfl, -, rfl⟩ : some _ = a' ∧ ps.length = ps.length ∧ c = c' := by injection e with e1 e2 e3; exact ⟨e1, e2, e3⟩
    have hcell : ∀ (j : Nat) x, (ps.map fun l => (⟨l.toArray⟩ : ByteArray))[j]? = some x → w.cell? ⟨b, 0 + j, none⟩ = some (.string x) := by
      intro j x hx
      rw [List.getElem?_map] at hx
      obtain ⟨l, hl, rfl⟩ := Option.map_eq_some_iff.1 hx
      obtain ⟨hj, rfl⟩ := List.getElem?_eq_some_iff.1 hl
      rcases h2 with rfl | ⟨b2, o2, e2, h2⟩
      · cases hj
      · injection e2 with e2; injection e2 with e3 e4; subst e3; subst e4
        obtain ⟨u, hu, rfl, _⟩ := h2 j hj
        exact hu
    have hj : (Go.Lib.join ((ps.map fun l => (⟨l.toArray⟩ : ByteArray)).map (·.data.toList)) [47]) = joinB 47 ps := by
      rw [List.map_map, show ((fun x : ByteArray => x.data.toList) ∘ fun l : List UInt8 => (⟨l.toArray⟩ : ByteArray)) = id from funext fun l => rfl, List.map_id, join_eq]
    have hc := Go.Proofs.Any.strings_Join Tryd.laysJoin Join_extra b 0 c (ps.map fun l => (⟨l.toArray⟩ : ByteArray)) ⟨#[47]⟩ w hcell hb.2 (by simp; omega) (by simp; omega) (by
      show (Go.Lib.join _ [47]).length ≤ _
      rw [hj]; omega)
    rw [List.length_map] at hc
    unfold Does
    refine Calls.mono (show Calls Tryd.prog 108 _ w _ from hc) ?_
    rintro e w' ⟨he, hB⟩
    refine ⟨_, he, ?_, hB⟩
    show Value.string ⟨(Go.Lib.join _ [47]).toArray⟩ = _
    rw [hj]

def Tryd.laysCut_ren : Go.Shelf.Ren := ⟨fun | 145 => 48 | 220 => 74 | 219 => 94 | 217 => 111 | 225 => 112 | 224 => 113 | 267 => 114 | 266 => 132 | 314 => 133 | n => n, fun | 9 => 9 | 4 => 4 | 59 => 68 | 3 => 3 | 5 => 5 | 46 => 109 | 146 => 129 | 51 => 128 | n => n, fun | 1 => 0 | n => n⟩
theorem Tryd.laysCut : Go.Proofs.Lays.n145 Tryd.prog Tryd.laysCut_ren := {
  mixed := by kernel_rfl
  f145 := Tryd.func48.trans (congrArg some (by kernel_rfl))
  f217 := Tryd.func111.trans (congrArg some (by kernel_rfl))
  f219 := Tryd.func94.trans (congrArg some (by kernel_rfl))
  f220 := Tryd.func74.trans (congrArg some (by kernel_rfl))
  f224 := Tryd.func113.trans (congrArg some (by kernel_rfl))
  f225 := Tryd.func112.trans (congrArg some (by kernel_rfl))
  f266 := Tryd.func132.trans (congrArg some (by kernel_rfl))
  f267 := Tryd.func114.trans (congrArg some (by kernel_rfl))
  f314 := Tryd.func133.trans (congrArg some (by kernel_rfl))
  t3 := Tryd.underlying3
  a3 := Tryd.isAgg3
  z3 := Tryd.sizeOf3
  v3 := Tryd.zeroValue3
  t4 := Tryd.underlying4
  a4 := Tryd.isAgg4
  z4 := Tryd.sizeOf4
  v4 := Tryd.zeroValue4
  t5 := Tryd.underlying5
  a5 := Tryd.isAgg5
  z5 := Tryd.sizeOf5
  v5 := Tryd.zeroValue5
  t9 := Tryd.underlying9
  a9 := Tryd.isAgg9
  z9 := Tryd.sizeOf9
  v9 := Tryd.zeroValue9
  t46 := Tryd.underlying109
  a46 := Tryd.isAgg109
  z46 := Tryd.sizeOf109
  v46 := Tryd.zeroValue109
  t51 := Tryd.underlying128
  a51 := Tryd.isAgg128
  z51 := Tryd.sizeOf128
  v51 := Tryd.zeroValue128
  t59 := Tryd.underlying68
  a59 := Tryd.isAgg68
  z59 := Tryd.sizeOf68
  v59 := Tryd.zeroValue68
  t146 := Tryd.underlying129
  a146 := Tryd.isAgg129
  z146 := Tryd.sizeOf129
  v146 := Tryd.zeroValue129
  g1 := by kernel_rfl }
theorem Cut_ok (w : World) (s : List UInt8) (c : UInt8) (hM : EMx gMx w (.bool true) ()) (hs : s.length ≤ 1048576) :
    Does Tryd.prog 48 [str s, str [c]] w (Ret w (.tuple #[str (cutF c s).1, str (cutF c s).2.1, .bool (cutF c s).2.2])) := by
  obtain ⟨m, hm⟩ := hM
  have hc := Go.Proofs.Any.strings_Cut Tryd.laysCut ⟨s.toArray⟩ ⟨#[c]⟩ m w (by simp [ByteArray.size]; omega) hm
  unfold Does
  refine Calls.mono (show Calls Tryd.prog 48 _ w _ from hc) ?_
  rintro e w' ⟨he, n, rfl⟩
  refine ⟨_, he, ?_, ?_⟩
  · have := cut_eq c s
    simp only [show (#[c] : Array UInt8).toList = [c] from rfl, this]
  · exact ⟨rfl, rfl, rfl, Nat.le_refl _, fun _ _ => rfl⟩

def Tryd.laysItoa_ren : Go.Shelf.Ren := ⟨fun | 171 => 72 | 243 => 91 | 246 => 109 | 283 => 125 | 284 => 126 | 285 => 127 | 286 => 128 | 129 => 144 | 317 => 143 | 318 => 145 | 319 => 146 | 320 => 147 | 337 => 168 | 338 => 169 | n => n, fun | 3 => 3 | 9 => 9 | 2 => 2 | 4 => 4 | 171 => 121 | 0 => 0 | 53 => 122 | 37 => 43 | 5 => 5 | 173 => 125 | 212 => 139 | 51 => 128 | 20 => 20 | 213 => 140 | 46 => 109 | 232 => 164 | 233 => 165 | n => n, fun | 17 => 1 | 18 => 2 | 19 => 3 | n => n⟩
theorem Tryd.laysItoa : Go.Proofs.Lays.n171 Tryd.prog Tryd.laysItoa_ren := {
  mixed := by kernel_rfl
  f129 := Tryd.func144.trans (congrArg some (by kernel_rfl))
  f171 := Tryd.func72.trans (congrArg some (by kernel_rfl))
  f243 := Tryd.func91.trans (congrArg some (by kernel_rfl))
  f246 := Tryd.func109.trans (congrArg some (by kernel_rfl))
  f283 := Tryd.func125.trans (congrArg some (by kernel_rfl))
  f284 := Tryd.func126.trans (congrArg some (by kernel_rfl))
  f285 := Tryd.func127.trans (congrArg some (by kernel_rfl))
  f286 := Tryd.func128.trans (congrArg some (by kernel_rfl))
  f317 := Tryd.func143.trans (congrArg some (by kernel_rfl))
  f318 := Tryd.func145.trans (congrArg some (by kernel_rfl))
  f319 := Tryd.func146.trans (congrArg some (by kernel_rfl))
  f320 := Tryd.func147.trans (congrArg some (by kernel_rfl))
  f337 := Tryd.func168.trans (congrArg some (by kernel_rfl))
  f338 := Tryd.func169.trans (congrArg some (by kernel_rfl))
  t0 := Tryd.underlying0
  a0 := Tryd.isAgg0
  z0 := Tryd.sizeOf0
  v0 := Tryd.zeroValue0
  t2 := Tryd.underlying2
  a2 := Tryd.isAgg2
  z2 := Tryd.sizeOf2
  v2 := Tryd.zeroValue2
  t3 := Tryd.underlying3
  a3 := Tryd.isAgg3
  z3 := Tryd.sizeOf3
  v3 := Tryd.zeroValue3
  t4 := Tryd.underlying4
  a4 := Tryd.isAgg4
  z4 := Tryd.sizeOf4
  v4 := Tryd.zeroValue4
  t5 := Tryd.underlying5
  a5 := Tryd.isAgg5
  z5 := Tryd.sizeOf5
  v5 := Tryd.zeroValue5
  t9 := Tryd.underlying9
  a9 := Tryd.isAgg9
  z9 := Tryd.sizeOf9
  v9 := Tryd.zeroValue9
  t20 := Tryd.underlying20
  a20 := Tryd.isAgg20
  z20 := Tryd.sizeOf20
  v20 := Tryd.zeroValue20
  t37 := Tryd.underlying43
  a37 := Tryd.isAgg43
  z37 := Tryd.sizeOf43
  v37 := Tryd.zeroValue43
  t46 := Tryd.underlying109
  a46 := Tryd.isAgg109
  z46 := Tryd.sizeOf109
  v46 := Tryd.zeroValue109
  t51 := Tryd.underlying128
  a51 := Tryd.isAgg128
  z51 := Tryd.sizeOf128
  v51 := Tryd.zeroValue128
  t53 := Tryd.underlying122
  a53 := Tryd.isAgg122
  z53 := Tryd.sizeOf122
  v53 := Tryd.zeroValue122
  t171 := Tryd.underlying121
  a171 := Tryd.isAgg121
  z171 := Tryd.sizeOf121
  v171 := Tryd.zeroValue121
  t173 := Tryd.underlying125
  a173 := Tryd.isAgg125
  z173 := Tryd.sizeOf125
  v173 := Tryd.zeroValue125
  t212 := Tryd.underlying139
  a212 := Tryd.isAgg139
  z212 := Tryd.sizeOf139
  v212 := Tryd.zeroValue139
  t213 := Tryd.underlying140
  a213 := Tryd.isAgg140
  z213 := Tryd.sizeOf140
  t232 := Tryd.underlying164
  a232 := Tryd.isAgg164
  z232 := Tryd.sizeOf164
  v232 := Tryd.zeroValue164
  t233 := Tryd.underlying165
  a233 := Tryd.isAgg165
  z233 := Tryd.sizeOf165
  v233 := Tryd.zeroValue165
  g17 := by kernel_rfl
  g18 := by kernel_rfl
  g19 := by kernel_rfl }
theorem Itoa_ok (w : World) (n : Nat) (h : n < 10) : Does Tryd.prog 72 [.int .i64 (n : Int)] w (Ret w (str [dig n])) := by
  unfold Does
  refine Calls.mono (show Calls Tryd.prog 72 _ w _ from Go.Proofs.Any.strconv_Itoa_small Tryd.laysItoa n (by omega) w) ?_
  rintro e w' ⟨he, rfl⟩
  refine ⟨_, he, ?_, Ext.refl _⟩
  rw [decDigits_small h]

end Go.Proofs.YtgphoihilheoeaaDoor
