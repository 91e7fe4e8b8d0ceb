/- Lemmas for FnDeskOk. -/
import Derived.Test.YtgphoihilheoeaaGreatDoorMFnDeskOk2
import Derived.Shelf.Lay
import Derived.Ground.NamesProg
import Derived.Shelf.Strings.Split
import Derived.Shelf.Strings.OnBuilder
import Derived.Shelf.Strings.Cut
import Derived.Shelf.Strconv.Itoa3
namespace Go.Proofs.YtgphoihilheoeaaGreatDoor
open Go.Hs
set_option maxRecDepth 10000
set_option maxHeartbeats 4000000
set_option linter.unusedVariables false
set_option linter.unusedSimpArgs false
abbrev XS := XSl 9 XStr

def Tryz.laysJoin_ren : Go.Shelf.Ren := ⟨fun | 156 => 77 | 165 => 87 | 166 => 88 | 169 => 89 | 240 => 102 | 241 => 103 | 276 => 125 | 277 => 126 | n => n, fun | 31 => 82 | 9 => 9 | 3 => 3 | 4 => 4 | 0 => 0 | 20 => 20 | 72 => 91 | 76 => 95 | 70 => 89 | 37 => 32 | 75 => 94 | 127 => 105 | 164 => 126 | 5 => 5 | 80 => 97 | n => n, fun | n => n⟩
theorem Tryz.laysJoin : Go.Proofs.Lays.n156 Tryz.prog Tryz.laysJoin_ren := {
  mixed := by kernel_rfl
  f156 := Tryz.func77.trans (congrArg some (by kernel_rfl))
  f165 := Tryz.func87.trans (congrArg some (by kernel_rfl))
  f166 := Tryz.func88.trans (congrArg some (by kernel_rfl))
  f169 := Tryz.func89.trans (congrArg some (by kernel_rfl))
  f240 := Tryz.func102.trans (congrArg some (by kernel_rfl))
  f241 := Tryz.func103.trans (congrArg some (by kernel_rfl))
  f276 := Tryz.func125.trans (congrArg some (by kernel_rfl))
  f277 := Tryz.func126.trans (congrArg some (by kernel_rfl))
  t0 := Tryz.underlying0
  a0 := Tryz.isAgg0
  z0 := Tryz.sizeOf0
  v0 := Tryz.zeroValue0
  t3 := Tryz.underlying3
  a3 := Tryz.isAgg3
  z3 := Tryz.sizeOf3
  v3 := Tryz.zeroValue3
  t4 := Tryz.underlying4
  a4 := Tryz.isAgg4
  z4 := Tryz.sizeOf4
  v4 := Tryz.zeroValue4
  t9 := Tryz.underlying9
  a9 := Tryz.isAgg9
  z9 := Tryz.sizeOf9
  v9 := Tryz.zeroValue9
  t20 := Tryz.underlying20
  a20 := Tryz.isAgg20
  z20 := Tryz.sizeOf20
  v20 := Tryz.zeroValue20
  t31 := Tryz.underlying82
  a31 := Tryz.isAgg82
  z31 := Tryz.sizeOf82
  v31 := Tryz.zeroValue82
  t37 := Tryz.underlying32
  a37 := Tryz.isAgg32
  z37 := Tryz.sizeOf32
  v37 := Tryz.zeroValue32
  t70 := Tryz.underlying89
  a70 := Tryz.isAgg89
  z70 := Tryz.sizeOf89
  v70 := Tryz.zeroValue89
  t72 := Tryz.underlying91
  a72 := Tryz.isAgg91
  z72 := Tryz.sizeOf91
  v72 := Tryz.zeroValue91
  t75 := Tryz.underlying94
  a75 := Tryz.isAgg94
  z75 := Tryz.sizeOf94
  v75 := Tryz.zeroValue94
  t76 := Tryz.underlying95
  a76 := Tryz.isAgg95
  z76 := Tryz.sizeOf95
  v76 := Tryz.zeroValue95
  t127 := Tryz.underlying105
  a127 := Tryz.isAgg105
  z127 := Tryz.sizeOf105
  v127 := Tryz.zeroValue105
  t164 := Tryz.underlying126
  a164 := Tryz.isAgg126
  z164 := Tryz.sizeOf126
  v164 := Tryz.zeroValue126 }
theorem Join_extra : Builder.Extra Tryz.prog Tryz.laysJoin_ren where
  sizeBuilder := by kernel_rfl
  liesBuilder := by kernel_rfl
  t5 := Tryz.underlying5
  a5 := fun w => run_isAgg_plain Tryz.underlying5 rfl w
  z5 := Tryz.sizeOf5
  v5 := Tryz.zeroValue5
  infoByte := by kernel_rfl
  cellsByte := by kernel_rfl
  sizeByte := by kernel_rfl
  neB5 := by decide
theorem Join_ok (w : World) (v : Value) (ps : List (List UInt8)) {lo : Nat} (h : Owned lo XS w v ps) (hl : (joinB 47 ps).length ≤ 1048576) (hl2 : ps.length ≤ 1048576) :
    Does Tryz.prog 77 [v, str [47]] w (Ret w (str (joinB 47 ps))) := by
  rcases ps.eq_nil_or_concat with rfl | hne
  · obtain ⟨a, c, rfl, h1, h2⟩ := h.read
    unfold Does
    refine Calls.mono (show Calls Tryz.prog 77 _ w _ from Go.Proofs.Any.strings_Join_none Tryz.laysJoin Join_extra a c ⟨#[47]⟩ w) ?_
    rintro e w' ⟨he, rfl⟩
    exact ⟨_, he, rfl, Ext.refl _⟩
  · have hp : 0 < ps.length := by obtain ⟨a, b, rfl⟩ := hne; simp
    obtain ⟨b, c, rfl, hc⟩ := h.lit hp
    have hb := h.lt_own (k := b) rfl
    obtain ⟨a', c', e, h1, h2⟩ := h.read
    obtain ⟨rfl, -, rfl⟩ : some _ = a' ∧ ps.length = ps.length ∧ c = c' := by injection e with e1 e2 e3; exact ⟨e1, e2, e3⟩
    have hcell : ∀ (j : Nat) x, (ps.map fun l => (⟨l.toArray⟩ : ByteArray))[j]? = some x → w.cell? ⟨b, 0 + j, none⟩ = some (.string x) := by
      intro j x hx
      rw [List.getElem?_map] at hx
      obtain ⟨l, hl, rfl⟩ := Option.map_eq_some_iff.1 hx
      obtain ⟨hj, rfl⟩ := List.getElem?_eq_some_iff.1 hl
      rcases h2 with rfl | ⟨b2, o2, e2, h2⟩
      · cases hj
      · injection e2 with e2; injection e2 with e3 e4; subst e3; subst e4
        obtain ⟨u, hu, rfl, _⟩ := h2 j hj
        exact hu
    have hj : (Go.Lib.join ((ps.map fun l => (⟨l.toArray⟩ : ByteArray)).map (·.data.toList)) [47]) = joinB 47 ps := by
      rw [List.map_map, show ((fun x : ByteArray => x.data.toList) ∘ fun l : List UInt8 => (⟨l.toArray⟩ : ByteArray)) = id from funext fun l => rfl, List.map_id, join_eq]
    have hc := Go.Proofs.Any.strings_Join Tryz.laysJoin Join_extra b 0 c (ps.map fun l => (⟨l.toArray⟩ : ByteArray)) ⟨#[47]⟩ w hcell hb.2 (by simp; omega) (by simp; omega) (by
      show (Go.Lib.join _ [47]).length ≤ _
      rw [hj]; omega)
    rw [List.length_map] at hc
    unfold Does
    refine Calls.mono (show Calls Tryz.prog 77 _ w _ from hc) ?_
    rintro e w' ⟨he, hB⟩
    refine ⟨_, he, ?_, hB⟩
    show Value.string ⟨(Go.Lib.join _ [47]).toArray⟩ = _
    rw [hj]

def Tryz.laysItoa_ren : Go.Shelf.Ren := ⟨fun | 171 => 76 | 243 => 86 | 246 => 101 | 283 => 121 | 284 => 122 | 285 => 123 | 286 => 124 | 129 => 120 | 317 => 135 | 318 => 136 | 319 => 137 | 320 => 138 | 337 => 141 | 338 => 142 | n => n, fun | 3 => 3 | 9 => 9 | 2 => 2 | 4 => 4 | 171 => 122 | 0 => 0 | 53 => 121 | 37 => 32 | 5 => 5 | 173 => 124 | 212 => 136 | 51 => 119 | 20 => 20 | 213 => 137 | 46 => 103 | 232 => 141 | 233 => 142 | n => n, fun | 17 => 0 | 18 => 2 | 19 => 3 | n => n⟩
theorem Tryz.laysItoa : Go.Proofs.Lays.n171 Tryz.prog Tryz.laysItoa_ren := {
  mixed := by kernel_rfl
  f129 := Tryz.func120.trans (congrArg some (by kernel_rfl))
  f171 := Tryz.func76.trans (congrArg some (by kernel_rfl))
  f243 := Tryz.func86.trans (congrArg some (by kernel_rfl))
  f246 := Tryz.func101.trans (congrArg some (by kernel_rfl))
  f283 := Tryz.func121.trans (congrArg some (by kernel_rfl))
  f284 := Tryz.func122.trans (congrArg some (by kernel_rfl))
  f285 := Tryz.func123.trans (congrArg some (by kernel_rfl))
  f286 := Tryz.func124.trans (congrArg some (by kernel_rfl))
  f317 := Tryz.func135.trans (congrArg some (by kernel_rfl))
  f318 := Tryz.func136.trans (congrArg some (by kernel_rfl))
  f319 := Tryz.func137.trans (congrArg some (by kernel_rfl))
  f320 := Tryz.func138.trans (congrArg some (by kernel_rfl))
  f337 := Tryz.func141.trans (congrArg some (by kernel_rfl))
  f338 := Tryz.func142.trans (congrArg some (by kernel_rfl))
  t0 := Tryz.underlying0
  a0 := Tryz.isAgg0
  z0 := Tryz.sizeOf0
  v0 := Tryz.zeroValue0
  t2 := Tryz.underlying2
  a2 := Tryz.isAgg2
  z2 := Tryz.sizeOf2
  v2 := Tryz.zeroValue2
  t3 := Tryz.underlying3
  a3 := Tryz.isAgg3
  z3 := Tryz.sizeOf3
  v3 := Tryz.zeroValue3
  t4 := Tryz.underlying4
  a4 := Tryz.isAgg4
  z4 := Tryz.sizeOf4
  v4 := Tryz.zeroValue4
  t5 := Tryz.underlying5
  a5 := Tryz.isAgg5
  z5 := Tryz.sizeOf5
  v5 := Tryz.zeroValue5
  t9 := Tryz.underlying9
  a9 := Tryz.isAgg9
  z9 := Tryz.sizeOf9
  v9 := Tryz.zeroValue9
  t20 := Tryz.underlying20
  a20 := Tryz.isAgg20
  z20 := Tryz.sizeOf20
  v20 := Tryz.zeroValue20
  t37 := Tryz.underlying32
  a37 := Tryz.isAgg32
  z37 := Tryz.sizeOf32
  v37 := Tryz.zeroValue32
  t46 := Tryz.underlying103
  a46 := Tryz.isAgg103
  z46 := Tryz.sizeOf103
  v46 := Tryz.zeroValue103
  t51 := Tryz.underlying119
  a51 := Tryz.isAgg119
  z51 := Tryz.sizeOf119
  v51 := Tryz.zeroValue119
  t53 := Tryz.underlying121
  a53 := Tryz.isAgg121
  z53 := Tryz.sizeOf121
  v53 := Tryz.zeroValue121
  t171 := Tryz.underlying122
  a171 := Tryz.isAgg122
  z171 := Tryz.sizeOf122
  v171 := Tryz.zeroValue122
  t173 := Tryz.underlying124
  a173 := Tryz.isAgg124
  z173 := Tryz.sizeOf124
  v173 := Tryz.zeroValue124
  t212 := Tryz.underlying136
  a212 := Tryz.isAgg136
  z212 := Tryz.sizeOf136
  v212 := Tryz.zeroValue136
  t213 := Tryz.underlying137
  a213 := Tryz.isAgg137
  z213 := Tryz.sizeOf137
  t232 := Tryz.underlying141
  a232 := Tryz.isAgg141
  z232 := Tryz.sizeOf141
  v232 := Tryz.zeroValue141
  t233 := Tryz.underlying142
  a233 := Tryz.isAgg142
  z233 := Tryz.sizeOf142
  v233 := Tryz.zeroValue142
  g17 := by kernel_rfl
  g18 := by kernel_rfl
  g19 := by kernel_rfl }
theorem Itoa_ok (w : World) (n : Nat) (h : n < 10) : Does Tryz.prog 76 [.int .i64 (n : Int)] w (Ret w (str [dig n])) := by
  unfold Does
  refine Calls.mono (show Calls Tryz.prog 76 _ w _ from Go.Proofs.Any.strconv_Itoa_small Tryz.laysItoa n (by omega) w) ?_
  rintro e w' ⟨he, rfl⟩
  refine ⟨_, he, ?_, Ext.refl _⟩
  rw [decDigits_small h]

end Go.Proofs.YtgphoihilheoeaaGreatDoor
namespace Go.Proofs.YtgphoihilheoeaaGreatDoor
open Go.Hs
set_option maxRecDepth 10000
set_option maxHeartbeats 4000000
set_option linter.unusedVariables false
set_option linter.unusedSimpArgs false

theorem l1Number_ok (w : World) (n : Nat) (hn : n < 10) : Does Tryz.prog 65 [.int .i64 (n : Int)] w (Ret w (str [dig n])) := by
  refine fn_of_W1 Tryz.func65 rfl Tryz.results65 Tryz.ntmps65 rfl ?_
  focus
    refine W_seq ?_; refine W_region rfl ?_; refine Wo rfl (opv_assign (v := .string _) rfl) ?_; refine Wo_nil ?_; refine W_seq ?_; refine W_seq ?_; refine W_region rfl ?_; refine Wo rfl (opv_move (v := .int _ _) rfl) ?_
    refine Wo rfl (opv_lss rfl rfl) ?_; refine Wo_nil ?_; refine W_cond_dec rfl (fun h1 => ?_) (fun h1 => ?_); refine W_seq ?_; refine W_region rfl ?_; refine Wo rfl (opv_move (v := .int _ _) rfl) ?_; refine Wo rfl (opv_max rfl rfl) ?_
    refine Wo rfl (opv_add rfl rfl (by omega)) ?_; refine Wo rfl (opv_conv_u8 Tryz.underlying3 Tryz.underlying5 rfl (by omega)) ?_
    refine Wo_buildSlice (ps := [(0, .int _ _)]) (cs := [_]) rfl Tryz.underlying32 Tryz.sizeOf5 Tryz.zeroValue5 rfl rfl rfl rfl ?_; rintro b1 w1 hb1 E1 hB1; have hlb1 := hB1.lt; have hs1 := E1.size
    refine Wo rfl (opv_conv_b1 Tryz.underlying32 Tryz.underlying5 Tryz.underlying9 rfl (by assumption)) ?_; refine Wo rfl (opv_assign (v := .string _) rfl) ?_; refine Wo_nil ?_; refine W_ret ?_; refine at_ret (v := .string _) rfl ?_
    refine ⟨congrArg str ?_, E1⟩; rotate_left; (exfalso; omega)
  have e : (48 + max (n : Int) 0).toNat = 48 + n := by omega
  rw [e]; rfl

theorem l1Cut_ok (w : World) (s : List UInt8) (c : UInt8) (hs : s.length ≤ 1048576) : Does Tryz.prog 106 [str s, .int .u8 (c.toNat : Int)] w (RetO w XS (cutB c s)) := by
  refine fn_of_W1 Tryz.func106 rfl Tryz.results106 Tryz.ntmps106 rfl ?_
  focus
    refine W_seq ?_; refine W_region rfl ?_; refine Wo rfl (opv_assign (v := .slice _ _ _) rfl) ?_; refine Wo_nil ?_; refine W_seq ?_; refine W_region rfl ?_; refine Wo_lit0 XStr rfl el82 Tryz.sizeOf9 ?_; rintro b1 w1 hb1 b1lt E1 hO1
    have hs1 := E1.size; refine Wo rfl (opv_assign (v := .slice _ _ _) rfl) ?_; refine Wo_nil ?_; refine W_seq ?_; refine W_region rfl ?_; refine Wo rfl (opv_assign (v := .int _ _) rfl) ?_; refine Wo_nil ?_; refine W_seq ?_
    refine W_seq ?_; refine W_region rfl ?_; refine Wo rfl (opv_assign (v := .int _ _) rfl) ?_; refine Wo_nil ?_; refine W_block ?_
  refine W_loop [5, 6, 7, 9, 10, 11, 12, 13, 14, 15, 16, 17, 18, 19, 20, 21, 22, 23, 24, 25, 26, 27, 28] (fun ((k, f, u, ps) : Nat × Nat × Value × List (List UInt8)) => [(7, .int .i64 (k : Nat)), (6, .int .i64 (f : Nat)), (5, u)]) (fun (k, f, u, ps) w' => Ext w w' ∧ k ≤ s.length ∧ f ≤ k ∧ ps.length ≤ k ∧ Owned w.heap.size XS w' u ps ∧ cutB c (s.take k) = ps ++ [(s.drop f).take (k - f)]) (fun x => s.length - x.1) (0, 0, .slice (some ⟨b1, 0, none⟩) 0 0, []) (by repeat (first | exact trivial | refine And.intro rfl ?_)) ?_ ?_
  · exact ⟨by assumption, Nat.zero_le _, Nat.le_refl _, Nat.zero_le _, hO1, by simp [cutB]⟩
  rintro ⟨k, f, u, ps⟩ ρj w2 ⟨E2, hk, hf, hpl, hO2, hc⟩
  have hst := fun hk' => cut_step (s := c) (l := s) hk' hf hc
  focus
    have szE2 := E2.size; have szE1 := E1.size; refine W_seq ?_; refine W_seq ?_; refine W_region rfl ?_; refine Wo rfl (opv_move (v := .int _ _) rfl) ?_; refine Wo rfl (opv_move (v := .string _) rfl) ?_
    refine Wo rfl (opv_len_str Tryz.underlying9 rfl) ?_; refine Wo rfl (opv_lss rfl rfl) ?_; refine Wo_nil ?_; refine W_cond_dec rfl (fun h1 => ?_) (fun h1 => ?_); refine W_skip ?_; refine W_seq ?_; refine W_block ?_; refine W_seq ?_
    refine W_region rfl ?_; refine Wo rfl (opv_move (v := .string _) rfl) ?_; refine Wo rfl (opv_move (v := .int _ _) rfl) ?_; refine Wo rfl (opv_index_str Tryz.underlying9 rfl rfl (by omega)) ?_
    refine Wo rfl (opv_move (v := .int _ _) rfl) ?_; refine Wo rfl (opv_eql rfl rfl) ?_; refine Wo_nil ?_; refine W_cond_dec rfl (fun h2 => ?_) (fun h2 => ?_); refine W_seq ?_; refine W_region rfl ?_
    refine Wo rfl (opv_move (v := u) rfl) ?_; refine Wo rfl (opv_move (v := .string _) rfl) ?_; refine Wo rfl (opv_move (v := .int _ _) rfl) ?_; refine Wo rfl (opv_move (v := .int _ _) rfl) ?_
    refine Wo rfl (opv_slice_str Tryz.underlying9 rfl rfl rfl (by omega)) ?_; refine Wo_buildSlice (ps := [(0, .string _)]) (cs := [_]) rfl Tryz.underlying82 Tryz.sizeOf9 Tryz.zeroValue9 rfl rfl rfl rfl ?_; rintro b2 w3 hb2 E3 hB1
    have hlb2 := hB1.lt; have hs2 := E3.size
    refine Wo_app1 rfl el82 rfl rfl hB1 (hO2.toB.ext E3) (Owned.str (by first | omega | (simp <;> omega))) (Nat.le_refl _) (by first | omega | (simp <;> omega)) (by omega) (by omega) (E2.trans E3) (by omega) ?_
    have hT1 := (hO2.toB.ext E3); rintro v1 w4 hO2 E4 M1; have hB1 := hB1.moves M1 hT1 (by omega); have hs3 := E4.size; refine Wo rfl (opv_assign (v := v1) rfl) ?_; refine Wo_nil ?_; refine W_region rfl ?_
    refine Wo rfl (opv_move (v := .int _ _) rfl) ?_; refine Wo rfl (opv_add rfl rfl (by omega)) ?_; refine Wo rfl (opv_assign (v := .int _ _) rfl) ?_; refine Wo_nil ?_; refine W_region rfl ?_
    refine Wo rfl (opv_move (v := .int _ _) rfl) ?_; refine Wo rfl (opv_add rfl rfl (by omega)) ?_; refine Wo rfl (opv_assign (v := .int _ _) rfl) ?_; refine Wo_nil ?_; rotate_left; refine W_skip ?_; refine W_region rfl ?_
    refine Wo rfl (opv_move (v := .int _ _) rfl) ?_; refine Wo rfl (opv_add rfl rfl (by omega)) ?_; refine Wo rfl (opv_assign (v := .int _ _) rfl) ?_; refine Wo_nil ?_; rotate_left; refine W_exit ?_; refine exitX_same ?_
    refine W_seq ?_; refine W_region rfl ?_; refine Wo rfl (opv_move (v := u) rfl) ?_; refine Wo rfl (opv_move (v := .string _) rfl) ?_; refine Wo rfl (opv_move (v := .int _ _) rfl) ?_
    refine Wo rfl (opv_slice_str_lo Tryz.underlying9 rfl rfl (by omega)) ?_; refine Wo_buildSlice (ps := [(0, .string _)]) (cs := [_]) rfl Tryz.underlying82 Tryz.sizeOf9 Tryz.zeroValue9 rfl rfl rfl rfl ?_; rintro b2 w3 hb2 E3 hB1
    have hlb2 := hB1.lt; have hs2 := E3.size
    refine Wo_app1 rfl el82 rfl rfl hB1 (hO2.toB.ext E3) (Owned.str (by first | omega | (simp <;> omega))) (Nat.le_refl _) (by first | omega | (simp <;> omega)) (by omega) (by omega) (E2.trans E3) (by omega) ?_
    have hT1 := (hO2.toB.ext E3); rintro v1 w4 hO2 E4 M1; have hB1 := hB1.moves M1 hT1 (by omega); have hs3 := E4.size; refine Wo rfl (opv_assign (v := v1) rfl) ?_; refine Wo_nil ?_; refine W_ret ?_
    refine ⟨E4, (congrArg (Owned _ _ _ _) ?_).mp (hO2.toB.o.mono (by omega))⟩; rotate_left
  · refine ⟨((k + 1, k + 1, v1, ps ++ [(s.drop f).take (k - f)])), by repeat (first | exact trivial | refine And.intro rfl ?_), by repeat (first | with_reducible exact Same.refl | refine Same.upd rfl ?_ | refine Same.upds rfl ?_ | refine Same.mix rfl ?_), ?_, ?_⟩
    · rw [getD_lt (by omega)] at h2
      exact ⟨by assumption, by omega, by omega, by simp; omega, hO2, (hst (by omega)).1 (UInt8.toNat_inj.1 (by omega))⟩
    · simp only; omega
  · refine ⟨((k + 1, f, u, ps)), by repeat (first | exact trivial | refine And.intro rfl ?_), by repeat (first | with_reducible exact Same.refl | refine Same.upd rfl ?_ | refine Same.upds rfl ?_ | refine Same.mix rfl ?_), ?_, ?_⟩
    · rw [getD_lt (by omega)] at h2
      exact ⟨by assumption, by omega, by omega, by omega, hO2, (hst (by omega)).2 (fun e => h2 (by rw [e]))⟩
    · simp only; omega
  · obtain rfl : k = s.length := by omega
    rw [List.take_length] at hc
    rw [hc, List.take_of_length_le (by simp)]

theorem txj_len {p : List (List Int)} (hp : Pic p) (k : Nat) : (joinB 47 ((p.map txR).take k)).length ≤ 200 := by
  have h := txt_len hp.gr
  rw [txt, ← List.take_append_drop k (p.map txR)] at h
  refine Nat.le_trans ?_ h
  cases h1 : (p.map txR).take k with
  | nil => simp [joinB]
  | cons x xs => simp [joinB]
theorem tx_step {p : List (List Int)} (hp : Pic p) {k : Nat} (hk : k < p.length) : joinB 47 ((p.map txR).take (k + 1)) = (if k = 0 then [] else joinB 47 ((p.map txR).take k) ++ [47]) ++ ((List.range p.length).filter fun i => decide (p[k].getD i 0 = 1)).map dig := by
  have hr := (hp.2.2 _ (List.getElem_mem hk)).1
  have e : txR p[k] = ((List.range p.length).filter fun i => decide (p[k].getD i 0 = 1)).map dig := by rw [txR, arrR, hr]
  rw [List.take_succ_eq_append_getElem (by simpa using hk), List.getElem_map, ← e]
  by_cases h0 : k = 0
  · subst h0; rw [if_pos rfl]; simp [joinB]
  · rw [if_neg h0, joinB_snoc (by intro h; have := congrArg List.length h; rw [List.length_take, List.length_map, List.length_nil] at this; omega)]; simp
theorem PictureText_ok (w : World) (v : Value) (p : List (List Int)) (h : ESl Ints w v p) : Does Tryz.prog 38 [v] w (Ret w (str (if Pic p then txt p else []))) := by
  have hle := h.le
  refine fn_of_W1 Tryz.func38 rfl Tryz.results38 Tryz.ntmps38 rfl ?_
  by_cases hp : Pic p
  · have hpo : ∀ (w : World) (v : Value), ESl Ints w v p → Does Tryz.prog 52 [v] w (Ret w (.bool true)) := fun w v h => by
      have := PictureOk_ok w v p h
      rwa [decide_eq_true hp] at this
    rw [if_pos hp]
    have hp1 := hp.1
    have hp5 := hp.2.1
    focus
      refine W_seq ?_; refine W_region rfl ?_; refine Wo rfl (opv_assign (v := .string _) rfl) ?_; refine Wo_nil ?_; refine W_seq ?_; refine W_region rfl ?_; refine Wo rfl (opv_assign (v := .string _) rfl) ?_; refine Wo_nil ?_
      refine W_seq ?_; refine W_seq ?_; refine W_region rfl ?_; refine Wo rfl (opv_assign (v := .int _ _) rfl) ?_; refine Wo_nil ?_; refine W_block ?_
    refine W_loop [3, 4, 5, 6, 7, 8, 9, 10, 11, 12, 13, 14, 15, 16, 17, 18, 19, 20, 21, 22, 23, 24, 25, 26, 27, 28, 29, 30, 31, 32, 33, 34, 35, 36, 37] (fun (k : Nat) => [(4, .int .i64 (k : Nat)), (3, str (joinB 47 ((p.map txR).take k)))]) (fun k w' => Ext w w' ∧ k ≤ p.length) (fun k => p.length - k) 0 (by repeat (first | exact trivial | refine And.intro rfl ?_)) ?_ ?_
    · exact ⟨Ext.refl _, Nat.zero_le _⟩
    rintro k ρj w1 ⟨E1, hk⟩
    have hl1 := txj_len hp k
    by_cases hlt : k < p.length
    · have hr := hp.2.2 _ (List.getElem_mem hlt)
      have hrl : ∀ j, ((List.range j).filter fun i => decide (p[k].getD i 0 = 1)).length ≤ j := fun j => Nat.le_trans (List.length_filter_le _ _) (by simp)
      focus
        have szE1 := E1.size; refine W_seq ?_; refine W_seq ?_; refine W_region rfl ?_; refine Wo rfl (opv_move (v := .int _ _) rfl) ?_; refine Wo rfl (opv_move (v := v) rfl) ?_; refine Wo rfl (opv_len Tryz.underlying22 rfl h) ?_
        refine Wo rfl (opv_lss rfl rfl) ?_; refine Wo_split_dec rfl (opv_move (v := .bool _) rfl) (fun h1 => ?_) (fun h1 => ?_); refine Wo rfl (opv_move (v := v) rfl) ?_
        refine Wo_call rfl (opc1 (a := v) Tryz.call52 rfl) (hpo _ _ ((Mono.mono E1 h))) ?_; rintro _ w2 ⟨rfl, E2⟩; have hs1 := E2.size; refine Wo rfl (opv_pick_t (v := .bool _) rfl rfl) ?_; refine Wo_nil ?_; refine W_cond_true rfl ?_
        refine W_skip ?_; refine W_seq ?_; refine W_block ?_; refine W_seq ?_; refine W_seq ?_; refine W_region rfl ?_; refine Wo rfl (opv_move (v := .int _ _) rfl) ?_; refine Wo rfl (opv_gtr rfl rfl) ?_; refine Wo_nil ?_
        refine W_cond_dec rfl (fun h2 => ?_) (fun h2 => ?_); refine W_region rfl ?_; refine Wo rfl (opv_move (v := .string _) rfl) ?_; refine Wo rfl (opv_add_str rfl rfl (by simp <;> omega)) ?_
        refine Wo rfl (opv_assign (v := .string _) rfl) ?_; refine Wo_nil ?_; refine W_seq ?_; refine W_region rfl ?_; refine Wo rfl (opv_assign (v := .int _ _) rfl) ?_; refine Wo_nil ?_; refine W_block ?_; rotate_left; refine W_skip ?_
        refine W_seq ?_; refine W_region rfl ?_; refine Wo rfl (opv_assign (v := .int _ _) rfl) ?_; refine Wo_nil ?_; refine W_block ?_; rotate_left; (exfalso; omega)
      · have hk0 : 0 < k := by omega
        refine W_loop [3, 5, 20, 21, 22, 23, 24, 25, 26, 27, 28, 29, 30, 31, 32, 33, 34, 35, 36, 37] (fun ((j, t) : Nat × List UInt8) => [(5, .int .i64 (j : Nat)), (3, str t)]) (fun (j, t) w' => Ext w w' ∧ j ≤ p.length ∧ t = (joinB 47 ((p.map txR).take k) ++ [47]) ++ ((List.range j).filter fun i => decide (p[k].getD i 0 = 1)).map dig) (fun x => p.length - x.1) (0, (joinB 47 ((p.map txR).take k) ++ [47])) (by repeat (first | exact trivial | refine And.intro rfl ?_)) ?_ ?_
        · exact ⟨E1.trans E2, Nat.zero_le _, by simp⟩
        rintro ⟨j, t⟩ ρj w3 ⟨E3, hj, ht⟩
        have hjl := hrl j
        have htl : t.length ≤ 300 := by rw [ht]; simp only [List.length_append, List.length_map, List.length_cons, List.length_nil]; omega
        have hfs := filter_range_succ (fun j => decide (p[k].getD j 0 = 1)) j
        focus
          have szE3 := E3.size; have szE2 := E2.size; have szE1 := E1.size; refine W_seq ?_; refine W_seq ?_; refine W_region rfl ?_; refine Wo rfl (opv_move (v := .int _ _) rfl) ?_; refine Wo rfl (opv_move (v := v) rfl) ?_
          refine Wo rfl (opv_len Tryz.underlying22 rfl h) ?_; refine Wo rfl (opv_lss rfl rfl) ?_; refine Wo_nil ?_; refine W_cond_dec rfl (fun h3 => ?_) (fun h3 => ?_); refine W_skip ?_; refine W_seq ?_; refine W_block ?_; refine W_seq ?_
          refine W_region rfl ?_; refine Wo rfl (opv_move (v := v) rfl) ?_; refine Wo rfl (opv_move (v := .int _ _) rfl) ?_
          refine Wo_get Tryz.underlying22 Tryz.sizeOf58 Tryz.isAgg58 rfl (fun _ => rfl) rfl h E3 rfl (by first | omega | (simp <;> omega)) ?_; rintro _ u1 hu1; refine Wo rfl (opv_move (v := .int _ _) rfl) ?_
          refine Wo_get Tryz.underlying58 Tryz.sizeOf3 Tryz.isAgg3 rfl (fun _ => rfl) rfl hu1 E3 rfl (by first | omega | (simp <;> omega)) ?_; rintro _ _ rfl; refine Wo rfl (opv_eql rfl rfl) ?_; refine Wo_nil ?_
          refine W_cond_dec rfl (fun h4 => ?_) (fun h4 => ?_); refine W_region rfl ?_; refine Wo rfl (opv_move (v := .string _) rfl) ?_; refine Wo rfl (opv_move (v := .int _ _) rfl) ?_
          refine Wo_call rfl (opc1 (a := .int _ _) Tryz.call65 rfl) (l1Number_ok _ _ (by omega)) ?_; rintro _ w4 ⟨rfl, E4⟩; have hs2 := E4.size; refine Wo rfl (opv_add_str rfl rfl (by simp <;> omega)) ?_
          refine Wo rfl (opv_assign (v := .string _) rfl) ?_; refine Wo_nil ?_; refine W_region rfl ?_; refine Wo rfl (opv_move (v := .int _ _) rfl) ?_; refine Wo rfl (opv_add rfl rfl (by omega)) ?_
          refine Wo rfl (opv_assign (v := .int _ _) rfl) ?_; refine Wo_nil ?_; rotate_left; refine W_skip ?_; refine W_region rfl ?_; refine Wo rfl (opv_move (v := .int _ _) rfl) ?_; refine Wo rfl (opv_add rfl rfl (by omega)) ?_
          refine Wo rfl (opv_assign (v := .int _ _) rfl) ?_; refine Wo_nil ?_; rotate_left; refine W_exit ?_; refine exitX_same ?_; refine W_region rfl ?_; refine Wo rfl (opv_move (v := .int _ _) rfl) ?_
          refine Wo rfl (opv_add rfl rfl (by omega)) ?_; refine Wo rfl (opv_assign (v := .int _ _) rfl) ?_; refine Wo_nil ?_; rotate_left
        · refine ⟨((j + 1, t ++ [dig j])), by repeat (first | exact trivial | refine And.intro rfl ?_), by repeat (first | with_reducible exact Same.refl | refine Same.upd rfl ?_ | refine Same.upds rfl ?_ | refine Same.mix rfl ?_), ?_, ?_⟩
          · refine ⟨E3.trans E4, by omega, ?_⟩
            rw [hfs, if_pos (by rw [decide_eq_true_eq, getD_lt (by omega)]; assumption), ht]; simp
          · simp only; omega
        · refine ⟨((j + 1, t)), by repeat (first | exact trivial | refine And.intro rfl ?_), by repeat (first | with_reducible exact Same.refl | refine Same.upd rfl ?_ | refine Same.upds rfl ?_ | refine Same.mix rfl ?_), ?_, ?_⟩
          · refine ⟨by assumption, by omega, ?_⟩
            rw [hfs, if_neg (by rw [decide_eq_true_eq, getD_lt (by omega)]; assumption), ht]; simp
          · simp only; omega
        · obtain rfl : j = p.length := by omega
          have ht2 : t = joinB 47 ((p.map txR).take (k + 1)) := by
            rw [ht, tx_step hp hlt]; rw [if_neg (by omega)]
          subst ht2
          refine ⟨(k + 1), by repeat (first | exact trivial | refine And.intro rfl ?_), by repeat (first | with_reducible exact Same.refl | refine Same.upd rfl ?_ | refine Same.upds rfl ?_ | refine Same.mix rfl ?_), ?_, ?_⟩
          · exact ⟨by assumption, by omega⟩
          · omega
      · obtain rfl : k = 0 := by omega
        refine W_loop [3, 5, 20, 21, 22, 23, 24, 25, 26, 27, 28, 29, 30, 31, 32, 33, 34, 35, 36, 37] (fun ((j, t) : Nat × List UInt8) => [(5, .int .i64 (j : Nat)), (3, str t)]) (fun (j, t) w' => Ext w w' ∧ j ≤ p.length ∧ t = [] ++ ((List.range j).filter fun i => decide (p[0].getD i 0 = 1)).map dig) (fun x => p.length - x.1) (0, []) (by repeat (first | exact trivial | refine And.intro rfl ?_)) ?_ ?_
        · exact ⟨E1.trans E2, Nat.zero_le _, by simp⟩
        rintro ⟨j, t⟩ ρj w3 ⟨E3, hj, ht⟩
        have hjl := hrl j
        have htl : t.length ≤ 300 := by rw [ht]; simp only [List.length_append, List.length_map, List.length_cons, List.length_nil]; omega
        have hfs := filter_range_succ (fun j => decide (p[0].getD j 0 = 1)) j
        focus
          have szE3 := E3.size; have szE2 := E2.size; have szE1 := E1.size; refine W_seq ?_; refine W_seq ?_; refine W_region rfl ?_; refine Wo rfl (opv_move (v := .int _ _) rfl) ?_; refine Wo rfl (opv_move (v := v) rfl) ?_
          refine Wo rfl (opv_len Tryz.underlying22 rfl h) ?_; refine Wo rfl (opv_lss rfl rfl) ?_; refine Wo_nil ?_; refine W_cond_dec rfl (fun h3 => ?_) (fun h3 => ?_); refine W_skip ?_; refine W_seq ?_; refine W_block ?_; refine W_seq ?_
          refine W_region rfl ?_; refine Wo rfl (opv_move (v := v) rfl) ?_; refine Wo rfl (opv_move (v := .int _ _) rfl) ?_
          refine Wo_get Tryz.underlying22 Tryz.sizeOf58 Tryz.isAgg58 rfl (fun _ => rfl) rfl h E3 rfl (by first | omega | (simp <;> omega)) ?_; rintro _ u1 hu1; refine Wo rfl (opv_move (v := .int _ _) rfl) ?_
          refine Wo_get Tryz.underlying58 Tryz.sizeOf3 Tryz.isAgg3 rfl (fun _ => rfl) rfl hu1 E3 rfl (by first | omega | (simp <;> omega)) ?_; rintro _ _ rfl; refine Wo rfl (opv_eql rfl rfl) ?_; refine Wo_nil ?_
          refine W_cond_dec rfl (fun h4 => ?_) (fun h4 => ?_); refine W_region rfl ?_; refine Wo rfl (opv_move (v := .string _) rfl) ?_; refine Wo rfl (opv_move (v := .int _ _) rfl) ?_
          refine Wo_call rfl (opc1 (a := .int _ _) Tryz.call65 rfl) (l1Number_ok _ _ (by omega)) ?_; rintro _ w4 ⟨rfl, E4⟩; have hs2 := E4.size; refine Wo rfl (opv_add_str rfl rfl (by simp <;> omega)) ?_
          refine Wo rfl (opv_assign (v := .string _) rfl) ?_; refine Wo_nil ?_; refine W_region rfl ?_; refine Wo rfl (opv_move (v := .int _ _) rfl) ?_; refine Wo rfl (opv_add rfl rfl (by omega)) ?_
          refine Wo rfl (opv_assign (v := .int _ _) rfl) ?_; refine Wo_nil ?_; rotate_left; refine W_skip ?_; refine W_region rfl ?_; refine Wo rfl (opv_move (v := .int _ _) rfl) ?_; refine Wo rfl (opv_add rfl rfl (by omega)) ?_
          refine Wo rfl (opv_assign (v := .int _ _) rfl) ?_; refine Wo_nil ?_; rotate_left; refine W_exit ?_; refine exitX_same ?_; refine W_region rfl ?_; refine Wo rfl (opv_move (v := .int _ _) rfl) ?_
          refine Wo rfl (opv_add rfl rfl (by omega)) ?_; refine Wo rfl (opv_assign (v := .int _ _) rfl) ?_; refine Wo_nil ?_; rotate_left
        · refine ⟨((j + 1, t ++ [dig j])), by repeat (first | exact trivial | refine And.intro rfl ?_), by repeat (first | with_reducible exact Same.refl | refine Same.upd rfl ?_ | refine Same.upds rfl ?_ | refine Same.mix rfl ?_), ?_, ?_⟩
          · refine ⟨E3.trans E4, by omega, ?_⟩
            rw [hfs, if_pos (by rw [decide_eq_true_eq, getD_lt (by omega)]; assumption), ht]; simp
          · simp only; omega
        · refine ⟨((j + 1, t)), by repeat (first | exact trivial | refine And.intro rfl ?_), by repeat (first | with_reducible exact Same.refl | refine Same.upd rfl ?_ | refine Same.upds rfl ?_ | refine Same.mix rfl ?_), ?_, ?_⟩
          · refine ⟨by assumption, by omega, ?_⟩
            rw [hfs, if_neg (by rw [decide_eq_true_eq, getD_lt (by omega)]; assumption), ht]; simp
          · simp only; omega
        · obtain rfl : j = p.length := by omega
          have ht2 : t = joinB 47 ((p.map txR).take (0 + 1)) := by
            rw [ht, tx_step hp hlt]; simp [joinB]
          subst ht2
          refine ⟨(0 + 1), by repeat (first | exact trivial | refine And.intro rfl ?_), by repeat (first | with_reducible exact Same.refl | refine Same.upd rfl ?_ | refine Same.upds rfl ?_ | refine Same.mix rfl ?_), ?_, ?_⟩
          · exact ⟨by assumption, by omega⟩
          · omega
    · obtain rfl : k = p.length := by omega
      focus
        have szE1 := E1.size; refine W_seq ?_; refine W_seq ?_; refine W_region rfl ?_; refine Wo rfl (opv_move (v := .int _ _) rfl) ?_; refine Wo rfl (opv_move (v := v) rfl) ?_; refine Wo rfl (opv_len Tryz.underlying22 rfl h) ?_
        refine Wo rfl (opv_lss rfl rfl) ?_; refine Wo_split_dec rfl (opv_move (v := .bool _) rfl) (fun h1 => ?_) (fun h1 => ?_); (exfalso; omega); refine Wo_skip rfl ?_; refine Wo_skip rfl ?_
        refine Wo rfl (opv_pick_f (v := .bool _) rfl rfl) ?_; refine Wo_nil ?_; refine W_cond_false rfl ?_; refine W_exit ?_; refine exitX_same ?_; refine W_seq ?_; refine W_region rfl ?_; refine Wo rfl (opv_move (v := .string _) rfl) ?_
        refine Wo rfl (opv_assign (v := .string _) rfl) ?_; refine Wo_nil ?_; refine W_ret ?_; refine at_ret (v := .string _) rfl ?_; refine ⟨congrArg str ?_, E1⟩
      rw [txt, List.take_of_length_le (by simp)]
  · have hpo : ∀ (w : World) (v : Value), ESl Ints w v p → Does Tryz.prog 52 [v] w (Ret w (.bool false)) := fun w v h => by
      have := PictureOk_ok w v p h
      rwa [decide_eq_false hp] at this
    rw [if_neg hp]
    focus
      refine W_seq ?_; refine W_region rfl ?_; refine Wo rfl (opv_assign (v := .string _) rfl) ?_; refine Wo_nil ?_; refine W_seq ?_; refine W_region rfl ?_; refine Wo rfl (opv_assign (v := .string _) rfl) ?_; refine Wo_nil ?_
      refine W_seq ?_; refine W_seq ?_; refine W_region rfl ?_; refine Wo rfl (opv_assign (v := .int _ _) rfl) ?_; refine Wo_nil ?_; refine W_block ?_
    refine W_loop [3, 4, 5, 6, 7, 8, 9, 10, 11, 12, 13, 14, 15, 16, 17, 18, 19, 20, 21, 22, 23, 24, 25, 26, 27, 28, 29, 30, 31, 32, 33, 34, 35, 36, 37] (fun (_ : Unit) => [(4, .int .i64 0), (3, str [])]) (fun _ w' => Ext w w') (fun _ => 0) () (by repeat (first | exact trivial | refine And.intro rfl ?_)) ?_ ?_
    · exact Ext.refl _
    rintro ⟨⟩ ρj w1 E1
    by_cases h0 : 0 < p.length
    · focus
        have szE1 := E1.size; refine W_seq ?_; refine W_seq ?_; refine W_region rfl ?_; refine Wo rfl (opv_move (v := .int _ _) rfl) ?_; refine Wo rfl (opv_move (v := v) rfl) ?_; refine Wo rfl (opv_len Tryz.underlying22 rfl h) ?_
        refine Wo rfl (opv_lss rfl rfl) ?_; refine Wo_split_dec rfl (opv_move (v := .bool _) rfl) (fun h1 => ?_) (fun h1 => ?_); refine Wo rfl (opv_move (v := v) rfl) ?_
        refine Wo_call rfl (opc1 (a := v) Tryz.call52 rfl) (hpo _ _ ((Mono.mono E1 h))) ?_; rintro _ w2 ⟨rfl, E2⟩; have hs1 := E2.size; refine Wo rfl (opv_pick_t (v := .bool _) rfl rfl) ?_; refine Wo_nil ?_; refine W_cond_false rfl ?_
        refine W_exit ?_; refine exitX_same ?_; refine W_seq ?_; refine W_region rfl ?_; refine Wo rfl (opv_move (v := .string _) rfl) ?_; refine Wo rfl (opv_assign (v := .string _) rfl) ?_; refine Wo_nil ?_; refine W_ret ?_
        exact ⟨rfl, (E1.trans E2)⟩; (exfalso; omega)
    · focus
        have szE1 := E1.size; refine W_seq ?_; refine W_seq ?_; refine W_region rfl ?_; refine Wo rfl (opv_move (v := .int _ _) rfl) ?_; refine Wo rfl (opv_move (v := v) rfl) ?_; refine Wo rfl (opv_len Tryz.underlying22 rfl h) ?_
        refine Wo rfl (opv_lss rfl rfl) ?_; refine Wo_split_dec rfl (opv_move (v := .bool _) rfl) (fun h1 => ?_) (fun h1 => ?_); (exfalso; omega); refine Wo_skip rfl ?_; refine Wo_skip rfl ?_
        refine Wo rfl (opv_pick_f (v := .bool _) rfl rfl) ?_; refine Wo_nil ?_; refine W_cond_false rfl ?_; refine W_exit ?_; refine exitX_same ?_; refine W_seq ?_; refine W_region rfl ?_; refine Wo rfl (opv_move (v := .string _) rfl) ?_
        refine Wo rfl (opv_assign (v := .string _) rfl) ?_; refine Wo_nil ?_; refine W_ret ?_; exact ⟨rfl, E1⟩

end Go.Proofs.YtgphoihilheoeaaGreatDoor
set_option linter.unusedVariables false
set_option linter.unusedSimpArgs false
namespace Go.Hs
/-- the orders that go on from one, by numbers below x -/
def oxt (x : Nat) (o : List Nat) : List (List Nat) := ((List.range x).filter fun y => decide (1 ≤ y) && !o.contains y).map fun y => o ++ [y]
theorem ordS_succ (n k : Nat) : ordS n (k + 1) = (ordS n k).flatMap (oxt n) := rfl
theorem oxt_one (o : List Nat) : oxt 1 o = [] := rfl
theorem oxt_yes {x : Nat} {o : List Nat} (hx : 1 ≤ x) (h : o.contains x = false) : oxt (x + 1) o = oxt x o ++ [o ++ [x]] := by
  unfold oxt
  rw [filter_range_succ, decide_eq_true hx, h]
  simp
theorem oxt_no {x : Nat} {o : List Nat} (h : o.contains x = true) : oxt (x + 1) o = oxt x o := by
  unfold oxt
  rw [filter_range_succ, h]
  simp
theorem oxt_len (x : Nat) (o : List Nat) : (oxt x o).length ≤ x := by
  unfold oxt
  rw [List.length_map]
  exact Nat.le_trans (List.length_filter_le _ _) (by simp)
theorem flatMap_len {α β : Type} (f : α → List β) (m : Nat) : ∀ (l : List α), (∀ x ∈ l, (f x).length ≤ m) → (l.flatMap f).length ≤ l.length * m
  | [], _ => by simp
  | x :: l, h => by
    rw [List.flatMap_cons, List.length_append, List.length_cons]
    have := flatMap_len f m l fun y hy => h y (by simp [hy])
    have := h x (by simp)
    rw [Nat.succ_mul]; omega
theorem ordS_len (n : Nat) : ∀ k, (ordS n k).length ≤ n ^ k
  | 0 => by simp [ordS]
  | k + 1 => by
    rw [ordS_succ]
    have h1 := flatMap_len (oxt n) n (ordS n k) fun x _ => oxt_len n x
    have h2 := Nat.mul_le_mul_right n (ordS_len n k)
    rw [Nat.pow_succ]; omega
theorem ordS_len5 {n k : Nat} (hn : n ≤ 5) (hk : k ≤ 5) : (ordS n k).length ≤ 3125 := by
  have h1 := ordS_len n k
  have h2 : n ^ k ≤ 5 ^ k := Nat.pow_le_pow_left hn k
  have h3 : 5 ^ k ≤ 5 ^ 5 := Nat.pow_le_pow_right (by omega) hk
  have : (5 : Nat) ^ 5 = 3125 := rfl
  omega
theorem iis_get {D : List (List Nat)} {i : Nat} (h : i < (D.map ints).length) : (D.map ints)[i] = ints (D[i]'(by simpa using h)) := by simp
end Go.Hs
set_option linter.unusedVariables false
set_option linter.unusedSimpArgs false
namespace Go.Hs
section
variable {α : Type} {X : World → List Nat → Value → α → Prop} {w : World} {lo hi b : Nat} {e : TypeId} {r : Value} {x : α}
theorem Owned.single [Loc X] (hr : OwnedB lo hi X w r x) (hb : w.heap[b]? = some (.cells [r].toArray e (0, 0))) (hl : lo ≤ b) (hh : hi ≤ b) : Owned lo (XSl e X) w (.slice (some ⟨b, 0, none⟩) 1 1) [x] := by
  obtain ⟨f, h1, h2, h3⟩ := hr
  have hc := Loc.cell h3
  refine ⟨b :: f, List.nodup_cons.2 ⟨fun hm => by have := h2 b hm; omega, h1⟩, fun k hk => ?_, [r], [f], ?_, by simp [Value.ownBlock], ⟨h3, trivial⟩⟩
  · rcases List.mem_cons.1 hk with rfl | hk
    · exact hl
    · exact (h2 k hk).1
  · have := ownsRow_block (e := e) (cs := [r]) hb (by unfold maxLen; simp)
    exact this
end
section
variable {P : Program} {n : Nat} {N : Env → World → Prop} {ρ : Env} {w : World} {all : Array Oper} {rest : List Oper} {d : Nat} {ty t el : TypeId} {pos : String} {after : Array Edge} {g : Option (Nat × Bool)} {x : Operand} {z v : Value}
/-- []T{v}, v any value of one cell -/
theorem Wo_buildSlice1 (hw : wantedE all ⟨some d, .buildSlice t 1 #[(0, x)], ty, pos, after, g⟩ ρ = true) (ht : P.underlying t = some (.slice el)) (hs : ∀ w, (sizeOf el).run P w = .ok 1 w)
    (hz : ∀ w, (zeroValue el).run P w = .ok z w) (h1 : isCell z = true) (hv : isCell v = true) (hx : evalE ρ x = v)
    (hk : ∀ b w1, w.heap.size ≤ b → Ext w w1 → Blk w1 b [v] → w1.heap[b]? = some (.cells [v].toArray el (0, 0)) → Wops P n all rest N (upd ρ d (.slice (some ⟨b, 0, none⟩) 1 1)) w1) :
    Wops P n all (⟨some d, .buildSlice t 1 #[(0, x)], ty, pos, after, g⟩ :: rest) N ρ w := by
  refine Wo_buildSliceH (ps := [(0, v)]) (cs := [v]) hw ht hs hz h1 rfl (by simp [hx]) ?_ hk
  simp [fillF, hv, show Nat.blt 0 1 = true from rfl]
end
end Go.Hs
set_option linter.unusedVariables false
namespace Go.Hs
section
variable {P : Program} {n fuel : Nat} {N : Env → World → Prop} {ρ : Env} {w w0 : World} {all : Array Oper} {S : World → Prop} {listed : Array Bool} {d d2 : Nat} {ty t el tl ty2 : TypeId} {pos pos2 : String} {after after2 : Array Edge} {g g2 : Option (Nat × Bool)} {x y : Operand} {v : Value}
theorem Wh_get {α : Type} {E : World → Value → α → Prop} {xs : List α} {k : Nat} (i j : Nat) (hi : all[i]? = some ⟨some d, .indexAddr t x y, ty, pos, after, g⟩) (hf : Region.free .any all listed i = true) (hr : (Region.ready .any all listed).contains i = true)
    (hw : wantedE all ⟨some d, .indexAddr t x y, ty, pos, after, g⟩ ρ = true)
    (hi2 : all[j]? = some ⟨some d2, .load tl (.tmp d), ty2, pos2, after2, g2⟩) (hf2 : Region.free .any all (listed.setIfInBounds i true) j = true) (hr2 : (Region.ready .any all (listed.setIfInBounds i true)).contains j = true)
    (hw2 : ∀ v, wantedE all ⟨some d2, .load tl (.tmp d), ty2, pos2, after2, g2⟩ (upd ρ d v) = true)
    (ht : P.underlying t = some (.slice el)) (hs : ∀ w, (sizeOf el).run P w = .ok 1 w) (hta : ∀ w, (isAgg tl).run P w = .ok false w)
    (hx : evalE ρ x = v) (hR : ESl E w0 v xs) (hE : ∀ w', S w' → Ext w0 w') (hy : evalE ρ y = .int .i64 (k : Int)) (hk : k < xs.length) (hS : S w)
    (hk' : ∀ ad u, E w0 u xs[k] → Wh P n all S fuel ((listed.setIfInBounds i true).setIfInBounds j true) N (upd (upd ρ d (.pointer (some ad))) d2 u) w) :
    Wh P n all S (fuel + 2) listed N ρ w := by
  obtain ⟨a, c, rfl, hR⟩ := hR
  obtain ⟨b, o, u, rfl, hc, hu⟩ := hR.at hk
  refine Wh_take i hi hf hr hw (fun _ _ => opv_indexAddr ht hs hx hy hk) hS ?_
  refine Wh_take j hi2 hf2 hr2 (hw2 _) (fun w' hw' => opv_load hta ?_ ((hE w' hw').cell hc)) hS (hk' _ u hu)
  show upd ρ d _ d = _
  unfold upd; rw [Nat.beq_refl]; rfl
theorem Wh_get_z {α : Type} {E : World → Value → α → Prop} {xs : List α} {z : Int} (i j : Nat) (hi : all[i]? = some ⟨some d, .indexAddr t x y, ty, pos, after, g⟩) (hf : Region.free .any all listed i = true) (hr : (Region.ready .any all listed).contains i = true)
    (hw : wantedE all ⟨some d, .indexAddr t x y, ty, pos, after, g⟩ ρ = true)
    (hi2 : all[j]? = some ⟨some d2, .load tl (.tmp d), ty2, pos2, after2, g2⟩) (hf2 : Region.free .any all (listed.setIfInBounds i true) j = true) (hr2 : (Region.ready .any all (listed.setIfInBounds i true)).contains j = true)
    (hw2 : ∀ v, wantedE all ⟨some d2, .load tl (.tmp d), ty2, pos2, after2, g2⟩ (upd ρ d v) = true)
    (ht : P.underlying t = some (.slice el)) (hs : ∀ w, (sizeOf el).run P w = .ok 1 w) (hta : ∀ w, (isAgg tl).run P w = .ok false w)
    (hx : evalE ρ x = v) (hR : ESl E w0 v xs) (hE : ∀ w', S w' → Ext w0 w') (hy : evalE ρ y = .int .i64 z) (hk : 0 ≤ z ∧ z.toNat < xs.length) (hS : S w)
    (hk' : ∀ ad u, E w0 u xs[z.toNat] → Wh P n all S fuel ((listed.setIfInBounds i true).setIfInBounds j true) N (upd (upd ρ d (.pointer (some ad))) d2 u) w) :
    Wh P n all S (fuel + 2) listed N ρ w :=
  Wh_get i j hi hf hr hw hi2 hf2 hr2 hw2 ht hs hta hx hR hE (by rw [hy, toNat_cast hk.1]) hk.2 hS hk'
end
end Go.Hs
namespace Go.Proofs.YtgphoihilheoeaaGreatDoor
open Go.Hs
set_option maxRecDepth 10000
set_option maxHeartbeats 4000000
set_option linter.unusedVariables false
set_option linter.unusedSimpArgs false

theorem l4Orders_ok (w : World) (n : Nat) (hn : 1 ≤ n ∧ n ≤ 5) : Does Tryz.prog 55 [.int .i64 (n : Int)] w (RetO w XR ((orders n).map ints)) := by
  refine fn_of_W1 Tryz.func55 rfl Tryz.results55 Tryz.ntmps55 rfl ?_
  have keepR : True := trivial
  focus
    refine W_seq ?_; refine W_region rfl ?_; refine Wo rfl (opv_assign (v := .slice _ _ _) rfl) ?_; refine Wo_nil ?_; refine W_seq ?_; refine W_region rfl ?_
    refine Wo_buildSliceH (ps := [(0, .int _ _)]) (cs := [_]) rfl Tryz.underlying58 Tryz.sizeOf3 Tryz.zeroValue3 rfl rfl rfl rfl ?_; rintro b1 w1 hb1 E1 hB1 hHb1; have hlb1 := hB1.lt; have hs1 := E1.size
    refine Wo_buildSliceH (ps := [(0, .slice _ _ _)]) (cs := [_]) rfl Tryz.underlying22 Tryz.sizeOf58 Tryz.zeroValue58 rfl rfl rfl rfl ?_; rintro b2 w2 hb2 E2 hB2 hHb2; have hlb2 := hB2.lt; have hs2 := E2.size
    refine Wo rfl (opv_assign (v := .slice _ _ _) rfl) ?_; refine Wo_nil ?_; refine W_seq ?_; refine W_seq ?_; refine W_region rfl ?_; refine Wo rfl (opv_assign (v := .int _ _) rfl) ?_; refine Wo_nil ?_; refine W_block ?_
  clear keepR
  have hOr : Owned w.heap.size XI w1 (.slice (some ⟨b1, 0, none⟩) 1 1) [0] := Owned.block hHb1 hb1 rfl (by decide) ⟨⟨rfl, rfl⟩, trivial⟩
  have hO0 : Owned w.heap.size XR w2 (.slice (some ⟨b2, 0, none⟩) 1 1) [[0]] := Owned.single (hOr.toB.ext E2) hHb2 (by omega) (by omega)
  clear hOr hHb1 hHb2 hB1 hB2
  refine W_loop [3, 4, 5, 6, 7, 8, 9, 12, 13, 14, 15, 16, 17, 18, 19, 20, 21, 22, 23, 24, 25, 26, 27, 28, 29, 30, 31, 32, 33, 34, 35, 36, 37, 38, 39, 40, 41, 42, 43, 44, 45, 46, 47, 48, 49, 50, 51, 52, 53, 54, 55, 56, 57, 58, 59, 60, 61, 62, 63, 64] (fun ((k, u) : Nat × Value) => [(4, .int .i64 (k : Nat)), (3, u)]) (fun (k, u) w' => Ext w w' ∧ 1 ≤ k ∧ k ≤ n ∧ Owned w.heap.size XR w' u ((ordS n (k - 1)).map ints)) (fun x => n - x.1) (1, .slice (some ⟨b2, 0, none⟩) 1 1) (by repeat (first | exact trivial | refine And.intro rfl ?_)) ?_ ?_
  · exact ⟨by first | assumption | exact E1.trans E2, Nat.le_refl _, hn.1, hO0⟩
  clear hO0
  rintro ⟨k, u⟩ ρj w3 ⟨E3, hk1, hkn, hO1⟩
  by_cases hlt : k < n
  · obtain ⟨D, hD⟩ : ∃ D, D = ordS n (k - 1) := ⟨_, rfl⟩
    have hDl : D.length ≤ 3125 := hD ▸ ordS_len5 hn.2 (by omega)
    have hDo : ∀ o ∈ D, o.length = k := fun o ho => by
      have := ((mem_ordS hn.1 (k - 1) o).1 (hD ▸ ho)).1
      omega
    rw [← hD] at hO1
    have hDm : (D.map ints).length = D.length := by simp
    have hR := hO1.read
    clear hO1
    focus
      have szE3 := E3.size; have szE2 := E2.size; have szE1 := E1.size; refine W_seq ?_; refine W_seq ?_; refine W_region rfl ?_; refine Wo rfl (opv_move (v := .int _ _) rfl) ?_; refine Wo rfl (opv_move (v := .int _ _) rfl) ?_
      refine Wo rfl (opv_lss rfl rfl) ?_; refine Wo_nil ?_; refine W_cond_dec rfl (fun h1 => ?_) (fun h1 => ?_); refine W_skip ?_; refine W_seq ?_; refine W_block ?_; refine W_seq ?_; refine W_region rfl ?_
      refine Wo_lit0 (XSl 3 XInt) rfl el22 Tryz.sizeOf58 ?_; rintro b3 w4 hb3 b3lt E4 hO1; have hs3 := E4.size; refine Wo rfl (opv_assign (v := .slice _ _ _) rfl) ?_; refine Wo_nil ?_; refine W_seq ?_; refine W_seq ?_
      refine W_region rfl ?_; refine Wo rfl (opv_assign (v := .int _ _) rfl) ?_; refine Wo_nil ?_; refine W_block ?_; rotate_left; (exfalso; omega)
    refine W_loop [5, 6, 7, 8, 9, 18, 19, 20, 21, 22, 23, 24, 25, 26, 27, 28, 29, 30, 31, 32, 33, 34, 35, 36, 37, 38, 39, 40, 41, 42, 43, 44, 45, 46, 47, 48, 49, 50, 51, 52, 53, 54, 55, 56, 57, 58, 59, 60, 61, 62, 63] (fun ((i, nx) : Nat × Value) => [(6, .int .i64 (i : Nat)), (5, nx)]) (fun (i, nx) w' => Ext w3 w' ∧ i ≤ D.length ∧ Owned w3.heap.size XR w' nx (((D.take i).flatMap (oxt n)).map ints)) (fun x => D.length - x.1) (0, .slice (some ⟨b3, 0, none⟩) 0 0) (by repeat (first | exact trivial | refine And.intro rfl ?_)) ?_ ?_
    · exact ⟨by assumption, Nat.zero_le _, by simpa using hO1⟩
    clear hO1
    rintro ⟨i, nx⟩ ρk w5 ⟨E5, hi, hO1⟩
    by_cases hil : i < D.length
    · have hgi := iis_get (D := D) (i := i) (by omega)
      have hol := hDo D[i] (List.getElem_mem hil)
      have hil2 := ints_len D[i]
      have hfl : ((D.take i).flatMap (oxt n)).length ≤ 15625 := by
        have := flatMap_len (oxt n) n (D.take i) fun x _ => oxt_len n x
        have h2 : (D.take i).length ≤ 3125 := by simp; omega
        have h3 := Nat.mul_le_mul h2 hn.2
        omega
      focus
        have szE5 := E5.size; have szE4 := E4.size; have szE3 := E3.size; have szE2 := E2.size; have szE1 := E1.size; refine W_seq ?_; refine W_seq ?_; refine W_region rfl ?_; refine Wo rfl (opv_move (v := .int _ _) rfl) ?_
        refine Wo rfl (opv_move (v := u) rfl) ?_; refine Wo rfl (opv_len Tryz.underlying22 rfl hR) ?_; refine Wo rfl (opv_lss rfl rfl) ?_; refine Wo_nil ?_; refine W_cond_dec rfl (fun h2 => ?_) (fun h2 => ?_); refine W_skip ?_
        refine W_seq ?_; refine W_block ?_; refine W_seq ?_; refine W_region rfl ?_; refine Wo rfl (opv_assign (v := .int _ _) rfl) ?_; refine Wo_nil ?_; refine W_block ?_; rotate_left; (exfalso; omega)
      refine W_loop [5, 7, 8, 9, 24, 25, 26, 27, 28, 29, 30, 31, 32, 33, 34, 35, 36, 37, 38, 39, 40, 41, 42, 43, 44, 45, 46, 47, 48, 49, 50, 51, 52, 53, 54, 55, 56, 57, 58, 59, 60, 61, 62, 63] (fun ((x, nx) : Nat × Value) => [(7, .int .i64 (x : Nat)), (5, nx)]) (fun (x, nx) w' => Ext w3 w' ∧ 1 ≤ x ∧ x ≤ n ∧ Owned w3.heap.size XR w' nx (((D.take i).flatMap (oxt n) ++ oxt x D[i]).map ints)) (fun x => n - x.1) (1, nx) (by repeat (first | exact trivial | refine And.intro rfl ?_)) ?_ ?_
      · exact ⟨by assumption, Nat.le_refl _, hn.1, by rw [oxt_one]; simpa using hO1⟩
      clear hO1
      rintro ⟨x, ny⟩ ρl w6 ⟨E6, hx1, hxn, hO1⟩
      have hml : (((D.take i).flatMap (oxt n) ++ oxt x D[i]).map ints).length ≤ 15630 := by
        have := oxt_len x D[i]
        simp only [List.length_map, List.length_append]; omega
      by_cases hxl : x < n
      · focus
          have szE6 := E6.size; have szE5 := E5.size; have szE4 := E4.size; have szE3 := E3.size; have szE2 := E2.size; have szE1 := E1.size; refine W_seq ?_; refine W_seq ?_; refine W_region rfl ?_
          refine Wo rfl (opv_move (v := .int _ _) rfl) ?_; refine Wo rfl (opv_move (v := .int _ _) rfl) ?_; refine Wo rfl (opv_lss rfl rfl) ?_; refine Wo_nil ?_; refine W_cond_dec rfl (fun h3 => ?_) (fun h3 => ?_); refine W_skip ?_
          refine W_seq ?_; refine W_block ?_; refine W_seq ?_; refine W_region rfl ?_; refine Wo rfl (opv_assign (v := .bool _) rfl) ?_; refine Wo_nil ?_; refine W_seq ?_; refine W_seq ?_; refine W_region rfl ?_
          refine Wo rfl (opv_assign (v := .int _ _) rfl) ?_; refine Wo_nil ?_; refine W_block ?_; rotate_left; (exfalso; omega)
        refine W_loop [8, 9, 29, 30, 31, 32, 33, 34, 35, 36, 37, 38, 39, 40, 41, 42, 43, 44, 45, 46, 47, 48, 49] (fun ((j, f) : Nat × Bool) => [(9, .int .i64 (j : Nat)), (8, .bool f)]) (fun (j, f) w' => Ext w6 w' ∧ j ≤ D[i].length ∧ f = (D[i].take j).contains x) (fun y => D[i].length - y.1) (0, false) (by repeat (first | exact trivial | refine And.intro rfl ?_)) ?_ ?_
        · exact ⟨Ext.refl _, Nat.zero_le _, by simp⟩
        rintro ⟨j, f⟩ ρm w7 ⟨E7, hj, hf⟩
        by_cases hjl : j < D[i].length
        · have hgj : (ints D[i])[j]'(by omega) = (D[i][j] : Int) := ints_get hjl
          have hts := take_snoc _ _ hjl
          have hgg : ((D.map ints)[i]'(by omega))[j]'(by rw [hgi]; omega) = (D[i][j] : Int) := by simp only [hgi]; exact hgj
          have hrl : ((D.map ints)[i]'(by omega)).length = D[i].length := by rw [hgi]; exact hil2
          have hct : (D[i].take (j + 1)).contains x = ((D[i].take j).contains x || decide (D[i][j] = x)) := by
            rw [hts, Bool.eq_iff_iff]
            simp only [List.contains_eq_mem, List.mem_append, List.mem_singleton, decide_eq_true_eq, Bool.or_eq_true]
            exact or_congr Iff.rfl ⟨fun h => h.symm, fun h => h.symm⟩
          cases f
          · focus
              have szE7 := E7.size; have szE6 := E6.size; have szE5 := E5.size; have szE4 := E4.size; have szE3 := E3.size; have szE2 := E2.size; have szE1 := E1.size; refine W_seq ?_; refine W_seq ?_; refine W_region rfl ?_
              refine Wo rfl (opv_move (v := .int _ _) rfl) ?_; refine Wo rfl (opv_move (v := u) rfl) ?_; refine Wo rfl (opv_move (v := .int _ _) rfl) ?_
              refine Wo_get Tryz.underlying22 Tryz.sizeOf58 Tryz.isAgg58 rfl (fun _ => rfl) rfl hR (E6.trans E7) rfl (by first | omega | (simp <;> omega)) ?_; rintro _ u1 hu1; refine Wo rfl (opv_len Tryz.underlying58 rfl hu1) ?_
              refine Wo rfl (opv_lss rfl rfl) ?_; refine Wo_nil ?_; refine W_cond_dec rfl (fun h4 => ?_) (fun h4 => ?_); refine W_skip ?_; refine W_seq ?_; refine W_block ?_; refine W_region rfl ?_; refine Wo rfl (opv_move (v := .bool _) rfl) ?_
              refine Wo rfl (opv_move (v := .bool _) rfl) ?_; refine Wo rfl (opv_move (v := u) rfl) ?_; refine Wo rfl (opv_move (v := .int _ _) rfl) ?_
              refine Wo_get Tryz.underlying22 Tryz.sizeOf58 Tryz.isAgg58 rfl (fun _ => rfl) rfl hR (E6.trans E7) rfl (by first | omega | (simp <;> omega)) ?_; rintro _ u2 hu2; refine Wo rfl (opv_move (v := .int _ _) rfl) ?_
              refine Wo_get Tryz.underlying58 Tryz.sizeOf3 Tryz.isAgg3 rfl (fun _ => rfl) rfl hu2 (E6.trans E7) rfl (by first | omega | (simp <;> omega)) ?_; rintro _ _ rfl; refine Wo rfl (opv_move (v := .int _ _) rfl) ?_
              refine Wo rfl (opv_eql rfl rfl) ?_; refine Wo rfl (opv_pick_f (v := .bool _) rfl rfl) ?_; refine Wo rfl (opv_assign (v := .bool _) rfl) ?_; refine Wo_nil ?_; refine W_region rfl ?_; refine Wo rfl (opv_move (v := .int _ _) rfl) ?_
              refine Wo rfl (opv_add rfl rfl (by omega)) ?_; refine Wo rfl (opv_assign (v := .int _ _) rfl) ?_; refine Wo_nil ?_; rotate_left; (exfalso; omega)
            refine ⟨((j + 1, decide (((D.map ints)[i]'(by omega))[j]'(by rw [hgi]; omega) = (x : Int)))), by repeat (first | exact trivial | refine And.intro rfl ?_), by repeat (first | with_reducible exact Same.refl | refine Same.upd rfl ?_ | refine Same.upds rfl ?_ | refine Same.mix rfl ?_), ?_, ?_⟩
            · refine ⟨by exact E7, by omega, ?_⟩
              rw [hct, ← hf, Bool.false_or, decide_eq_decide, hgg]
              omega
            · simp only; omega
          · focus
              have szE7 := E7.size; have szE6 := E6.size; have szE5 := E5.size; have szE4 := E4.size; have szE3 := E3.size; have szE2 := E2.size; have szE1 := E1.size; refine W_seq ?_; refine W_seq ?_; refine W_region rfl ?_
              refine Wo rfl (opv_move (v := .int _ _) rfl) ?_; refine Wo rfl (opv_move (v := u) rfl) ?_; refine Wo rfl (opv_move (v := .int _ _) rfl) ?_
              refine Wo_get Tryz.underlying22 Tryz.sizeOf58 Tryz.isAgg58 rfl (fun _ => rfl) rfl hR (E6.trans E7) rfl (by first | omega | (simp <;> omega)) ?_; rintro _ u1 hu1; refine Wo rfl (opv_len Tryz.underlying58 rfl hu1) ?_
              refine Wo rfl (opv_lss rfl rfl) ?_; refine Wo_nil ?_; refine W_cond_dec rfl (fun h4 => ?_) (fun h4 => ?_); refine W_skip ?_; refine W_seq ?_; refine W_block ?_; refine W_region rfl ?_; refine Wo rfl (opv_move (v := .bool _) rfl) ?_
              refine Wo rfl (opv_move (v := .bool _) rfl) ?_; refine Wo_skip rfl ?_; refine Wo_skip rfl ?_; refine Wo_skip rfl ?_; refine Wo_skip rfl ?_; refine Wo_skip rfl ?_; refine Wo_skip rfl ?_; refine Wo_skip rfl ?_; refine Wo_skip rfl ?_
              refine Wo_skip rfl ?_; refine Wo rfl (opv_pick_t (v := .bool _) rfl rfl) ?_; refine Wo rfl (opv_assign (v := .bool _) rfl) ?_; refine Wo_nil ?_; refine W_region rfl ?_; refine Wo rfl (opv_move (v := .int _ _) rfl) ?_
              refine Wo rfl (opv_add rfl rfl (by omega)) ?_; refine Wo rfl (opv_assign (v := .int _ _) rfl) ?_; refine Wo_nil ?_; rotate_left; (exfalso; omega)
            refine ⟨((j + 1, true)), by repeat (first | exact trivial | refine And.intro rfl ?_), by repeat (first | with_reducible exact Same.refl | refine Same.upd rfl ?_ | refine Same.upds rfl ?_ | refine Same.mix rfl ?_), ?_, ?_⟩
            · refine ⟨by exact E7, by omega, ?_⟩
              rw [hct, ← hf]; rfl
            · simp only; omega
        · obtain rfl : j = D[i].length := by omega
          rw [List.take_length] at hf
          have hrl : ((D.map ints)[i]'(by omega)).length = D[i].length := by rw [hgi]; exact hil2
          cases f
          · focus
              have szE7 := E7.size; have szE6 := E6.size; have szE5 := E5.size; have szE4 := E4.size; have szE3 := E3.size; have szE2 := E2.size; have szE1 := E1.size; refine W_seq ?_; refine W_seq ?_; refine W_region rfl ?_
              refine Wo rfl (opv_move (v := .int _ _) rfl) ?_; refine Wo rfl (opv_move (v := u) rfl) ?_; refine Wo rfl (opv_move (v := .int _ _) rfl) ?_
              refine Wo_get Tryz.underlying22 Tryz.sizeOf58 Tryz.isAgg58 rfl (fun _ => rfl) rfl hR (E6.trans E7) rfl (by first | omega | (simp <;> omega)) ?_; rintro _ u1 hu1; refine Wo rfl (opv_len Tryz.underlying58 rfl hu1) ?_
              refine Wo rfl (opv_lss rfl rfl) ?_; refine Wo_nil ?_; refine W_cond_dec rfl (fun h4 => ?_) (fun h4 => ?_); (exfalso; omega); refine W_exit ?_; refine exitX_same ?_; refine W_seq ?_; refine W_region rfl ?_
              refine Wo rfl (opv_move (v := .bool _) rfl) ?_; refine Wo rfl (opv_not rfl) ?_; refine Wo_nil ?_; refine W_cond rfl (fun h5 => ?_) (fun h5 => ?_); refine W_region rfl ?_; refine Wo rfl (opv_move (v := ny) rfl) ?_
              refine Wo_lit0 XInt rfl el58 Tryz.sizeOf3 ?_; rintro b4 w8 hb4 b4lt E8 hO2; have hs4 := E8.size; refine Wo rfl (opv_move (v := u) rfl) ?_; refine Wo rfl (opv_move (v := .int _ _) rfl) ?_
              refine Wo_get Tryz.underlying22 Tryz.sizeOf58 Tryz.isAgg58 rfl (fun _ => rfl) rfl hR ((E6.trans E7).trans E8) rfl (by first | omega | (simp <;> omega)) ?_; rintro _ u2 hu2
              refine Wo_appS rfl el58 rfl rfl (Mono.mono ((E6.trans E7).trans E8) hu2) hO2.toB (by first | omega | (simp <;> omega)) (by omega) (by omega) (((E3.trans E6).trans E7).trans E8) (by omega) ?_; have hT1 := hO2.toB
              rintro v1 w9 hO2 E9 M1; have E10 := M1.ext hT1 ((E6.trans E7).trans E8) (by omega); have szE10 := E10.size; have E11 := M1.ext hT1 (E7.trans E8) (by omega); have szE11 := E11.size; have E12 := M1.ext hT1 E8 (by omega)
              have szE12 := E12.size; have hO1 := (hO1.toB.ext (E7.trans E8)).moves M1 hT1 (by omega); have hs5 := E9.size; refine Wo rfl (opv_move (v := .int _ _) rfl) ?_
              refine Wo_buildSliceH (ps := [(0, .int _ _)]) (cs := [_]) rfl Tryz.underlying58 Tryz.sizeOf3 Tryz.zeroValue3 rfl rfl rfl rfl ?_; rintro b5 w10 hb5 E13 hB1 hHb5; have hlb5 := hB1.lt; have hs6 := E13.size
              refine Wo_app1 rfl el58 rfl rfl hB1 (hO2.toB.ext E13) Owned.int (Nat.le_refl _) (by first | omega | (simp <;> omega)) (by omega) (by omega) (E9.trans E13) (by omega) ?_; have hT2 := (hO2.toB.ext E13); rintro v2 w11 hO2 E14 M2
              have E15 := M2.ext hT2 (E10.trans E13) (by omega); have szE15 := E15.size; have E16 := M2.ext hT2 (E11.trans E13) (by omega); have szE16 := E16.size; have E17 := M2.ext hT2 (E12.trans E13) (by omega); have szE17 := E17.size
              have hO1 := (hO1.ext E13).moves M2 hT2 (by omega); have hB1 := hB1.moves M2 hT2 (by omega); have hs7 := E14.size; refine Wo_buildSlice1 rfl Tryz.underlying22 Tryz.sizeOf58 Tryz.zeroValue58 rfl (OwnedB.isC hO2.toB) rfl ?_
              rintro b6 w12 hb6 E18 hB2 hHb6; have hlb6 := hB2.lt; have hs8 := E18.size
              refine Wo_app1 rfl el22 rfl rfl hB2 (hO1.ext E18) (hO2.toB.ext E18).o (by omega) (by first | omega | (simp <;> omega)) (by omega) (by omega) (E14.trans E18) (by omega) ?_; have hT3 := (hO1.ext E18); rintro v3 w13 hO1 E19 M3
              have E20 := M3.ext hT3 (E15.trans E18) (by omega); have szE20 := E20.size; have hO2 := (hO2.toB.ext E18).moves M3 hT3 (by omega); have hB1 := (hB1.ext E18).moves M3 hT3 (by omega); have hB2 := hB2.moves M3 hT3 (by omega)
              have hs9 := E19.size; refine Wo rfl (opv_assign (v := v3) rfl) ?_; refine Wo_nil ?_; refine W_region rfl ?_; refine Wo rfl (opv_move (v := .int _ _) rfl) ?_; refine Wo rfl (opv_add rfl rfl (by omega)) ?_
              refine Wo rfl (opv_assign (v := .int _ _) rfl) ?_; refine Wo_nil ?_; rotate_left; contradiction
            refine ⟨((x + 1, v3)), by repeat (first | exact trivial | refine And.intro rfl ?_), by repeat (first | with_reducible exact Same.refl | refine Same.upd rfl ?_ | refine Same.upds rfl ?_ | refine Same.mix rfl ?_), ?_, ?_⟩
            · refine ⟨by exact E20, by omega, by omega, ?_⟩
              rw [oxt_yes hx1 hf.symm, ← List.append_assoc, List.map_append]
              have e : [ints (D[i] ++ [x])] = [[] ++ (D.map ints)[i]'(by omega) ++ [(x : Int)]] := by rw [ints_append, hgi]; rfl
              rw [List.map_cons, List.map_nil, e]
              assumption
            · simp only; omega
          · focus
              have szE7 := E7.size; have szE6 := E6.size; have szE5 := E5.size; have szE4 := E4.size; have szE3 := E3.size; have szE2 := E2.size; have szE1 := E1.size; refine W_seq ?_; refine W_seq ?_; refine W_region rfl ?_
              refine Wo rfl (opv_move (v := .int _ _) rfl) ?_; refine Wo rfl (opv_move (v := u) rfl) ?_; refine Wo rfl (opv_move (v := .int _ _) rfl) ?_
              refine Wo_get Tryz.underlying22 Tryz.sizeOf58 Tryz.isAgg58 rfl (fun _ => rfl) rfl hR (E6.trans E7) rfl (by first | omega | (simp <;> omega)) ?_; rintro _ u1 hu1; refine Wo rfl (opv_len Tryz.underlying58 rfl hu1) ?_
              refine Wo rfl (opv_lss rfl rfl) ?_; refine Wo_nil ?_; refine W_cond_dec rfl (fun h4 => ?_) (fun h4 => ?_); (exfalso; omega); refine W_exit ?_; refine exitX_same ?_; refine W_seq ?_; refine W_region rfl ?_
              refine Wo rfl (opv_move (v := .bool _) rfl) ?_; refine Wo rfl (opv_not rfl) ?_; refine Wo_nil ?_; refine W_cond rfl (fun h5 => ?_) (fun h5 => ?_); contradiction; refine W_skip ?_; refine W_region rfl ?_
              refine Wo rfl (opv_move (v := .int _ _) rfl) ?_; refine Wo rfl (opv_add rfl rfl (by omega)) ?_; refine Wo rfl (opv_assign (v := .int _ _) rfl) ?_; refine Wo_nil ?_
            refine ⟨((x + 1, ny)), by repeat (first | exact trivial | refine And.intro rfl ?_), by repeat (first | with_reducible exact Same.refl | refine Same.upd rfl ?_ | refine Same.upds rfl ?_ | refine Same.mix rfl ?_), ?_, ?_⟩
            · refine ⟨by exact (E6.trans E7), by omega, by omega, ?_⟩
              rw [oxt_no hf.symm]
              exact (Mono.mono E7 hO1)
            · simp only; omega
      · obtain rfl : x = n := by omega
        focus
          have szE6 := E6.size; have szE5 := E5.size; have szE4 := E4.size; have szE3 := E3.size; have szE2 := E2.size; have szE1 := E1.size; refine W_seq ?_; refine W_seq ?_; refine W_region rfl ?_
          refine Wo rfl (opv_move (v := .int _ _) rfl) ?_; refine Wo rfl (opv_move (v := .int _ _) rfl) ?_; refine Wo rfl (opv_lss rfl rfl) ?_; refine Wo_nil ?_; refine W_cond_dec rfl (fun h3 => ?_) (fun h3 => ?_); (exfalso; omega)
          refine W_exit ?_; refine exitX_same ?_; refine W_region rfl ?_; refine Wo rfl (opv_move (v := .int _ _) rfl) ?_; refine Wo rfl (opv_add rfl rfl (by omega)) ?_; refine Wo rfl (opv_assign (v := .int _ _) rfl) ?_; refine Wo_nil ?_
        refine ⟨((i + 1, ny)), by repeat (first | exact trivial | refine And.intro rfl ?_), by repeat (first | with_reducible exact Same.refl | refine Same.upd rfl ?_ | refine Same.upds rfl ?_ | refine Same.mix rfl ?_), ?_, ?_⟩
        · refine ⟨by exact E6, by omega, ?_⟩
          rw [take_snoc _ _ hil, List.flatMap_append, List.flatMap_cons, List.flatMap_nil, List.append_nil]
          exact hO1
        · simp only; omega
    · obtain rfl : i = D.length := by omega
      focus
        have szE5 := E5.size; have szE4 := E4.size; have szE3 := E3.size; have szE2 := E2.size; have szE1 := E1.size; refine W_seq ?_; refine W_seq ?_; refine W_region rfl ?_; refine Wo rfl (opv_move (v := .int _ _) rfl) ?_
        refine Wo rfl (opv_move (v := u) rfl) ?_; refine Wo rfl (opv_len Tryz.underlying22 rfl hR) ?_; refine Wo rfl (opv_lss rfl rfl) ?_; refine Wo_nil ?_; refine W_cond_dec rfl (fun h2 => ?_) (fun h2 => ?_); (exfalso; omega)
        refine W_exit ?_; refine exitX_same ?_; refine W_region rfl ?_; refine Wo rfl (opv_move (v := nx) rfl) ?_; refine Wo rfl (opv_assign (v := nx) rfl) ?_; refine Wo_nil ?_; refine W_region rfl ?_
        refine Wo rfl (opv_move (v := .int _ _) rfl) ?_; refine Wo rfl (opv_add rfl rfl (by omega)) ?_; refine Wo rfl (opv_assign (v := .int _ _) rfl) ?_; refine Wo_nil ?_
      refine ⟨((k + 1, nx)), by repeat (first | exact trivial | refine And.intro rfl ?_), by repeat (first | with_reducible exact Same.refl | refine Same.upd rfl ?_ | refine Same.upds rfl ?_ | refine Same.mix rfl ?_), ?_, ?_⟩
      · refine ⟨by exact (E3.trans E5), by omega, by omega, ?_⟩
        rw [show k + 1 - 1 = (k - 1) + 1 by omega, ordS_succ, ← hD]
        rw [List.take_length] at hO1
        exact hO1.mono (by omega)
      · simp only; omega
  · obtain rfl : k = n := by omega
    focus
      have szE3 := E3.size; have szE2 := E2.size; have szE1 := E1.size; refine W_seq ?_; refine W_seq ?_; refine W_region rfl ?_; refine Wo rfl (opv_move (v := .int _ _) rfl) ?_; refine Wo rfl (opv_move (v := .int _ _) rfl) ?_
      refine Wo rfl (opv_lss rfl rfl) ?_; refine Wo_nil ?_; refine W_cond_dec rfl (fun h1 => ?_) (fun h1 => ?_); (exfalso; omega); refine W_exit ?_; refine exitX_same ?_; refine W_seq ?_; refine W_region rfl ?_
      refine Wo rfl (opv_move (v := u) rfl) ?_; refine Wo rfl (opv_assign (v := u) rfl) ?_; refine Wo_nil ?_; refine W_ret ?_; exact ⟨E3, hO1.toB.o.mono (by omega)⟩

theorem Reordered_ok (w : World) (v u : Value) (c : List (List Int)) (o : List Nat) (h : ESl Ints w v c) (hu : Ints w u (ints o)) (hc : Pic c) (ho : Ord c.length o) :
    Does Tryz.prog 56 [v, u] w (RetO w XR (reo c o)) := by
  have hp5 := hc.2.1
  have hle := h.le
  obtain ⟨hol, hnd, hhd, hlt⟩ := id ho
  have hil := ints_len o
  have k1 : ∀ (w : World) (v : Value), ESl Ints w v c → Does Tryz.prog 52 [v] w (Ret w (.bool true)) := fun w v h => by
    have := PictureOk_ok w v c h
    rw [decide_eq_true hc] at this; exact this
  have h2 := pow_le5 (k := c.length) (by omega)
  have h1p : ∀ j, j < c.length → 1 <<< j < 2 ^ c.length := fun j hj => by rw [Nat.one_shiftLeft]; exact Nat.pow_lt_pow_right (by omega) hj
  have h1b : ∀ j k, (1 <<< j).testBit k = decide (j = k) := fun j k => by rw [Nat.one_shiftLeft, Nat.testBit_two_pow]
  have hsh : ((1 <<< c.length : Nat) : Int) = ((2 ^ c.length : Nat) : Int) := by rw [Nat.one_shiftLeft]
  have hgo : ∀ (k : Nat) (hk : k < o.length), (ints o)[k]'(by omega) = (o[k] : Int) := fun k hk => ints_get hk
  refine fn_of_W1 Tryz.func56 rfl Tryz.results56 Tryz.ntmps56 rfl ?_
  focus
    refine W_seq ?_; refine W_region rfl ?_; refine Wo rfl (opv_assign (v := .slice _ _ _) rfl) ?_; refine Wo_nil ?_; refine W_seq ?_; refine W_region rfl ?_; refine Wo_lit0 (XSl 3 XInt) rfl el22 Tryz.sizeOf58 ?_
    rintro b1 w1 hb1 b1lt E1 hO1; have hs1 := E1.size; refine Wo rfl (opv_assign (v := .slice _ _ _) rfl) ?_; refine Wo_nil ?_; refine W_seq ?_; refine W_seq ?_; refine W_region rfl ?_; refine Wo rfl (opv_move (v := v) rfl) ?_
    refine Wo_call rfl (opc1 (a := v) Tryz.call52 rfl) (k1 _ _ ((Mono.mono E1 h))) ?_; rintro _ w2 ⟨rfl, E2⟩; have hs2 := E2.size; refine Wo rfl (opv_not rfl) ?_
    refine Wo_split rfl (opv_move (v := .bool _) rfl) (fun h1 => ?_) (fun h1 => ?_); contradiction; refine Wo rfl (opv_move (v := u) rfl) ?_; refine Wo rfl (opv_len Tryz.underlying58 rfl hu) ?_; refine Wo rfl (opv_move (v := v) rfl) ?_
    refine Wo rfl (opv_len Tryz.underlying22 rfl h) ?_; refine Wo rfl (opv_neq rfl rfl) ?_; refine Wo rfl (opv_pick_f (v := .bool _) rfl rfl) ?_; refine Wo_nil ?_; refine W_cond_ndec rfl (fun h3 => ?_) (fun h3 => ?_); (exfalso; omega)
    refine W_skip ?_; refine W_seq ?_; refine W_region rfl ?_; refine Wo rfl (opv_assign (v := .int _ _) rfl) ?_; refine Wo_nil ?_; refine W_seq ?_; refine W_seq ?_; refine W_region rfl ?_
    refine Wo rfl (opv_assign (v := .int _ _) rfl) ?_; refine Wo_nil ?_; refine W_block ?_
  refine W_loop [4, 6, 7, 23, 24, 25, 26, 27, 28, 29, 30, 31, 32, 33, 34, 35, 36, 37, 38, 39, 40, 41, 42, 43, 44, 45] (fun ((k, M) : Nat × Nat) => [(7, .int .i64 (k : Nat)), (6, .int .i64 (M : Nat))]) (fun (k, M) w' => Ext w2 w' ∧ k ≤ c.length ∧ M < 2 ^ c.length ∧ ∀ j, M.testBit j = (o.take k).contains j) (fun x => c.length - x.1) (0, 0) (by repeat (first | exact trivial | refine And.intro rfl ?_)) ?_ ?_
  · exact ⟨Ext.refl _, Nat.zero_le _, Nat.two_pow_pos _, fun j => by simp⟩
  rintro ⟨k, M⟩ ρj w3 ⟨E3, hk, hM, hB⟩
  by_cases hkl : k < c.length
  · have hok := hlt o[k] (List.getElem_mem (by omega))
    have hgk := hgo k (by omega)
    have hsl := shl_le (g := 1) (k := o[k]) (by omega) (by omega)
    have hts := take_snoc o k (by omega)
    have hsl2 : (1 : Int).toNat <<< ((ints o)[k]'(by omega)).toNat ≤ 4096 := by simp only [hgk, Int.toNat_natCast]; exact Nat.le_trans hsl (by omega)
    focus
      have szE3 := E3.size; have szE2 := E2.size; have szE1 := E1.size; refine W_seq ?_; refine W_seq ?_; refine W_region rfl ?_; refine Wo rfl (opv_move (v := .int _ _) rfl) ?_; refine Wo rfl (opv_move (v := u) rfl) ?_
      refine Wo rfl (opv_len Tryz.underlying58 rfl hu) ?_; refine Wo rfl (opv_lss rfl rfl) ?_; refine Wo_nil ?_; refine W_cond_dec rfl (fun h4 => ?_) (fun h4 => ?_); refine W_skip ?_; refine W_seq ?_; refine W_block ?_; refine W_seq ?_
      refine W_seq ?_; refine W_region rfl ?_; refine Wo rfl (opv_move (v := u) rfl) ?_; refine Wo rfl (opv_move (v := .int _ _) rfl) ?_
      refine Wo_get Tryz.underlying58 Tryz.sizeOf3 Tryz.isAgg3 rfl (fun _ => rfl) rfl hu ((E1.trans E2).trans E3) rfl (by first | omega | (simp <;> omega)) ?_; rintro _ _ rfl; refine Wo rfl (opv_move (v := v) rfl) ?_
      refine Wo rfl (opv_len Tryz.underlying22 rfl h) ?_; refine Wo rfl (opv_sub rfl rfl (by omega)) ?_; refine Wo_call rfl (opc3 (a := .int _ _) (b := .int _ _) (c := .int _ _) Tryz.call53 rfl rfl rfl) (l1In_ok _ _ _ _) ?_
      rintro _ w4 ⟨rfl, E4⟩; have hs3 := E4.size; refine Wo rfl (opv_not rfl) ?_; refine Wo_nil ?_; refine W_cond_ndec rfl (fun h5 => ?_) (fun h5 => ?_); (exfalso; omega); refine W_skip ?_; refine W_region rfl ?_
      refine Wo rfl (opv_move (v := .int _ _) rfl) ?_; refine Wo rfl (opv_move (v := u) rfl) ?_; refine Wo rfl (opv_move (v := .int _ _) rfl) ?_
      refine Wo_get Tryz.underlying58 Tryz.sizeOf3 Tryz.isAgg3 rfl (fun _ => rfl) rfl hu (((E1.trans E2).trans E3).trans E4) rfl (by first | omega | (simp <;> omega)) ?_; rintro _ _ rfl; refine Wo rfl (opv_shl rfl rfl (by omega)) ?_
      refine Wo rfl (opv_or rfl rfl ⟨Int.natCast_nonneg _, by omega, Int.natCast_nonneg _, Int.le_trans (Int.ofNat_le.2 (show _ ≤ 4096 by assumption)) (by decide)⟩) ?_; refine Wo rfl (opv_assign (v := .int _ _) rfl) ?_; refine Wo_nil ?_
      refine W_region rfl ?_; refine Wo rfl (opv_move (v := .int _ _) rfl) ?_; refine Wo rfl (opv_add rfl rfl (by omega)) ?_; refine Wo rfl (opv_assign (v := .int _ _) rfl) ?_; refine Wo_nil ?_; rotate_left; (exfalso; omega)
    refine ⟨((k + 1, (M : Int).toNat ||| (((1 : Int).toNat <<< ((ints o)[k]'(by omega)).toNat : Nat) : Int).toNat)), by repeat (first | exact trivial | refine And.intro rfl ?_), by repeat (first | with_reducible exact Same.refl | refine Same.upd rfl ?_ | refine Same.upds rfl ?_ | refine Same.mix rfl ?_), ?_, ?_⟩
    · have e : (M : Int).toNat ||| (((1 : Int).toNat <<< ((ints o)[k]'(by omega)).toNat : Nat) : Int).toNat = M ||| 1 <<< o[k] := by simp only [hgk, Int.toNat_natCast]; rfl
      rw [e]
      refine ⟨by exact (E3.trans E4), by omega, Nat.or_lt_two_pow hM (h1p _ hok), fun j => ?_⟩
      rw [Nat.testBit_or, hB, h1b, hts, Bool.eq_iff_iff]
      simp only [List.contains_eq_mem, List.mem_append, List.mem_singleton, decide_eq_true_eq, Bool.or_eq_true]
      exact or_congr Iff.rfl ⟨fun h => h.symm, fun h => h.symm⟩
    · simp only; omega
  · obtain rfl : k = c.length := by omega
    have hMe : M = 2 ^ c.length - 1 := by
      apply Nat.eq_of_testBit_eq
      intro j
      rw [hB, Nat.testBit_two_pow_sub_one, List.take_of_length_le (by omega), List.contains_eq_mem, decide_eq_decide, ho.perm.mem_iff, List.mem_range]
    have hs1 : (((1 : Int).toNat <<< ((c.length : Nat) : Int).toNat : Nat) : Int) = ((2 ^ c.length : Nat) : Int) := by rw [Int.toNat_natCast, show (1 : Int).toNat = 1 from rfl, Nat.one_shiftLeft]
    have hs2 := Nat.one_le_two_pow (n := c.length)
    have hrl := reo_len (c := c) (o := o)
    focus
      have szE3 := E3.size; have szE2 := E2.size; have szE1 := E1.size; refine W_seq ?_; refine W_seq ?_; refine W_region rfl ?_; refine Wo rfl (opv_move (v := .int _ _) rfl) ?_; refine Wo rfl (opv_move (v := u) rfl) ?_
      refine Wo rfl (opv_len Tryz.underlying58 rfl hu) ?_; refine Wo rfl (opv_lss rfl rfl) ?_; refine Wo_nil ?_; refine W_cond_dec rfl (fun h4 => ?_) (fun h4 => ?_); (exfalso; omega); refine W_exit ?_; refine exitX_same ?_
      refine W_seq ?_; refine W_seq ?_; refine W_region rfl ?_; refine Wo rfl (opv_move (v := .int _ _) rfl) ?_; refine Wo rfl (opv_move (v := v) rfl) ?_; refine Wo rfl (opv_len Tryz.underlying22 rfl h) ?_
      refine Wo rfl (opv_shl rfl rfl (by omega)) ?_; refine Wo rfl (opv_sub rfl rfl (by omega)) ?_; refine Wo rfl (opv_neq rfl rfl) ?_; refine Wo_nil ?_; refine W_cond_ndec rfl (fun h5 => ?_) (fun h5 => ?_); (exfalso; omega)
      refine W_skip ?_; refine W_seq ?_; refine W_seq ?_; refine W_region rfl ?_; refine Wo rfl (opv_assign (v := .int _ _) rfl) ?_; refine Wo_nil ?_; refine W_block ?_
    refine W_loop [5, 8, 9, 10, 53, 54, 55, 56, 57, 58, 59, 60, 61, 62, 63, 64, 65, 66, 67, 68, 69, 70, 71, 72, 73, 74, 75, 76, 77, 78, 79, 80, 81, 82, 83, 84, 85] (fun ((k, x) : Nat × Value) => [(8, .int .i64 (k : Nat)), (5, x)]) (fun (k, x) w' => Ext w w' ∧ k ≤ c.length ∧ Owned w.heap.size XR w' x ((reo c o).take k)) (fun x => c.length - x.1) (0, .slice (some ⟨b1, 0, none⟩) 0 0) (by repeat (first | exact trivial | refine And.intro rfl ?_)) ?_ ?_
    · exact ⟨by exact ((E1.trans E2).trans E3), Nat.zero_le _, by rw [List.take_zero]; exact (Mono.mono (E2.trans E3) hO1)⟩
    clear hO1
    rintro ⟨k, x⟩ ρk w4 ⟨E4, hk, hO1⟩
    by_cases hkl : k < c.length
    · have hok := hlt o[k] (List.getElem_mem (by omega))
      have hgk := hgo k (by omega)
      have hrow := hc.row (i := o[k]) (by omega)
      have hck : (c[((ints o)[k]'(by omega)).toNat]'(by simp only [hgk, Int.toNat_natCast]; omega)).length = c.length := by simp only [hgk, Int.toNat_natCast]; exact hrow
      have htl : ((reo c o).take k).length = k := by simp; omega
      focus
        have szE4 := E4.size; have szE3 := E3.size; have szE2 := E2.size; have szE1 := E1.size; refine W_seq ?_; refine W_seq ?_; refine W_region rfl ?_; refine Wo rfl (opv_move (v := .int _ _) rfl) ?_
        refine Wo rfl (opv_move (v := u) rfl) ?_; refine Wo rfl (opv_len Tryz.underlying58 rfl hu) ?_; refine Wo rfl (opv_lss rfl rfl) ?_; refine Wo_nil ?_; refine W_cond_dec rfl (fun h6 => ?_) (fun h6 => ?_); refine W_skip ?_
        refine W_seq ?_; refine W_block ?_; refine W_seq ?_; refine W_region rfl ?_; refine Wo_lit0 XInt rfl el58 Tryz.sizeOf3 ?_; rintro b2 w5 hb2 b2lt E5 hO2; have hs3 := E5.size; refine Wo rfl (opv_assign (v := .slice _ _ _) rfl) ?_
        refine Wo_nil ?_; refine W_seq ?_; refine W_seq ?_; refine W_region rfl ?_; refine Wo rfl (opv_assign (v := .int _ _) rfl) ?_; refine Wo_nil ?_; refine W_block ?_; rotate_left; (exfalso; omega)
      refine W_loop [9, 10, 60, 61, 62, 63, 64, 65, 66, 67, 68, 69, 70, 71, 72, 73, 74, 75, 76, 77, 78, 79, 80, 81] (fun ((j, r) : Nat × Value) => [(10, .int .i64 (j : Nat)), (9, r)]) (fun (j, r) w' => Ext w w' ∧ w4.heap.size ≤ w'.heap.size ∧ j ≤ c.length ∧ OwnedB w.heap.size w4.heap.size XR w' x ((reo c o).take k) ∧ Owned w4.heap.size XI w' r ((o.map fun m => bit c o[k] m).take j)) (fun x => c.length - x.1) (0, .slice (some ⟨b2, 0, none⟩) 0 0) (by repeat (first | exact trivial | refine And.intro rfl ?_)) ?_ ?_
      · exact ⟨by exact (E4.trans E5), by omega, Nat.zero_le _, hO1.toB.ext (by exact E5), by simpa using hO2⟩
      clear hO1 hO2
      rintro ⟨j, r⟩ ρl w6 ⟨E6, hs6, hj, hO1, hO2⟩
      have hml : (o.map fun m => bit c o[k] m).length = c.length := by simp; omega
      have htl2 : ((o.map fun m => bit c o[k] m).take j).length = j := by simp; omega
      by_cases hjl : j < c.length
      · have hoj := hlt o[j] (List.getElem_mem (by omega))
        have hgj := hgo j (by omega)
        have hel : (c[((ints o)[k]'(by omega)).toNat]'(by simp only [hgk, Int.toNat_natCast]; omega))[((ints o)[j]'(by omega)).toNat]'(by rw [hck]; simp only [hgj, Int.toNat_natCast]; omega) = bit c o[k] o[j] := by
          simp only [hgk, hgj, Int.toNat_natCast]
          unfold bit
          rw [getD_lt hok, getD_lt (show o[j] < c[o[k]].length by rw [hrow]; exact hoj)]
        have heldS : w = w := rfl
        focus
          have szE6 := E6.size; have szE5 := E5.size; have szE4 := E4.size; have szE3 := E3.size; have szE2 := E2.size; have szE1 := E1.size; refine W_seq ?_; refine W_seq ?_; refine W_region rfl ?_
          refine Wo rfl (opv_move (v := .int _ _) rfl) ?_; refine Wo rfl (opv_move (v := u) rfl) ?_; refine Wo rfl (opv_len Tryz.underlying58 rfl hu) ?_; refine Wo rfl (opv_lss rfl rfl) ?_; refine Wo_nil ?_
          refine W_cond_dec rfl (fun h7 => ?_) (fun h7 => ?_); refine W_skip ?_; refine W_seq ?_; refine W_block ?_; refine W_held (fun w' => Ext w w') mixed rfl (by kernel_rfl) ?_; intro w7 E7 K1 hz1; have hs4 := E7.size
          refine Wh_take 0 rfl (by kernel_rfl) (by kernel_rfl) rfl (fun _ _ => opv_move (v := r) rfl) (E6.trans E7) ?_; refine Wh_take 1 rfl (by kernel_rfl) (by kernel_rfl) rfl (fun _ _ => opv_move (v := v) rfl) (E6.trans E7) ?_
          refine Wh_take 2 rfl (by kernel_rfl) (by kernel_rfl) rfl (fun _ _ => opv_move (v := u) rfl) (E6.trans E7) ?_; refine Wh_take 3 rfl (by kernel_rfl) (by kernel_rfl) rfl (fun _ _ => opv_move (v := .int _ _) rfl) (E6.trans E7) ?_
          refine Wh_get 4 5 rfl (by kernel_rfl) (by kernel_rfl) rfl rfl (by kernel_rfl) (by kernel_rfl) (fun _ => rfl) Tryz.underlying58 Tryz.sizeOf3 Tryz.isAgg3 rfl hu (fun w' hw' => Ext.trans (Ext.refl _) hw') rfl (by first | omega | (simp <;> omega)) (E6.trans E7) ?_
          rintro _ _ rfl
          refine Wh_get_z 6 7 rfl (by kernel_rfl) (by kernel_rfl) rfl rfl (by kernel_rfl) (by kernel_rfl) (fun _ => rfl) Tryz.underlying22 Tryz.sizeOf58 Tryz.isAgg58 rfl h (fun w' hw' => Ext.trans (Ext.refl _) hw') rfl (by first | omega | (simp <;> omega)) (E6.trans E7) ?_
          rintro _ u1 hu1; refine Wh_take 8 rfl (by kernel_rfl) (by kernel_rfl) rfl (fun _ _ => opv_move (v := u) rfl) (E6.trans E7) ?_
          refine Wh_take 9 rfl (by kernel_rfl) (by kernel_rfl) rfl (fun _ _ => opv_move (v := .int _ _) rfl) (E6.trans E7) ?_
          refine Wh_get 10 11 rfl (by kernel_rfl) (by kernel_rfl) rfl rfl (by kernel_rfl) (by kernel_rfl) (fun _ => rfl) Tryz.underlying58 Tryz.sizeOf3 Tryz.isAgg3 rfl hu (fun w' hw' => Ext.trans (Ext.refl _) hw') rfl (by first | omega | (simp <;> omega)) (E6.trans E7) ?_
          rintro _ _ rfl
          refine Wh_get_z 12 13 rfl (by kernel_rfl) (by kernel_rfl) rfl rfl (by kernel_rfl) (by kernel_rfl) (fun _ => rfl) Tryz.underlying58 Tryz.sizeOf3 Tryz.isAgg3 rfl hu1 (fun w' hw' => Ext.trans (Ext.refl _) hw') rfl (by first | omega | (simp <;> omega)) (E6.trans E7) ?_
          rintro _ _ rfl; refine Wh_all (rs := [14]) (by kernel_rfl) rfl ?_; refine WhAll_cons rfl ?_ ?_; refine Wo_buildSliceH (ps := [(0, .int _ _)]) (cs := [_]) rfl Tryz.underlying58 Tryz.sizeOf3 Tryz.zeroValue3 rfl rfl rfl rfl ?_
          rintro b3 w8 hb3 E8 hB1 hHb3; have hlb3 := hB1.lt; have hs5 := E8.size; refine Wo_nil ?_; refine ⟨((E6.trans E7).trans E8), ?_⟩; refine Wh_all (rs := [15]) (by kernel_rfl) rfl ?_; refine WhAll_cons rfl ?_ ?_
          refine Wo_app1 rfl el58 rfl rfl hB1 (hO2.toB.ext (E7.trans E8)) Owned.int (Nat.le_refl _) (by first | omega | (simp <;> omega)) (by omega) (by omega) ((E6.trans E7).trans E8) (by omega) ?_; have hT1 := (hO2.toB.ext (E7.trans E8))
          rintro v1 w9 hO2 E9 M1; have hO1 := (hO1.ext (E7.trans E8)).moves M1 hT1 (by omega); have hB1 := hB1.moves M1 hT1 (by omega); have hs7 := E9.size; refine Wo_nil ?_; refine ⟨E9, ?_⟩
          refine Wh_take 16 rfl (by kernel_rfl) (by kernel_rfl) rfl (fun _ _ => opv_assign (v := v1) rfl) E9 ?_; refine Wh_done (by kernel_rfl) ?_; refine W_region rfl ?_; refine Wo rfl (opv_move (v := .int _ _) rfl) ?_
          refine Wo rfl (opv_add rfl rfl (by omega)) ?_; refine Wo rfl (opv_assign (v := .int _ _) rfl) ?_; refine Wo_nil ?_; rotate_left; exact WhAll_nil; exact WhAll_nil; (exfalso; omega)
        refine ⟨((j + 1, v1)), by repeat (first | exact trivial | refine And.intro rfl ?_), by repeat (first | with_reducible exact Same.refl | refine Same.upd rfl ?_ | refine Same.upds rfl ?_ | refine Same.mix rfl ?_), ?_, ?_⟩
        · refine ⟨by exact E9, by have := M1.1.size; omega, by omega, by exact hO1, ?_⟩
          rw [take_snoc _ _ (by omega)]
          have e : (o.map fun m => bit c o[k] m)[j]'(by omega) = bit c o[k] o[j] := by simp
          rw [e, ← hel]
          assumption
        · simp only; omega
      · obtain rfl : j = c.length := by omega
        obtain ⟨rb, rc, rfl, _⟩ := hO2.lit (by omega)
        have hrb := hO2.lt_own (k := rb) rfl
        focus
          have szE6 := E6.size; have szE5 := E5.size; have szE4 := E4.size; have szE3 := E3.size; have szE2 := E2.size; have szE1 := E1.size; refine W_seq ?_; refine W_seq ?_; refine W_region rfl ?_
          refine Wo rfl (opv_move (v := .int _ _) rfl) ?_; refine Wo rfl (opv_move (v := u) rfl) ?_; refine Wo rfl (opv_len Tryz.underlying58 rfl hu) ?_; refine Wo rfl (opv_lss rfl rfl) ?_; refine Wo_nil ?_
          refine W_cond_dec rfl (fun h7 => ?_) (fun h7 => ?_); contradiction; refine W_exit ?_; refine exitX_same ?_; refine W_region rfl ?_; refine Wo rfl (opv_move (v := x) rfl) ?_; refine Wo rfl (opv_move (v := .slice _ _ _) rfl) ?_
          refine Wo_buildSlice (ps := [(0, .slice _ _ _)]) (cs := [_]) rfl Tryz.underlying22 Tryz.sizeOf58 Tryz.zeroValue58 rfl rfl rfl rfl ?_; rintro b3 w7 hb3 E7 hB1; have hlb3 := hB1.lt; have hs4 := E7.size
          refine Wo_app1 rfl el22 rfl rfl hB1 (hO1.ext E7) (hO2.toB.ext E7).o (by omega) (by first | omega | (simp <;> omega)) (by omega) (by omega) (E6.trans E7) (by omega) ?_; have hT1 := (hO1.ext E7); rintro v1 w8 hO1 E8 M1
          have hO2 := (hO2.toB.ext E7).moves M1 hT1 (by omega); have hB1 := hB1.moves M1 hT1 (by omega); have hs5 := E8.size; refine Wo rfl (opv_assign (v := v1) rfl) ?_; refine Wo_nil ?_; refine W_region rfl ?_
          refine Wo rfl (opv_move (v := .int _ _) rfl) ?_; refine Wo rfl (opv_add rfl rfl (by omega)) ?_; refine Wo rfl (opv_assign (v := .int _ _) rfl) ?_; refine Wo_nil ?_
        refine ⟨((k + 1, v1)), by repeat (first | exact trivial | refine And.intro rfl ?_), by repeat (first | with_reducible exact Same.refl | refine Same.upd rfl ?_ | refine Same.upds rfl ?_ | refine Same.mix rfl ?_), ?_, ?_⟩
        · refine ⟨by exact E8, by omega, ?_⟩
          rw [take_snoc _ _ (by omega)]
          have e : (reo c o)[k]'(by omega) = (o.map fun m => bit c o[k] m).take c.length := by rw [List.take_of_length_le (by omega)]; simp [reo]
          rw [e]
          assumption
        · simp only; omega
    · obtain rfl : k = c.length := by omega
      focus
        have szE4 := E4.size; have szE3 := E3.size; have szE2 := E2.size; have szE1 := E1.size; refine W_seq ?_; refine W_seq ?_; refine W_region rfl ?_; refine Wo rfl (opv_move (v := .int _ _) rfl) ?_
        refine Wo rfl (opv_move (v := u) rfl) ?_; refine Wo rfl (opv_len Tryz.underlying58 rfl hu) ?_; refine Wo rfl (opv_lss rfl rfl) ?_; refine Wo_nil ?_; refine W_cond_dec rfl (fun h6 => ?_) (fun h6 => ?_); contradiction
        refine W_exit ?_; refine exitX_same ?_; refine W_seq ?_; refine W_region rfl ?_; refine Wo rfl (opv_move (v := x) rfl) ?_; refine Wo rfl (opv_assign (v := x) rfl) ?_; refine Wo_nil ?_; refine W_ret ?_
        refine ⟨E4, (congrArg (Owned _ _ _ _) ?_).mp (hO1.toB.o.mono (by omega))⟩
      rw [List.take_of_length_le (by omega)]

theorem LeastOf_ok (w : World) (v : Value) (p : List (List Int)) (h : ESl Ints w v p) (z : Int) : Does Tryz.prog 32 [v, .int .i64 z] w (RetO w XR (if Nod p z then lst p z.toNat else [])) := by
  have hle := h.le
  have k1 : ∀ (w : World) (v : Value), ESl Ints w v p → Does Tryz.prog 54 [v, .int .i64 z] w (RetDX w XR (fun c => (Nod p z → Cand p z.toNat c) ∧ (¬ Nod p z → c = []))) := fun w v h => JoinedOf_ok w v p h z
  refine fn_of_W1 Tryz.func32 rfl Tryz.results32 Tryz.ntmps32 rfl ?_
  have stop2 : True := trivial
  focus
    refine W_seq ?_; refine W_region rfl ?_; refine Wo rfl (opv_assign (v := .slice _ _ _) rfl) ?_; refine Wo_nil ?_; refine W_seq ?_; refine W_region rfl ?_; refine Wo rfl (opv_move (v := v) rfl) ?_
    refine Wo rfl (opv_move (v := .int _ _) rfl) ?_; refine Wo_call rfl (opc2 (a := v) (b := .int _ _) Tryz.call54 rfl rfl) (k1 _ _ (h)) ?_; rintro u1 w1 ⟨x1, E1, hO1, hy1⟩; have hs1 := E1.size
    refine Wo rfl (opv_assign (v := u1) rfl) ?_; refine Wo_nil ?_; refine W_seq ?_; refine W_seq ?_
  clear stop2
  by_cases hz : Nod p z
  · rw [if_pos hz]
    have hC := hy1.1 hz
    obtain ⟨hp, hz0, hz1⟩ := id hz
    have hi : z.toNat < p.length := by omega
    have hcg := hC.gr hp.gr hi
    have hcl : x1.length ≤ p.length := by
      obtain ⟨L, hL, rfl⟩ := hC
      rw [qp_len]; exact (hL.len hp.gr hi).2
    have hp5 := hp.2.1
    have hcp := hC.pic hp.gr hi (by omega)
    have hc1 := hcp.1
    have k2 : ∀ (w : World), Does Tryz.prog 55 [.int .i64 (x1.length : Int)] w (RetO w XR ((orders x1.length).map ints)) := fun w => l4Orders_ok w _ ⟨by omega, by omega⟩
    focus
      have szE1 := E1.size; refine W_region rfl ?_; refine Wo rfl (opv_move (v := u1) rfl) ?_; refine Wo rfl (opv_len Tryz.underlying22 rfl (Owned.read hO1)) ?_; refine Wo rfl (opv_eql rfl rfl) ?_; refine Wo_nil ?_
      refine W_cond_dec rfl (fun h1 => ?_) (fun h1 => ?_); (exfalso; omega); refine W_skip ?_; refine W_seq ?_; refine W_region rfl ?_; refine Wo rfl (opv_move (v := u1) rfl) ?_; refine Wo rfl (opv_assign (v := u1) rfl) ?_
      refine Wo_nil ?_; refine W_seq ?_; refine W_region rfl ?_; refine Wo rfl (opv_move (v := u1) rfl) ?_; refine Wo rfl (opv_len Tryz.underlying22 rfl (Owned.read hO1)) ?_
      refine Wo_call rfl (opc1 (a := .int _ _) Tryz.call55 rfl) (k2 _) ?_; rintro u2 w2 ⟨E2, hO2⟩; have hs2 := E2.size; refine Wo rfl (opv_assign (v := u2) rfl) ?_; refine Wo_nil ?_; refine W_seq ?_; refine W_seq ?_
      refine W_region rfl ?_; refine Wo rfl (opv_assign (v := .int _ _) rfl) ?_; refine Wo_nil ?_; refine W_block ?_
    have hlo : (orders x1.length).length ≤ 3125 := ordS_len5 (by omega) (by omega)
    have hlm : ((orders x1.length).map ints).length = (orders x1.length).length := by simp
    have r2 := hO2.read
    have hO1' := hO1.ext (by assumption : Ext w1 w2)
    refine W_loop [6, 8, 9, 21, 22, 23, 24, 25, 26, 27, 28, 29, 30, 31, 32, 33, 34, 35, 36, 37, 38] (fun ((k, u, bs) : Nat × Value × List (List Int)) => [(8, .int .i64 (k : Nat)), (6, u)]) (fun (k, u, bs) w' => Ext w2 w' ∧ k ≤ (orders x1.length).length ∧ Owned w.heap.size XR w' u bs ∧ Cand p z.toNat bs ∧ bs = ((orders x1.length).take k).foldl (fun best o => lstep x1 best (reo x1 o)) x1) (fun x => (orders x1.length).length - x.1) (0, u1, x1) (by repeat (first | exact trivial | refine And.intro rfl ?_)) ?_ ?_
    · exact ⟨Ext.refl _, Nat.zero_le _, hO1', hC, rfl⟩
    rintro ⟨k, u, bs⟩ ρj w3 ⟨E3, hk, hOb, hCb, hbs⟩
    by_cases hlt : k < (orders x1.length).length
    · have hgo := iis_get (D := orders x1.length) (i := k) (by omega)
      have hOrd := (mem_orders (by omega)).1 (List.getElem_mem hlt)
      have hcb := hCb.pic hp.gr hi (by have := hCb.len hC; omega)
      have hcr := reo_cand hC hOrd
      have hcrp := hcr.pic hp.gr hi (by have := hcr.len hC; omega)
      have k3 : ∀ (w : World) (v u : Value), ESl Ints w v x1 → Ints w u ((orders x1.length).map ints)[k] → Does Tryz.prog 56 [v, u] w (RetO w XR (reo x1 (orders x1.length)[k])) := fun w v u h h' => Reordered_ok w v u x1 _ h (hgo ▸ h') hcp hOrd
      have k4 : ∀ (w : World) (v : Value), ESl Ints w v bs → Does Tryz.prog 38 [v] w (Ret w (str (txt bs))) := fun w v h => by
        have := PictureText_ok w v bs h
        rw [if_pos hcb] at this; exact this
      have k5 : ∀ (w : World) (v : Value), ESl Ints w v (reo x1 (orders x1.length)[k]) → Does Tryz.prog 38 [v] w (Ret w (str (txt (reo x1 (orders x1.length)[k])))) := fun w v h => by
        have := PictureText_ok w v _ h
        rw [if_pos hcrp] at this; exact this
      have hstep : ((orders x1.length).take (k + 1)).foldl (fun best o => lstep x1 best (reo x1 o)) x1 = lstep x1 bs (reo x1 (orders x1.length)[k]) := by rw [take_snoc _ _ hlt, List.foldl_append, ← hbs]; rfl
      focus
        have szE3 := E3.size; have szE2 := E2.size; have szE1 := E1.size; refine W_seq ?_; refine W_seq ?_; refine W_region rfl ?_; refine Wo rfl (opv_move (v := .int _ _) rfl) ?_; refine Wo rfl (opv_move (v := u2) rfl) ?_
        refine Wo rfl (opv_len Tryz.underlying22 rfl r2) ?_; refine Wo rfl (opv_lss rfl rfl) ?_; refine Wo_nil ?_; refine W_cond_dec rfl (fun h2 => ?_) (fun h2 => ?_); refine W_skip ?_; refine W_seq ?_; refine W_block ?_; refine W_seq ?_
        refine W_region rfl ?_; refine Wo rfl (opv_move (v := u1) rfl) ?_; refine Wo rfl (opv_move (v := u2) rfl) ?_; refine Wo rfl (opv_move (v := .int _ _) rfl) ?_
        refine Wo_get Tryz.underlying22 Tryz.sizeOf58 Tryz.isAgg58 rfl (fun _ => rfl) rfl r2 E3 rfl (by first | omega | (simp <;> omega)) ?_; rintro _ u3 hu1
        refine Wo_call rfl (opc2 (a := u1) (b := u3) Tryz.call56 rfl rfl) (k3 _ _ _ ((Mono.mono E3 (Owned.read hO1'))) ((Mono.mono E3 hu1))) ?_; rintro u4 w4 ⟨E4, hO3⟩; have hs3 := E4.size; refine Wo rfl (opv_assign (v := u4) rfl) ?_
        refine Wo_nil ?_; refine W_seq ?_; refine W_region rfl ?_; refine Wo rfl (opv_move (v := u4) rfl) ?_; refine Wo_call rfl (opc1 (a := u4) Tryz.call38 rfl) (k5 _ _ ((Owned.read hO3))) ?_; rintro _ w5 ⟨rfl, E5⟩; have hs4 := E5.size
        refine Wo rfl (opv_move (v := u) rfl) ?_; refine Wo_call rfl (opc1 (a := u) Tryz.call38 rfl) (k4 _ _ ((Mono.mono (E4.trans E5) (Owned.read hOb)))) ?_; rintro _ w6 ⟨rfl, E6⟩; have hs5 := E6.size
        refine Wo rfl (opv_lss_str rfl rfl) ?_; refine Wo_nil ?_; refine W_cond rfl (fun h3 => ?_) (fun h3 => ?_); refine W_region rfl ?_; refine Wo rfl (opv_move (v := u4) rfl) ?_; refine Wo rfl (opv_assign (v := u4) rfl) ?_
        refine Wo_nil ?_; refine W_region rfl ?_; refine Wo rfl (opv_move (v := .int _ _) rfl) ?_; refine Wo rfl (opv_add rfl rfl (by omega)) ?_; refine Wo rfl (opv_assign (v := .int _ _) rfl) ?_; refine Wo_nil ?_; rotate_left
        refine W_skip ?_; refine W_region rfl ?_; refine Wo rfl (opv_move (v := .int _ _) rfl) ?_; refine Wo rfl (opv_add rfl rfl (by omega)) ?_; refine Wo rfl (opv_assign (v := .int _ _) rfl) ?_; refine Wo_nil ?_; rotate_left
        (exfalso; omega)
      · refine ⟨((k + 1, u4, reo x1 (orders x1.length)[k])), by repeat (first | exact trivial | refine And.intro rfl ?_), by repeat (first | with_reducible exact Same.refl | refine Same.upd rfl ?_ | refine Same.upds rfl ?_ | refine Same.mix rfl ?_), ?_, ?_⟩
        · refine ⟨by exact (((E3.trans E4).trans E5).trans E6), by omega, (hO3.ext (by exact (E5.trans E6) : Ext w4 w6)).mono (by omega), hcr, ?_⟩
          rw [hstep]
          exact (if_pos (by assumption)).symm
        · simp only; omega
      · refine ⟨((k + 1, u, bs)), by repeat (first | exact trivial | refine And.intro rfl ?_), by repeat (first | with_reducible exact Same.refl | refine Same.upd rfl ?_ | refine Same.upds rfl ?_ | refine Same.mix rfl ?_), ?_, ?_⟩
        · refine ⟨by exact (((E3.trans E4).trans E5).trans E6), by omega, by exact (Mono.mono ((E4.trans E5).trans E6) hOb), hCb, ?_⟩
          rw [hstep]
          exact (if_neg (by simp only [Bool.not_eq_true]; assumption)).symm
        · simp only; omega
    · obtain rfl : k = (orders x1.length).length := by omega
      focus
        have szE3 := E3.size; have szE2 := E2.size; have szE1 := E1.size; refine W_seq ?_; refine W_seq ?_; refine W_region rfl ?_; refine Wo rfl (opv_move (v := .int _ _) rfl) ?_; refine Wo rfl (opv_move (v := u2) rfl) ?_
        refine Wo rfl (opv_len Tryz.underlying22 rfl r2) ?_; refine Wo rfl (opv_lss rfl rfl) ?_; refine Wo_nil ?_; refine W_cond_dec rfl (fun h2 => ?_) (fun h2 => ?_); (exfalso; omega); refine W_exit ?_; refine exitX_same ?_
        refine W_seq ?_; refine W_region rfl ?_; refine Wo rfl (opv_move (v := u) rfl) ?_; refine Wo rfl (opv_assign (v := u) rfl) ?_; refine Wo_nil ?_; refine W_ret ?_
        refine ⟨((E1.trans E2).trans E3), (congrArg (Owned _ _ _ _) ?_).mp (hOb.toB.o.mono (by omega))⟩
      rw [hbs, List.take_length]
      exact lst_fold_eq hp.gr hi hC
  · rw [if_neg hz]
    obtain rfl := hy1.2 hz
    have hnil : (([] : List (List Int)).length : Int) = 0 := rfl
    focus
      have szE1 := E1.size; refine W_region rfl ?_; refine Wo rfl (opv_move (v := u1) rfl) ?_; refine Wo rfl (opv_len Tryz.underlying22 rfl (Owned.read hO1)) ?_; refine Wo rfl (opv_eql rfl rfl) ?_; refine Wo_nil ?_
      refine W_cond_dec rfl (fun h1 => ?_) (fun h1 => ?_); refine W_seq ?_; refine W_region rfl ?_; refine Wo rfl (opv_move (v := u1) rfl) ?_; refine Wo rfl (opv_assign (v := u1) rfl) ?_; refine Wo_nil ?_; refine W_ret ?_
      exact ⟨E1, hO1.toB.o.mono (by omega)⟩; contradiction

end Go.Proofs.YtgphoihilheoeaaGreatDoor
namespace Go.Proofs.YtgphoihilheoeaaGreatDoor
open Go.Hs
set_option linter.unusedVariables false
theorem rowCell {w : World} {ub n uc lo i j : Nat} {rows : List (List Int)} (h : Owned lo XR w (.slice (some ⟨ub, 0, none⟩) n uc) rows) (hi : i < rows.length) (hj : j < rows[i].length) :
    ∃ br cr, RowAt w (.slice (some ⟨ub, 0, none⟩) n uc) i br rows[i].length cr ∧ lo ≤ br ∧ br < w.heap.size ∧ w.cell? ⟨ub, 0 + i, none⟩ = some (.slice (some ⟨br, 0, none⟩) rows[i].length cr) ∧ w.cell? ⟨br, 0 + j, none⟩ = some (.int .i64 rows[i][j]) := by
  obtain ⟨br, cr, h1, h2, h3⟩ := h.rowAt hi (by omega)
  refine ⟨br, cr, h1, h2, h3, ?_, ?_⟩
  · obtain ⟨b, m, c, e, h4, h5⟩ := h1
    cases e
    rw [Nat.zero_add]; exact h5
  · have h6 := (OwnedB.rowOwn h.toB h1 hi).2
    obtain ⟨a, c, e, h7⟩ : Ints w _ rows[i] := OwnedB.read h6
    obtain ⟨b, o, u, h8, h9, h10⟩ := h7.at hj
    cases e
    cases h8
    rw [h9]; exact congrArg some h10
theorem rowAt_cell {w : World} {ub n uc i br m cr : Nat} (h : RowAt w (.slice (some ⟨ub, 0, none⟩) n uc) i br m cr) : w.cell? ⟨ub, 0 + i, none⟩ = some (.slice (some ⟨br, 0, none⟩) m cr) := by
  obtain ⟨b, m', c, e, h4, h5⟩ := h
  cases e
  rw [Nat.zero_add]; exact h5

end Go.Proofs.YtgphoihilheoeaaGreatDoor
namespace Go.Proofs.YtgphoihilheoeaaGreatDoor
open Go.Hs
set_option maxRecDepth 10000
set_option maxHeartbeats 4000000
set_option linter.unusedVariables false
set_option linter.unusedSimpArgs false

def reoR (c : List (List Int)) (o : List Nat) (i : Nat) : List Int := o.map fun j => bit c i j
def reoQ (c : List (List Int)) (o : List Nat) (i : Nat) : List (List Int) := (o.take i).map (reoR c o) ++ List.replicate (o.length - i) (List.replicate o.length 0)
theorem reoQ_len {c : List (List Int)} {o : List Nat} {i : Nat} (hi : i ≤ o.length) : (reoQ c o i).length = o.length := by simp [reoQ]; omega
theorem reoQ_at {c : List (List Int)} {o : List Nat} {i : Nat} (hi : i < o.length) : (reoQ c o i)[i]'(by rw [reoQ_len (by omega)]; exact hi) = List.replicate o.length 0 := by
  have hl : ((o.take i).map (reoR c o)).length = i := by simp; omega
  unfold reoQ
  rw [List.getElem_append_right (by omega)]
  simp
theorem reoQ_set {c : List (List Int)} {o : List Nat} {i : Nat} (hi : i < o.length) : (reoQ c o i).set i (reoR c o o[i]) = reoQ c o (i + 1) := by
  have hl : ((o.take i).map (reoR c o)).length = i := by simp; omega
  unfold reoQ
  rw [List.set_append_right _ _ (by omega), hl, Nat.sub_self, show o.length - i = (o.length - (i + 1)) + 1 by omega, List.replicate_succ, List.set_cons_zero, take_snoc _ _ hi, List.map_append, List.append_assoc]
  rfl
theorem reoQ_all {c : List (List Int)} {o : List Nat} : reoQ c o o.length = reo c o := by simp [reoQ, reo, reoR]
theorem reoR_at {c : List (List Int)} {o : List Nat} {x k : Nat} (hk : k < (reoR c o x).length) : (reoR c o x)[k] = bit c x (o[k]'(by simpa [reoR] using hk)) := by simp [reoR]
theorem bit_at {c : List (List Int)} {x y : Nat} (hx : x < c.length) (hy : y < c[x].length) : bit c x y = c[x][y] := by
  unfold bit
  rw [getD_lt hx, getD_lt hy]
theorem fill_k {l : List Int} {k n : Nat} (hk : k < l.length) (hn : n = l.length) {x : Int} (hx : x = l[k]) : (l.take k ++ List.replicate (n - k) 0).set k x = l.take (k + 1) ++ List.replicate (n - (k + 1)) 0 := by
  subst hn; subst hx
  exact set_fill l k hk 0
theorem row_full {Q rows : List (List Int)} {i n : Nat} {r : List Int} (hrw : rows = Q.set i (r.take n ++ List.replicate (n - n) 0)) (hn : r.length ≤ n) : rows = Q.set i r := by
  rw [Nat.sub_self, List.replicate_zero, List.append_nil, List.take_of_length_le hn] at hrw
  exact hrw
theorem reordered_ok (w : World) (v u : Value) (c : List (List Int)) (o : List Nat) (h : ESl Ints w v c) (hu : Ints w u (ints o)) (hc : Gr c) (ho : o.length = c.length) (hlt : ∀ x ∈ o, x < c.length) :
    Does Tryz.prog 49 [v, u] w (RetO w XR (reo c o)) := by
  have hp5 := hc.2.1
  have hc1 := hc.1
  have hle := h.le
  have hil := ints_len o
  have hem : ∀ w, Does Tryz.prog 73 [.int .i64 (c.length : Int)] w (RetO w XR (reoQ c o 0)) := fun w => by
    have := emptyPicture_ok w c.length (by omega)
    rw [← ho] at this ⊢
    rw [show reoQ c o 0 = List.replicate o.length (List.replicate o.length 0) by simp [reoQ]]
    exact this
  refine fn_of_W1 Tryz.func49 rfl Tryz.results49 Tryz.ntmps49 rfl ?_
  have hq0 := reoQ_len (c := c) (o := o) (i := 0) (by omega)
  focus
    refine W_seq ?_; refine W_region rfl ?_; refine Wo rfl (opv_assign (v := .slice _ _ _) rfl) ?_; refine Wo_nil ?_; refine W_seq ?_; refine W_region rfl ?_; refine Wo rfl (opv_move (v := v) rfl) ?_
    refine Wo rfl (opv_len Tryz.underlying22 rfl h) ?_; refine Wo_call rfl (opc1 (a := .int _ _) Tryz.call73 rfl) (hem _) ?_; rintro u1 w1 ⟨E1, hO1⟩; have hs1 := E1.size; refine Wo rfl (opv_assign (v := u1) rfl) ?_; refine Wo_nil ?_
    refine W_seq ?_; refine W_seq ?_; refine W_region rfl ?_; refine Wo rfl (opv_move (v := u) rfl) ?_; refine Wo rfl (opv_len Tryz.underlying58 rfl hu) ?_; refine Wo rfl (opv_move (v := .int _ _) rfl) ?_; refine Wo_nil ?_
    refine W_block ?_
  obtain ⟨ub, uc, rfl, _⟩ := hO1.lit (by omega)
  refine W_loop [6, 7, 8, 9, 15, 16, 17, 18, 19, 20, 21, 22, 23, 24, 25, 26, 27, 28, 29, 30, 31, 32, 33, 34, 35, 36, 37, 38, 39, 40, 41] (fun (i : Nat) => [(15, .int .i64 (i : Int))]) (fun i w' => Ext w w' ∧ i ≤ c.length ∧ Owned w.heap.size XR w' (.slice (some ⟨ub, 0, none⟩) (reoQ c o 0).length uc) (reoQ c o i)) (fun x => c.length - x) 0 (by repeat (first | exact trivial | refine And.intro rfl ?_)) ?_ ?_
  · exact ⟨by assumption, Nat.zero_le _, hO1⟩
  clear hO1
  rintro i ρj w2 ⟨E2, hi, hO1⟩
  by_cases hil2 : i < c.length
  · have hgi : (ints o)[i]'(by omega) = (o[i] : Int) := ints_get (by omega)
    have hoi := hlt o[i] (List.getElem_mem (by omega))
    have hrow := hc.row (i := o[i]) (by omega)
    have hli := reoQ_len (c := c) (o := o) (i := i) (by omega)
    have hat := reoQ_at (c := c) (o := o) (i := i) (by omega)
    focus
      have szE2 := E2.size; have szE1 := E1.size; refine W_seq ?_; refine W_region rfl ?_; refine Wo rfl (opv_lss rfl rfl) ?_; refine Wo_nil ?_; refine W_seq ?_; refine W_cond_dec rfl (fun h1 => ?_) (fun h1 => ?_); refine W_skip ?_
      refine W_seq ?_; refine W_block ?_; refine W_seq ?_; refine W_region rfl ?_; refine Wo rfl (opv_move (v := .int _ _) rfl) ?_
      refine Wo_get Tryz.underlying58 Tryz.sizeOf3 Tryz.isAgg3 rfl (fun _ => rfl) rfl hu E2 rfl (by first | omega | (simp <;> omega)) ?_; rintro _ _ rfl; refine Wo rfl (opv_assign (v := .int _ _) rfl) ?_
      refine Wo rfl (opv_assign (v := .int _ _) rfl) ?_; refine Wo_nil ?_; refine W_seq ?_; refine W_region rfl ?_; refine Wo rfl (opv_move (v := u) rfl) ?_; refine Wo rfl (opv_len Tryz.underlying58 rfl hu) ?_
      refine Wo rfl (opv_move (v := .int _ _) rfl) ?_; refine Wo_nil ?_; refine W_block ?_; rotate_left; (exfalso; omega)
    obtain ⟨br, cr, hR, hb1, hb2⟩ := hO1.rowAt (i := i) (by omega) (by rw [hat]; simp; omega)
    refine W_loop [8, 9, 22, 23, 24, 25, 26, 27, 28, 29, 30, 31, 32, 33, 34, 35, 36, 37, 38, 39, 40] (fun ((k, rows) : Nat × List (List Int)) => [(22, .int .i64 (k : Int))]) (fun (k, rows) w' => Ext w w' ∧ w2.heap.size ≤ w'.heap.size ∧ k ≤ c.length ∧ Owned w.heap.size XR w' (.slice (some ⟨ub, 0, none⟩) (reoQ c o 0).length uc) rows ∧ RowAt w' (.slice (some ⟨ub, 0, none⟩) (reoQ c o 0).length uc) i br (reoQ c o i)[i].length cr ∧ rows = (reoQ c o i).set i ((reoR c o o[i]).take k ++ List.replicate (c.length - k) 0)) (fun x => c.length - x.1) (0, reoQ c o i) (by repeat (first | exact trivial | refine And.intro rfl ?_)) ?_ ?_
    · refine ⟨by assumption, by omega, Nat.zero_le _, hO1, hR, ?_⟩
      rw [show (reoR c o o[i]).take 0 ++ List.replicate (c.length - 0) 0 = (reoQ c o i)[i] by rw [hat]; simp [ho]]
      simp
    clear hO1 hR
    rintro ⟨k, rows⟩ ρk w3 ⟨E3, hs3, hk, hO1, hR, hrw⟩
    have hrl : rows.length = o.length := by rw [hrw]; simp; omega
    have hRl : (reoR c o o[i]).length = o.length := by simp [reoR]
    have hrq : (reoQ c o i)[i].length = c.length := by rw [hat]; simp [ho]
    have hri : rows[i]'(by omega) = (reoR c o o[i]).take k ++ List.replicate (c.length - k) 0 := by simp only [hrw, List.getElem_set_self]
    have hrll : (rows[i]'(by omega)).length = c.length := by rw [hri]; simp; omega
    by_cases hkl : k < c.length
    · have hgk : (ints o)[k]'(by omega) = (o[k] : Int) := ints_get (by omega)
      have hok := hlt o[k] (List.getElem_mem (by omega))
      have hval : (c[((ints o)[i]'(by omega)).toNat]'(by omega))[((ints o)[k]'(by omega)).toNat]'(by simp only [hgi, hgk, Int.toNat_natCast]; omega) = (reoR c o o[i])[k]'(by omega) := by
        rw [reoR_at]
        simp only [hgi, hgk, Int.toNat_natCast]
        exact (bit_at hoi (by rw [hrow]; exact hok)).symm
      have hcl : (c[((ints o)[i]'(by omega)).toNat]'(by omega)).length = c.length := by simp only [hgi, Int.toNat_natCast]; exact hrow
      have hcell := rowAt_cell hR
      have heldS : w = w := rfl
      focus
        have szE3 := E3.size; have szE2 := E2.size; have szE1 := E1.size; refine W_seq ?_; refine W_region rfl ?_; refine Wo rfl (opv_lss rfl rfl) ?_; refine Wo_nil ?_; refine W_seq ?_; refine W_cond_dec rfl (fun h2 => ?_) (fun h2 => ?_)
        refine W_skip ?_; refine W_seq ?_; refine W_block ?_; refine W_seq ?_; refine W_region rfl ?_; refine Wo rfl (opv_move (v := .int _ _) rfl) ?_
        refine Wo_get Tryz.underlying58 Tryz.sizeOf3 Tryz.isAgg3 rfl (fun _ => rfl) rfl hu E3 rfl (by first | omega | (simp <;> omega)) ?_; rintro _ _ rfl; refine Wo rfl (opv_assign (v := .int _ _) rfl) ?_
        refine Wo rfl (opv_assign (v := .int _ _) rfl) ?_; refine Wo_nil ?_; refine W_held (fun w' => Ext w w') mixed rfl (by kernel_rfl) ?_; intro w4 E4 K1 hz1; have hs2 := E4.size
        refine Wh_take 0 rfl (by kernel_rfl) (by kernel_rfl) rfl (fun _ _ => opv_move (v := .slice _ _ _) rfl) (E3.trans E4) ?_
        refine Wh_take 1 rfl (by kernel_rfl) (by kernel_rfl) rfl (fun _ _ => opv_move (v := .int _ _) rfl) (E3.trans E4) ?_
        refine Wh_take 2 rfl (by kernel_rfl) (by kernel_rfl) rfl (fun _ _ => opv_indexAddr Tryz.underlying22 Tryz.sizeOf58 rfl rfl (by omega)) (E3.trans E4) ?_
        refine Wh_take 4 rfl (by kernel_rfl) (by kernel_rfl) rfl (fun _ _ => opv_move (v := .int _ _) rfl) (E3.trans E4) ?_; refine Wh_take 5 rfl (by kernel_rfl) (by kernel_rfl) rfl (fun _ _ => opv_move (v := v) rfl) (E3.trans E4) ?_
        refine Wh_take 6 rfl (by kernel_rfl) (by kernel_rfl) rfl (fun _ _ => opv_move (v := .int _ _) rfl) (E3.trans E4) ?_
        refine Wh_get_z 7 8 rfl (by kernel_rfl) (by kernel_rfl) rfl rfl (by kernel_rfl) (by kernel_rfl) (fun _ => rfl) Tryz.underlying22 Tryz.sizeOf58 Tryz.isAgg58 rfl h (fun w' hw' => Ext.trans (Ext.refl _) hw') rfl (by first | omega | (simp <;> omega)) (E3.trans E4) ?_
        rintro _ u1 hu1; refine Wh_take 9 rfl (by kernel_rfl) (by kernel_rfl) rfl (fun _ _ => opv_move (v := .int _ _) rfl) (E3.trans E4) ?_
        refine Wh_get_z 10 11 rfl (by kernel_rfl) (by kernel_rfl) rfl rfl (by kernel_rfl) (by kernel_rfl) (fun _ => rfl) Tryz.underlying58 Tryz.sizeOf3 Tryz.isAgg3 rfl hu1 (fun w' hw' => Ext.trans (Ext.refl _) hw') rfl (by first | omega | (simp <;> omega)) (E3.trans E4) ?_
        rintro _ _ rfl; refine Wh_all (rs := [3]) (by kernel_rfl) rfl ?_; refine WhAll_cons rfl ?_ ?_; refine Wo rfl (opv_load Tryz.isAgg58 rfl (E4.cell hcell)) ?_; refine Wo_nil ?_; refine ⟨(E3.trans E4), ?_⟩
        refine Wh_take 12 rfl (by kernel_rfl) (by kernel_rfl) rfl (fun _ _ => opv_indexAddr Tryz.underlying58 Tryz.sizeOf3 rfl rfl (by omega)) (E3.trans E4) ?_; refine Wh_all (rs := [13]) (by kernel_rfl) rfl ?_; refine WhAll_cons rfl ?_ ?_
        refine Wo_gset rfl Tryz.sizeOf3 rfl rfl (hO1.toB.ext E4) (hR.ext E4) (by first | omega | (simp <;> omega)) (by first | omega | (simp <;> omega)) ?_; rintro w5 hO1 hR On1 K2 hz2; have E5 := On1.ext1 (E3.trans E4) (by omega)
        have hs4 := On1.size; refine Wo_nil ?_; refine ⟨E5, ?_⟩; refine Wh_done (by kernel_rfl) ?_; refine W_region rfl ?_; refine Wo rfl (opv_add rfl rfl (by omega)) ?_; refine Wo rfl (opv_move (v := .int _ _) rfl) ?_; refine Wo_nil ?_
        rotate_left; exact WhAll_nil; exact WhAll_nil; (exfalso; omega)
      refine ⟨((k + 1, rows.set i (rows[i].set k (c[((ints o)[i]'(by omega)).toNat]'(by omega))[((ints o)[k]'(by omega)).toNat]))), by repeat (first | exact trivial | refine And.intro rfl ?_), by repeat (first | with_reducible exact Same.refl | refine Same.upd rfl ?_ | refine Same.upds rfl ?_ | refine Same.mix rfl ?_), ?_, ?_⟩
      · refine ⟨by exact E5, by omega, by omega, by exact hO1, by exact hR, ?_⟩
        refine row_next hrw (by omega) ?_
        rw [hri]
        exact fill_k (by omega) (by omega) hval
      · simp only; omega
    · obtain rfl : k = c.length := by omega
      focus
        have szE3 := E3.size; have szE2 := E2.size; have szE1 := E1.size; refine W_seq ?_; refine W_region rfl ?_; refine Wo rfl (opv_lss rfl rfl) ?_; refine Wo_nil ?_; refine W_seq ?_; refine W_cond_dec rfl (fun h2 => ?_) (fun h2 => ?_)
        (exfalso; omega); refine W_exit ?_; refine exitX_same ?_; refine W_region rfl ?_; refine Wo rfl (opv_add rfl rfl (by omega)) ?_; refine Wo rfl (opv_move (v := .int _ _) rfl) ?_; refine Wo_nil ?_
      refine ⟨(i + 1), by repeat (first | exact trivial | refine And.intro rfl ?_), by repeat (first | with_reducible exact Same.refl | refine Same.upd rfl ?_ | refine Same.upds rfl ?_ | refine Same.mix rfl ?_), ?_, ?_⟩
      · refine ⟨by exact E3, by omega, ?_⟩
        rw [← reoQ_set (show i < o.length by omega)]
        rw [← row_full hrw (by omega)]
        exact hO1
      · omega
  · obtain rfl : i = c.length := by omega
    focus
      have szE2 := E2.size; have szE1 := E1.size; refine W_seq ?_; refine W_region rfl ?_; refine Wo rfl (opv_lss rfl rfl) ?_; refine Wo_nil ?_; refine W_seq ?_; refine W_cond_dec rfl (fun h1 => ?_) (fun h1 => ?_); (exfalso; omega)
      refine W_exit ?_; refine exitX_same ?_; refine W_seq ?_; refine W_region rfl ?_; refine Wo rfl (opv_move (v := .slice _ _ _) rfl) ?_; refine Wo rfl (opv_assign (v := .slice _ _ _) rfl) ?_; refine Wo_nil ?_; refine W_ret ?_
      refine ⟨E2, (congrArg (Owned _ _ _ _) ?_).mp (hO1.toB.o.mono (by omega))⟩
    rw [← ho, reoQ_all]

end Go.Proofs.YtgphoihilheoeaaGreatDoor
set_option linter.unusedVariables false
namespace Go.Hs
section
variable {w w' : World} {u u' v : Value} {e : TypeId} {lo : Nat} {xs ys : List Int}
/-- blocks apart -/
def Apt (u v : Value) : Prop := v.ownBlock = none ∨ u.ownBlock ≠ v.ownBlock
theorem Apt.symm (h : Apt u v) : Apt v u := by
  unfold Apt at *
  rcases hu : u.ownBlock with _ | a
  · exact .inl rfl
  · right
    rcases h with h | h
    · rw [h]; simp
    · rw [← hu]; exact fun e => h e.symm
theorem XI_moves (hB : Owned lo (XSl e XInt) w v xs) (m : Moves w u w' u') (h : Apt u v) : Owned lo (XSl e XInt) w' v xs ∧ Apt u' v := by
  have hlt : ∀ k, v.ownBlock = some k → lo ≤ k ∧ k < w.heap.size := fun k hk => hB.lt_own hk
  obtain ⟨fp, h1, h2, h3⟩ := hB
  have hf := XI_fp h3
  constructor
  · refine ⟨fp, h1, h2, Loc.loc (fun k hk => ?_) h3⟩
    rw [hf] at hk
    have hv : v.ownBlock = some k := by
      cases hb : v.ownBlock with
      | none => rw [hb] at hk; cases hk
      | some g => rw [hb] at hk; simp at hk; rw [hk]
    refine m.1.block k (hlt k hv).2 fun e => ?_
    rcases h with h | h
    · rw [hv] at h; cases h
    · exact h (by rw [hv, ← e])
  · rcases h with h | h
    · exact .inl h
    · rcases m.2 with h4 | ⟨g, h4, h5⟩
      · exact .inr (by rw [h4]; exact h)
      · right
        rw [h4]
        intro e
        have := (hlt g e.symm).2
        omega
end
end Go.Hs
set_option linter.unusedVariables false
namespace Go.Hs
section
variable {α : Type} {X : World → List Nat → Value → α → Prop} {w : World} {lo hi b o n c c' k : Nat} {e : TypeId}
theorem XAll_take : ∀ (k : Nat) {fs : List (List Nat)} {cs : List Value} {xs : List α}, XAll X w fs cs xs → XAll X w (fs.take k) (cs.take k) (xs.take k)
  | 0, fs, cs, xs, _ => by simp [XAll]
  | k + 1, f :: fs, c :: cs, x :: xs, h => ⟨h.1, XAll_take k h.2⟩
  | k + 1, [], [], [], _ => trivial
  | _ + 1, [], _ :: _, _, h => h.elim
  | _ + 1, [], [], _ :: _, h => h.elim
  | _ + 1, _ :: _, [], _, h => h.elim
  | _ + 1, _ :: _, _ :: _, [], h => h.elim
theorem XInt_flat' : ∀ {fs : List (List Nat)} {cs : List Value} {xs : List Int}, XAll XInt w fs cs xs → fs.flatten = []
  | [], _, _, _ => rfl
  | f :: fs, c :: cs, x :: xs, h => by rw [List.flatten_cons, h.1.1, XInt_flat' h.2]; rfl
  | _ :: _, [], _, h => h.elim
  | _ :: _, _ :: _, [], h => h.elim
theorem OwnedB.pre {xs : List Int} (h : OwnedB lo hi (XSl e XInt) w (.slice (some ⟨b, 0, none⟩) n c) xs) (hk : k ≤ n) : OwnedB lo hi (XSl e XInt) w (.slice (some ⟨b, 0, none⟩) k c) (xs.take k) := by
  obtain ⟨fp, h1, h2, cs, fps, h3, rfl, h5⟩ := h
  have hf := XInt_flat' h5
  have hf2 := XInt_flat' (XAll_take k h5)
  obtain ⟨h4, h6⟩ := h3
  rcases h6 with ⟨h7, _⟩ | ⟨g, cap, cur, h7, h8, h9, h10, h11, h12, h13⟩
  · cases h7
  · injection h7 with e1 e2 e3
    injection e1 with e1
    injection e1 with e1 _ _
    subst e1 e2 e3
    refine ⟨_, h1, h2, cs.take k, fps.take k, ⟨?_, .inr ⟨b, c, cur, ?_, h8, h9, by rw [List.length_take]; omega, h11, h12, ?_⟩⟩, by rw [hf, hf2]; rfl, XAll_take k h5⟩
    · rw [List.length_take, List.length_take, h4]; omega
    · rw [List.length_take, Nat.min_eq_left (by omega)]
    · rw [List.length_take, ← h13, List.take_take, Nat.mul_one, Nat.mul_one, Nat.min_eq_left (by omega)]
theorem own_rng {v : Value} {xs : List α} (h : OwnedB lo hi (XSl e X) w v xs) (hv : v.ownBlock = some k) : lo ≤ k ∧ k < hi := by
  obtain ⟨fp, h1, h2, cs, fps, h3, rfl, h5⟩ := h
  exact h2 k (by simp [hv])
end
/-- In the midst: what a piece of code leaves, told anew. -/
theorem W_mid {α : Type} {P : Program} {n : Nat} {c : Code} {N : Env → World → Prop} {X : Nat → Env → World → Prop} {R : Env → World → Prop} {ρ : Env} {w : World} (D : List Nat) (S : α → List (Nat × Value)) (I : α → World → Prop)
    (h : W P n c (fun ρ' w' => ∃ x', Slots ρ' (S x') ∧ Same D ρ ρ' ∧ I x' w') X R ρ w) (h2 : ∀ (x : α) (ρj : Env) (w' : World), I x w' → N (upds (mix D ρj ρ) (S x)) w') : W P n c N X R ρ w := by
  unfold W at *
  intro a ha
  refine Go.wp_mono (h a ha) fun e a w q => ?_
  cases e with
  | normal =>
    obtain ⟨ρ', hR, x', hS, hD, hI⟩ := q
    refine ⟨ρ', hR, ?_⟩
    have := h2 x' ρ' w hI
    rw [mix_same hD, upds_self hS] at this; exact this
  | ret => exact q
  | exit i => exact q
  | goto l => exact q
  | panic ch => exact q
  | outgrown => exact q
end Go.Hs
set_option linter.unusedVariables false
namespace Go.Hs
theorem OwnedB.nil {α : Type} {X : World → List Nat → Value → α → Prop} {w : World} {e : TypeId} {lo hi : Nat} : OwnedB lo hi (XSl e X) w (.slice none 0 0) [] := ⟨[], List.nodup_nil, (fun _ h => by cases h), [], [], World.ownsRow_nil w 0 e 1, rfl, trivial⟩
theorem own_lit1 {w : World} {e : TypeId} {lo b : Nat} {x : Int} (hb : w.heap[b]? = some (.cells [.int .i64 x].toArray e (0, 0))) (hl : lo ≤ b) : Owned lo (XSl e XInt) w (.slice (some ⟨b, 0, none⟩) 1 1) [x] := Owned.block hb hl rfl (by decide) ⟨⟨rfl, rfl⟩, trivial⟩
theorem own_lit2 {w : World} {e : TypeId} {lo b : Nat} {x y : Int} (hb : w.heap[b]? = some (.cells [.int .i64 x, .int .i64 y].toArray e (0, 0))) (hl : lo ≤ b) : Owned lo (XSl e XInt) w (.slice (some ⟨b, 0, none⟩) 2 2) [x, y] := Owned.block hb hl rfl (by decide) ⟨⟨rfl, rfl⟩, ⟨rfl, rfl⟩, trivial⟩
theorem Moves.off {w w' : World} {v v' : Value} {b : Nat} (M : Moves w v w' v') (hv : v.ownBlock ≠ some b) (hb : b < w.heap.size) : v'.ownBlock ≠ some b := by
  rcases M.2 with h | ⟨g, h, hg⟩
  · rw [h]; exact hv
  · rw [h]; intro e; injection e with e; omega
end Go.Hs
namespace Go.Proofs.YtgphoihilheoeaaGreatDoor
open Go.Hs
set_option maxRecDepth 10000
set_option maxHeartbeats 4000000
set_option linter.unusedVariables false
set_option linter.unusedSimpArgs false

theorem leastNode_ok (w : World) (b6 b5 : Nat) (vr vk : Value) (p : List (List Int)) (hp : Gr p) (a : Nat) (ha : a < p.length) (κ : Int) (h6 : Blk w b6 [vr]) (h5 : Blk w b5 [vk]) (hR : Ints w vr (ints (rf p a))) (hK : Ints w vk (ints (kndL p))) :
    Does Tryz.prog 72 [.int .i64 κ, .pointer (some ⟨b6, 0, none⟩), .pointer (some ⟨b5, 0, none⟩)] w (RetX w (Value.int .i64) (fun z _ => (z = -1 ∧ ∀ y ∈ rf p a, (knd p y : Int) ≠ κ) ∨ ∃ y : Nat, z = y ∧ y ∈ rf p a ∧ (knd p y : Int) = κ)) := by
  have hle := hR.le
  have hle1 := hK.le
  have hril := ints_len (rf p a)
  have hkl := ikndL_len (p := p)
  have icr : isCell vr = true := by obtain ⟨_, _, rfl, _⟩ := hR; rfl
  have ick : isCell vk = true := by obtain ⟨_, _, rfl, _⟩ := hK; rfl
  refine fn_of_W1 Tryz.func72 rfl Tryz.results72 Tryz.ntmps72 rfl ?_
  focus
    refine W_seq ?_; refine W_region rfl ?_; refine Wo rfl (opv_assign (v := .int _ _) rfl) ?_; refine Wo_nil ?_; refine W_seq ?_; refine W_seq ?_; refine W_region rfl ?_
    refine Wo (v := vr) rfl (opv_load Tryz.isAgg58 rfl (h6.cell rfl)) ?_; refine Wo rfl (opv_len Tryz.underlying58 rfl hR) ?_; refine Wo rfl (opv_move (v := .int _ _) rfl) ?_; refine Wo_nil ?_; refine W_block ?_
  refine W_loop [4, 6, 9, 10, 11, 12, 13, 14, 15, 16, 17, 18, 19, 20] (fun (k : Nat) => [(9, .int .i64 (k : Nat))]) (fun k w' => Ext w w' ∧ k ≤ (rf p a).length ∧ ∀ y ∈ (rf p a).take k, (knd p y : Int) ≠ κ) (fun k => (rf p a).length - k) 0 (by repeat (first | exact trivial | refine And.intro rfl ?_)) ?_ ?_
  · exact ⟨Ext.refl _, Nat.zero_le _, by simp⟩
  rintro k ρj w1 ⟨E1, hk, hno⟩
  by_cases hlt : k < (rf p a).length
  · have hrk := (mem_rf hp ha).1 (List.getElem_mem hlt) |>.lt hp ha
    have hgk : (ints (rf p a))[k]'(by omega) = ((rf p a)[k] : Int) := ints_get hlt
    have hkk : (ints (kndL p))[((ints (rf p a))[k]'(by omega)).toNat]'(by omega) = (knd p (rf p a)[k] : Int) := by
      simp only [hgk, Int.toNat_natCast]; exact ikndL_at _
    focus
      have szE1 := E1.size; refine W_seq ?_; refine W_region rfl ?_; refine Wo rfl (opv_lss rfl rfl) ?_; refine Wo_nil ?_; refine W_seq ?_; refine W_cond_dec rfl (fun h1 => ?_) (fun h1 => ?_); refine W_skip ?_; refine W_seq ?_
      refine W_block ?_; refine W_seq ?_; refine W_region rfl ?_; refine Wo_get Tryz.underlying58 Tryz.sizeOf3 Tryz.isAgg3 rfl (fun _ => rfl) rfl hR E1 rfl (by first | omega | (simp <;> omega)) ?_; rintro _ _ rfl
      refine Wo rfl (opv_assign (v := .int _ _) rfl) ?_; refine Wo_nil ?_; refine W_seq ?_; refine W_region rfl ?_; refine Wo (v := vk) rfl (opv_load Tryz.isAgg58 rfl ((h5.ext E1).cell rfl)) ?_
      refine Wo rfl (opv_move (v := .int _ _) rfl) ?_; refine Wo_get_z Tryz.underlying58 Tryz.sizeOf3 Tryz.isAgg3 rfl (fun _ => rfl) rfl hK E1 rfl (by first | omega | (simp <;> omega)) ?_; rintro _ _ rfl
      refine Wo rfl (opv_move (v := .int _ _) rfl) ?_; refine Wo rfl (opv_eql rfl rfl) ?_; refine Wo_nil ?_; refine W_cond_dec rfl (fun h2 => ?_) (fun h2 => ?_); refine W_seq ?_; refine W_region rfl ?_
      refine Wo rfl (opv_move (v := .int _ _) rfl) ?_; refine Wo rfl (opv_assign (v := .int _ _) rfl) ?_; refine Wo_nil ?_; refine W_ret ?_; refine at_ret (v := .int _ _) rfl ?_; refine ⟨E1, _, rfl, ?_⟩; (try dsimp only); rotate_left
      refine W_skip ?_; refine W_region rfl ?_; refine Wo rfl (opv_add rfl rfl (by omega)) ?_; refine Wo rfl (opv_move (v := .int _ _) rfl) ?_; refine Wo_nil ?_; rotate_left; (exfalso; omega)
    · exact .inr ⟨(rf p a)[k], hgk, List.getElem_mem hlt, by rw [← hkk]; assumption⟩
    · refine ⟨(k + 1), by repeat (first | exact trivial | refine And.intro rfl ?_), by repeat (first | with_reducible exact Same.refl | refine Same.upd rfl ?_ | refine Same.upds rfl ?_ | refine Same.mix rfl ?_), ?_, ?_⟩
      · refine ⟨E1, by omega, fun y hy => ?_⟩
        rw [take_snoc _ _ hlt] at hy
        rcases List.mem_append.1 hy with hy | hy
        · exact hno y hy
        · rw [List.mem_singleton.1 hy, ← hkk]; assumption
      · omega
  · obtain rfl : k = (rf p a).length := by omega
    focus
      have szE1 := E1.size; refine W_seq ?_; refine W_region rfl ?_; refine Wo rfl (opv_lss rfl rfl) ?_; refine Wo_nil ?_; refine W_seq ?_; refine W_cond_dec rfl (fun h1 => ?_) (fun h1 => ?_); (exfalso; omega); refine W_exit ?_
      refine exitX_same ?_; refine W_seq ?_; refine W_region rfl ?_; refine Wo rfl (opv_assign (v := .int _ _) rfl) ?_; refine Wo_nil ?_; refine W_ret ?_; refine at_ret (v := .int _ _) rfl ?_; refine ⟨E1, _, rfl, ?_⟩; (try dsimp only)
    exact .inl ⟨rfl, by simpa using hno⟩

theorem joinedOf_ok (w : World) (v : Value) (p : List (List Int)) (h : ESl Ints w v p) (hp : Gr p) (a : Nat) (ha : a < p.length) : Does Tryz.prog 47 [v, .int .i64 (a : Int)] w (RetDX w XR (Cand p a)) := by
  have hp5 := hp.2.1
  have hle := h.le
  have k1 : ∀ (w : World) (v : Value), ESl Ints w v p → Does Tryz.prog 70 [v] w (RetO w XI (ints (kndL p))) := fun w v h => kindsOf_ok w v p h hp
  have k2 : ∀ (w : World) (v : Value), ESl Ints w v p → Does Tryz.prog 71 [v, .int .i64 (a : Int)] w (RetO w XI (ints (rf p a))) := fun w v h => reachedFrom_gr w v p h hp a ha
  have hrl := rf_len (p := p) (i := a)
  have hril := ints_len (rf p a)
  have hkl := ikndL_len (p := p)
  have hka : (ints (kndL p))[a]'(by omega) = (knd p a : Int) := ikndL_at _
  refine fn_of_W1 Tryz.func47 rfl Tryz.results47 Tryz.ntmps47 rfl ?_
  have stop4 : True := trivial
  have litown : True := trivial
  focus
    refine W_seq ?_; refine W_region rfl ?_; refine Wo rfl (opv_assign (v := .slice _ _ _) rfl) ?_; refine Wo_nil ?_; refine W_seq ?_; refine W_region rfl ?_; refine Wo rfl (opv_move (v := v) rfl) ?_
    refine Wo_call rfl (opc1 (a := v) Tryz.call70 rfl) (k1 _ _ (h)) ?_; rintro u1 w1 ⟨E1, hO1⟩; have ichO1 := OwnedB.isC (Owned.toB hO1); have hs1 := E1.size; refine Wo_alloc rfl Tryz.zeroValue58 rfl ?_; rintro b1 w2 hb1 E2 hB1
    have hlb1 := hB1.lt; have hs2 := E2.size; refine Wo_st (v := u1) rfl Tryz.sizeOf58 rfl rfl (OwnedB.isC (hO1.toB.ext E2)) hB1 (by decide) (by omega) (E1.trans E2) ?_; rintro w3 E3 hB1 K1 hz1
    have E4 := E2.wroteAt (E1.trans E2) E3 K1 hz1 (by omega); have szE4 := E4.size; simp only [List.set] at hB1; have hO1 := (hO1.toB.ext E2).wrote K1 (by omega); refine Wo_nil ?_; refine W_seq ?_; refine W_region rfl ?_
    refine Wo rfl (opv_move (v := v) rfl) ?_; refine Wo rfl (opv_move (v := .int _ _) rfl) ?_; refine Wo_call rfl (opc2 (a := v) (b := .int _ _) Tryz.call71 rfl rfl) (k2 _ _ ((Mono.mono E3 h))) ?_; rintro u2 w4 ⟨E5, hO2⟩
    have ichO2 := OwnedB.isC (Owned.toB hO2); have hs3 := E5.size; refine Wo_alloc rfl Tryz.zeroValue58 rfl ?_; rintro b2 w5 hb2 E6 hB2; have hlb2 := hB2.lt; have hs4 := E6.size
    refine Wo_st (v := u2) rfl Tryz.sizeOf58 rfl rfl (OwnedB.isC (hO2.toB.ext E6)) hB2 (by decide) (by omega) ((E3.trans E5).trans E6) ?_; rintro w6 E7 hB2 K2 hz2
    have E8 := ((E4.trans E5).trans E6).wroteAt ((E3.trans E5).trans E6) E7 K2 hz2 (by omega); have szE8 := E8.size; have E9 := (E5.trans E6).wroteAt ((E3.trans E5).trans E6) E7 K2 hz2 (by omega); have szE9 := E9.size
    have E10 := E6.wroteAt ((E3.trans E5).trans E6) E7 K2 hz2 (by omega); have szE10 := E10.size; simp only [List.set] at hB2; have hB1 := (hB1.ext (E5.trans E6)).of_heap (K2 _ (by omega))
    have hO1 := (hO1.ext (E5.trans E6)).wrote K2 (by omega); have hO2 := (hO2.toB.ext E6).wrote K2 (by omega); refine Wo_nil ?_; refine W_seq ?_; refine W_region rfl ?_; refine Wo rfl (opv_makeFunc rfl rfl) ?_
    refine Wo rfl (opv_assign (v := .func _ _ _) rfl) ?_; refine Wo_nil ?_; refine W_seq ?_
  clear stop4 litown
  have r1 := hO1.read
  have r2 := hO2.read
  have icu1 := OwnedB.isC hO1
  have icu2 := OwnedB.isC hO2
  clear hO1 hO2
  have kL : ∀ (w : World), Blk w b2 [u2] → Blk w b1 [u1] → Ints w u2 (ints (rf p a)) → Ints w u1 (ints (kndL p)) → Does Tryz.prog 72 [.int .i64 ((ints (kndL p))[a]'(by omega)), .pointer (some ⟨b2, 0, none⟩), .pointer (some ⟨b1, 0, none⟩)] w (RetX w (Value.int .i64) (fun z _ => ∃ r : Nat, z = (r : Int) ∧ r < p.length ∧ Rch p a r ∧ knd p r = knd p a)) := fun w h1 h2 h3 h4 => by
    refine (leastNode_ok w b2 b1 u2 u1 p hp a ha _ h1 h2 h3 h4).mono ?_
    rintro v w' ⟨E, z, rfl, hz⟩
    refine ⟨E, z, rfl, ?_⟩
    rw [hka] at hz
    rcases hz with ⟨_, hz⟩ | ⟨y, rfl, hy, hz⟩
    · exact absurd rfl (hz a ((mem_rf hp ha).2 (.refl a)))
    · have hy' := (mem_rf hp ha).1 hy
      exact ⟨y, rfl, hy'.lt hp ha, hy', by omega⟩
  have stop6 : True := trivial
  focus
    have szE10 := E10.size; have szE9 := E9.size; have szE8 := E8.size; have szE7 := E7.size; have szE6 := E6.size; have szE5 := E5.size; have szE4 := E4.size; have szE3 := E3.size; have szE2 := E2.size; have szE1 := E1.size
    refine W_region rfl ?_; refine Wo (v := u1) rfl (opv_load Tryz.isAgg58 rfl (hB1.cell rfl)) ?_; refine Wo rfl (opv_move (v := .int _ _) rfl) ?_
    refine Wo_get Tryz.underlying58 Tryz.sizeOf3 Tryz.isAgg3 rfl (fun _ => rfl) rfl r1 (Ext.refl _) rfl (by first | omega | (simp <;> omega)) ?_; rintro _ _ rfl
    refine Wo_buildSliceH (ps := [(0, .int _ _)]) (cs := [_]) rfl Tryz.underlying58 Tryz.sizeOf3 Tryz.zeroValue3 rfl rfl rfl rfl ?_; rintro b3 w7 hb3 E11 hB3 hHb3; have hlb3 := hB3.lt; have hs5 := E11.size
    refine Wo rfl (opv_assign (v := .slice _ _ _) rfl) ?_; refine Wo_nil ?_; refine W_seq ?_; refine W_region rfl ?_; refine Wo rfl (opv_move (v := .func _ _ _) rfl) ?_
    refine Wo (v := u1) rfl (opv_load Tryz.isAgg58 rfl ((hB1.ext E11).cell rfl)) ?_; refine Wo rfl (opv_move (v := .int _ _) rfl) ?_
    refine Wo_get Tryz.underlying58 Tryz.sizeOf3 Tryz.isAgg3 rfl (fun _ => rfl) rfl r1 E11 rfl (by first | omega | (simp <;> omega)) ?_; rintro _ _ rfl
    refine Wo_call rfl (opc_val1 (a := .int _ _) Tryz.call72 rfl rfl) (kL _ ((hB2.ext E11)) ((hB1.ext E11)) ((Mono.mono E11 r2)) ((Mono.mono E11 r1))) ?_; rintro _ w8 ⟨E12, y1, rfl, hy1⟩; have hs6 := E12.size
    refine Wo_buildSliceH (ps := [(0, .int _ _)]) (cs := [_]) rfl Tryz.underlying58 Tryz.sizeOf3 Tryz.zeroValue3 rfl rfl rfl rfl ?_; rintro b4 w9 hb4 E13 hB4 hHb4; have hlb4 := hB4.lt; have hs7 := E13.size
    refine Wo rfl (opv_assign (v := .slice _ _ _) rfl) ?_; refine Wo_nil ?_; refine W_seq ?_; refine W_seq ?_
  clear stop6
  obtain ⟨r, rfl, hr1, hr2, hr3⟩ := hy1
  have hA0 : Owned w6.heap.size XI w9 (.slice (some ⟨b3, 0, none⟩) 1 1) (ints ([r].map (knd p))) := by
    have := (own_lit1 hHb3 hb3).ext (by exact (E12.trans E13) : Ext w7 w9)
    rwa [hka, ← hr3] at this
  have hB0 : Owned w6.heap.size XI w9 (.slice (some ⟨b4, 0, none⟩) 1 1) (ints [r]) := own_lit1 hHb4 (by omega)
  have hApt : Apt (.slice (some ⟨b3, 0, none⟩) 1 1) (.slice (some ⟨b4, 0, none⟩) 1 1) := .inr (by simp only [Value.ownBlock, ne_eq, Option.some.injEq]; omega)
  clear hHb3 hHb4 hB3 hB4 kL k1 k2
  focus
    have szE13 := E13.size; have szE12 := E12.size; have szE11 := E11.size; have szE10 := E10.size; have szE9 := E9.size; have szE8 := E8.size; have szE7 := E7.size; have szE6 := E6.size; have szE5 := E5.size; have szE4 := E4.size
    have szE3 := E3.size; have szE2 := E2.size; have szE1 := E1.size; refine W_region rfl ?_; refine Wo (v := u2) rfl (opv_load Tryz.isAgg58 rfl ((hB2.ext ((E11.trans E12).trans E13)).cell rfl)) ?_
    refine Wo rfl (opv_len Tryz.underlying58 rfl r2) ?_; refine Wo rfl (opv_move (v := .int _ _) rfl) ?_; refine Wo_nil ?_; refine W_block ?_
  refine W_loop [8, 9, 11, 37, 38, 39, 40, 41, 42, 43, 44, 45, 46, 47, 48, 49, 50, 51, 52, 53, 54, 55, 56, 57, 58, 59] (fun ((k, ua, ub, L) : Nat × Value × Value × List Nat) => [(37, .int .i64 (k : Nat)), (8, ua), (9, ub)]) (fun (k, ua, ub, L) w' => Ext w6 w' ∧ k ≤ (rf p a).length ∧ Owned w6.heap.size XI w' ua (ints (L.map (knd p))) ∧ Owned w6.heap.size XI w' ub (ints L) ∧ Apt ua ub ∧ Fnd p a k L) (fun x => (rf p a).length - x.1) (0, .slice (some ⟨b3, 0, none⟩) 1 1, .slice (some ⟨b4, 0, none⟩) 1 1, [r]) (by repeat (first | exact trivial | refine And.intro rfl ?_)) ?_ ?_
  · exact ⟨by exact ((E11.trans E12).trans E13), Nat.zero_le _, hA0, hB0, hApt, Fnd.zero' hr2 hr3⟩
  clear hA0 hB0 hApt
  rintro ⟨k, ua, ub, L⟩ ρj w10 ⟨E14, hk, hOA, hOB, hApt, hF⟩
  have hLl := hF.len hp ha
  have hLil := ints_len L
  have hLm := ints_len (L.map (knd p))
  rw [List.length_map] at hLm
  by_cases hlt : k < (rf p a).length
  · have hrk := (mem_rf hp ha).1 (List.getElem_mem hlt) |>.lt hp ha
    have hgk : (ints (rf p a))[k]'(by omega) = ((rf p a)[k] : Int) := ints_get hlt
    have bk : ((ints (rf p a))[k]'(by omega)).toNat < (ints (kndL p)).length := by rw [hkl, hgk]; omega
    have hkk : (ints (kndL p))[((ints (rf p a))[k]'(by omega)).toNat]'bk = (knd p (rf p a)[k] : Int) := by
      simp only [hgk, Int.toNat_natCast]; exact ikndL_at _
    have kc : ∀ (b : Bool), decide (knd p (rf p a)[k] ∈ L.map (knd p)) = b → ∀ (w : World) (v : Value), Ints w v (ints (L.map (knd p))) → Does Tryz.prog 51 [v, .int .i64 ((ints (kndL p))[((ints (rf p a))[k]'(by omega)).toNat]'bk)] w (Ret w (.bool b)) := fun b e w v h => by
      have := Contains_ok w v _ h ((ints (kndL p))[((ints (rf p a))[k]'(by omega)).toNat]'bk)
      rw [show decide ((ints (kndL p))[((ints (rf p a))[k]'(by omega)).toNat]'bk ∈ ints (L.map (knd p))) = b by rw [← e, decide_eq_decide, hkk]; exact mem_ints] at this
      exact this
    by_cases hm : knd p (rf p a)[k] ∈ L.map (knd p)
    · have kc' := kc true (decide_eq_true hm)
      clear kc
      focus
        have szE14 := E14.size; have szE13 := E13.size; have szE12 := E12.size; have szE11 := E11.size; have szE10 := E10.size; have szE9 := E9.size; have szE8 := E8.size; have szE7 := E7.size; have szE6 := E6.size; have szE5 := E5.size
        have szE4 := E4.size; have szE3 := E3.size; have szE2 := E2.size; have szE1 := E1.size; refine W_seq ?_; refine W_region rfl ?_; refine Wo rfl (opv_lss rfl rfl) ?_; refine Wo_nil ?_; refine W_seq ?_
        refine W_cond_dec rfl (fun h1 => ?_) (fun h1 => ?_); refine W_skip ?_; refine W_seq ?_; refine W_block ?_; refine W_seq ?_; refine W_region rfl ?_
        refine Wo_get Tryz.underlying58 Tryz.sizeOf3 Tryz.isAgg3 rfl (fun _ => rfl) rfl r2 E14 rfl (by first | omega | (simp <;> omega)) ?_; rintro _ _ rfl; refine Wo rfl (opv_assign (v := .int _ _) rfl) ?_; refine Wo_nil ?_
        refine W_seq ?_; refine W_region rfl ?_; refine Wo rfl (opv_move (v := ua) rfl) ?_; refine Wo (v := u1) rfl (opv_load Tryz.isAgg58 rfl ((hB1.ext E14).cell rfl)) ?_; refine Wo rfl (opv_move (v := .int _ _) rfl) ?_
        refine Wo_get_z Tryz.underlying58 Tryz.sizeOf3 Tryz.isAgg3 rfl (fun _ => rfl) rfl r1 E14 rfl (by first | omega | (simp <;> omega)) ?_; rintro _ _ rfl
        refine Wo_call rfl (opc2 (a := ua) (b := .int _ _) Tryz.call51 rfl rfl) (kc' _ _ ((Owned.read hOA))) ?_; rintro _ w11 ⟨rfl, E15⟩; have hs8 := E15.size; refine Wo rfl (opv_not rfl) ?_; refine Wo_nil ?_
        refine W_cond rfl (fun h2 => ?_) (fun h2 => ?_); contradiction; refine W_skip ?_; refine W_region rfl ?_; refine Wo rfl (opv_add rfl rfl (by omega)) ?_; refine Wo rfl (opv_move (v := .int _ _) rfl) ?_; refine Wo_nil ?_; rotate_left
        (exfalso; omega)
      refine ⟨((k + 1, ua, ub, L)), by repeat (first | exact trivial | refine And.intro rfl ?_), by repeat (first | with_reducible exact Same.refl | refine Same.upd rfl ?_ | refine Same.upds rfl ?_ | refine Same.mix rfl ?_), ?_, ?_⟩
      · exact ⟨by exact (E14.trans E15), by omega, by exact (Mono.mono E15 hOA), by exact (Mono.mono E15 hOB), hApt, hF.skip hlt hm⟩
      · simp only; omega
    · have kc' := kc false (decide_eq_false hm)
      clear kc
      have stop11 : True := trivial
      focus
        have szE14 := E14.size; have szE13 := E13.size; have szE12 := E12.size; have szE11 := E11.size; have szE10 := E10.size; have szE9 := E9.size; have szE8 := E8.size; have szE7 := E7.size; have szE6 := E6.size; have szE5 := E5.size
        have szE4 := E4.size; have szE3 := E3.size; have szE2 := E2.size; have szE1 := E1.size; refine W_seq ?_; refine W_region rfl ?_; refine Wo rfl (opv_lss rfl rfl) ?_; refine Wo_nil ?_; refine W_seq ?_
        refine W_cond_dec rfl (fun h1 => ?_) (fun h1 => ?_); refine W_skip ?_; refine W_seq ?_; refine W_block ?_; refine W_seq ?_; refine W_region rfl ?_
        refine Wo_get Tryz.underlying58 Tryz.sizeOf3 Tryz.isAgg3 rfl (fun _ => rfl) rfl r2 E14 rfl (by first | omega | (simp <;> omega)) ?_; rintro _ _ rfl; refine Wo rfl (opv_assign (v := .int _ _) rfl) ?_; refine Wo_nil ?_
        refine W_seq ?_; refine W_region rfl ?_; refine Wo rfl (opv_move (v := ua) rfl) ?_; refine Wo (v := u1) rfl (opv_load Tryz.isAgg58 rfl ((hB1.ext E14).cell rfl)) ?_; refine Wo rfl (opv_move (v := .int _ _) rfl) ?_
        refine Wo_get_z Tryz.underlying58 Tryz.sizeOf3 Tryz.isAgg3 rfl (fun _ => rfl) rfl r1 E14 rfl (by first | omega | (simp <;> omega)) ?_; rintro _ _ rfl
        refine Wo_call rfl (opc2 (a := ua) (b := .int _ _) Tryz.call51 rfl rfl) (kc' _ _ ((Owned.read hOA))) ?_; rintro _ w11 ⟨rfl, E15⟩; have hs8 := E15.size; refine Wo rfl (opv_not rfl) ?_; refine Wo_nil ?_
        refine W_cond rfl (fun h2 => ?_) (fun h2 => ?_); refine W_seq ?_; refine W_region rfl ?_; refine Wo rfl (opv_move (v := ua) rfl) ?_; refine Wo (v := u1) rfl (opv_load Tryz.isAgg58 rfl ((hB1.ext (E14.trans E15)).cell rfl)) ?_
        refine Wo rfl (opv_move (v := .int _ _) rfl) ?_; refine Wo_get_z Tryz.underlying58 Tryz.sizeOf3 Tryz.isAgg3 rfl (fun _ => rfl) rfl r1 (E14.trans E15) rfl (by first | omega | (simp <;> omega)) ?_; rintro _ _ rfl
        refine Wo_buildSliceH (ps := [(0, .int _ _)]) (cs := [_]) rfl Tryz.underlying58 Tryz.sizeOf3 Tryz.zeroValue3 rfl rfl rfl rfl ?_; rintro b5 w12 hb5 E16 hB3 hHb5; have hlb5 := hB3.lt; have hs9 := E16.size
        refine Wo_app1 rfl el58 rfl rfl hB3 (hOA.toB.ext (E15.trans E16)) Owned.int (Nat.le_refl _) (by first | omega | (simp <;> omega)) (by omega) (by omega) (((E7.trans E14).trans E15).trans E16) (by omega) ?_
        have hT1 := (hOA.toB.ext (E15.trans E16)); rintro v1 w13 hOA E17 M1; have E18 := M1.ext hT1 (((E8.trans E14).trans E15).trans E16) (by omega); have szE18 := E18.size
        have E19 := M1.ext hT1 (((E9.trans E14).trans E15).trans E16) (by omega); have szE19 := E19.size; have E20 := M1.ext hT1 (((E10.trans E14).trans E15).trans E16) (by omega); have szE20 := E20.size
        have E21 := M1.ext hT1 ((E14.trans E15).trans E16) (by omega); have szE21 := E21.size; have hO1 := (hO1.ext (((E9.trans E14).trans E15).trans E16)).moves M1 hT1 (by omega)
        have hO2 := (hO2.toB.ext (((E10.trans E14).trans E15).trans E16)).moves M1 hT1 (by omega); have hB2 := (hB2.ext ((E14.trans E15).trans E16)).moves M1 hT1 (by omega)
        have hB1 := (hB1.ext ((E14.trans E15).trans E16)).moves M1 hT1 (by omega); have hB3 := hB3.moves M1 hT1 (by omega); have hs10 := E17.size; refine Wo rfl (opv_assign (v := v1) rfl) ?_; refine Wo_nil ?_; rotate_left; contradiction
        (exfalso; omega)
      clear stop11
      obtain ⟨hOB', hApt'⟩ := XI_moves (m := M1) (h := hApt) (hB := hOB.ext (by exact (E15.trans E16)))
      focus
        have szE21 := E21.size; have szE20 := E20.size; have szE19 := E19.size; have szE18 := E18.size; have szE17 := E17.size; have szE16 := E16.size; have szE15 := E15.size; have szE14 := E14.size; have szE13 := E13.size
        have szE12 := E12.size; have szE11 := E11.size; have szE10 := E10.size; have szE9 := E9.size; have szE8 := E8.size; have szE7 := E7.size; have szE6 := E6.size; have szE5 := E5.size; have szE4 := E4.size; have szE3 := E3.size
        have szE2 := E2.size; have szE1 := E1.size; refine W_region rfl ?_; refine Wo rfl (opv_move (v := ub) rfl) ?_; refine Wo rfl (opv_move (v := .int _ _) rfl) ?_
        refine Wo_buildSliceH (ps := [(0, .int _ _)]) (cs := [_]) rfl Tryz.underlying58 Tryz.sizeOf3 Tryz.zeroValue3 rfl rfl rfl rfl ?_; rintro b6 w14 hb6 E22 hB4 hHb6; have hlb6 := hB4.lt; have hs11 := E22.size
        refine Wo_app1 rfl el58 rfl rfl hB4 (hOB'.toB.ext E22) Owned.int (Nat.le_refl _) (by first | omega | (simp <;> omega)) (by omega) (by omega) (E17.trans E22) (by omega) ?_; have hT2 := (hOB'.toB.ext E22); rintro v2 w15 hOB' E23 M2
        have E24 := M2.ext hT2 (E18.trans E22) (by omega); have szE24 := E24.size; have E25 := M2.ext hT2 (E19.trans E22) (by omega); have szE25 := E25.size; have E26 := M2.ext hT2 (E20.trans E22) (by omega); have szE26 := E26.size
        have E27 := M2.ext hT2 (E21.trans E22) (by omega); have szE27 := E27.size; have hO1 := (hO1.ext E22).moves M2 hT2 (by omega); have hO2 := (hO2.ext E22).moves M2 hT2 (by omega); have hB2 := (hB2.ext E22).moves M2 hT2 (by omega)
        have hB1 := (hB1.ext E22).moves M2 hT2 (by omega); have hB4 := hB4.moves M2 hT2 (by omega); have hs12 := E23.size; refine Wo rfl (opv_assign (v := v2) rfl) ?_; refine Wo_nil ?_; refine W_region rfl ?_
        refine Wo rfl (opv_add rfl rfl (by omega)) ?_; refine Wo rfl (opv_move (v := .int _ _) rfl) ?_; refine Wo_nil ?_
      obtain ⟨hOA', hApt2⟩ := XI_moves (m := M2) (h := hApt'.symm) (hB := hOA.ext (by exact E22))
      refine ⟨((k + 1, v1, v2, L ++ [(rf p a)[k]])), by repeat (first | exact trivial | refine And.intro rfl ?_), by repeat (first | with_reducible exact Same.refl | refine Same.upd rfl ?_ | refine Same.upds rfl ?_ | refine Same.mix rfl ?_), ?_, ?_⟩
      · refine ⟨by exact E27, by omega, ?_, ?_, hApt2.symm, hF.step hp ha hlt hm⟩
        · rw [List.map_append, ints_append, show ints ([(rf p a)[k]].map (knd p)) = [(ints (kndL p))[((ints (rf p a))[k]'(by omega)).toNat]'bk] by rw [hkk]; rfl]
          exact hOA'
        · rw [ints_append, show ints [(rf p a)[k]] = [(ints (rf p a))[k]'(by omega)] by rw [hgk]; rfl]
          exact hOB'
      · simp only; omega
  · have hK := hF.kds hp ha (by omega)
    have hL0 : 0 < L.length := by have := hF.hd; cases L <;> simp_all
    have rA := hOA.read
    have rB := hOB.read
    clear hOA hOB hApt
    obtain ⟨K, hKe⟩ : ∃ K, K = L.map (knd p) := ⟨_, rfl⟩
    have hKL : K.length = L.length := by rw [hKe]; simp
    rw [← hKe] at hK rA hLm
    have hql := qp_len (p := p) (L := K)
    have hem : ∀ w, Does Tryz.prog 73 [.int .i64 ((ints K).length : Int)] w (RetO w XR (fq (qp p K) L.length 0)) := fun w => by
      have := emptyPicture_ok w L.length (by omega)
      rw [show ((ints K).length : Int) = (L.length : Int) by rw [hLm], show fq (qp p K) L.length 0 = List.replicate L.length (List.replicate L.length 0) by simp [fq]]
      exact this
    have hq0 := fq_len (Q := qp p K) (n := L.length) (i := 0) (by omega) (by omega)
    focus
      have szE14 := E14.size; have szE13 := E13.size; have szE12 := E12.size; have szE11 := E11.size; have szE10 := E10.size; have szE9 := E9.size; have szE8 := E8.size; have szE7 := E7.size; have szE6 := E6.size; have szE5 := E5.size
      have szE4 := E4.size; have szE3 := E3.size; have szE2 := E2.size; have szE1 := E1.size; refine W_seq ?_; refine W_region rfl ?_; refine Wo rfl (opv_lss rfl rfl) ?_; refine Wo_nil ?_; refine W_seq ?_
      refine W_cond_dec rfl (fun h1 => ?_) (fun h1 => ?_); (exfalso; omega); refine W_exit ?_; refine exitX_same ?_; refine W_seq ?_; refine W_region rfl ?_; refine Wo rfl (opv_move (v := ua) rfl) ?_
      refine Wo rfl (opv_len Tryz.underlying58 rfl rA) ?_; refine Wo_call rfl (opc1 (a := .int _ _) Tryz.call73 rfl) (hem _) ?_; rintro u3 w11 ⟨E15, hO3⟩; have hs8 := E15.size; refine Wo rfl (opv_assign (v := u3) rfl) ?_; refine Wo_nil ?_
      refine W_seq ?_; refine W_seq ?_; refine W_region rfl ?_; refine Wo rfl (opv_move (v := ub) rfl) ?_; refine Wo rfl (opv_len Tryz.underlying58 rfl rB) ?_; refine Wo rfl (opv_move (v := .int _ _) rfl) ?_; refine Wo_nil ?_
      refine W_block ?_
    obtain ⟨ob, oc, rfl, _⟩ := hO3.lit (by omega)
    refine W_loop [13, 14, 16, 65, 66, 67, 68, 69, 70, 71, 72, 73, 74, 75, 76, 77, 78, 79, 80, 81, 82, 83, 84, 85, 86, 87, 88, 89, 90] (fun (i : Nat) => [(65, .int .i64 (i : Nat))]) (fun i w' => Ext w10 w' ∧ i ≤ L.length ∧ Owned w10.heap.size XR w' (.slice (some ⟨ob, 0, none⟩) (fq (qp p K) L.length 0).length oc) (fq (qp p K) L.length i)) (fun x => L.length - x) 0 (by repeat (first | exact trivial | refine And.intro rfl ?_)) ?_ ?_
    · exact ⟨by exact E15, Nat.zero_le _, hO3⟩
    clear hO3
    rintro i ρk w12 ⟨E20, hi, hO3⟩
    by_cases hil : i < L.length
    · have hgi : (ints L)[i]'(by omega) = (L[i] : Int) := ints_get hil
      have hLi := hF.lt hp ha (List.getElem_mem hil)
      have hki : knd p L[i] = K[i]'(by omega) := by simp only [hKe, List.getElem_map]
      have hali : (arr p L[i]).length ≤ 11 := by
        have h8 := arrR_len (p.getD L[i] [])
        rw [getD_lt hLi, hp.row hLi] at h8
        unfold arr; rw [getD_lt hLi]; omega
      have harl := ints_len (arr p L[i])
      have ka : ∀ (w : World) (v : Value), ESl Ints w v p → Does Tryz.prog 74 [v, .int .i64 ((ints L)[i]'(by omega))] w (RetO w XI (ints (arr p L[i]))) := fun w v h => by
        rw [hgi]
        exact arrowsOf_ok w v p h (L[i] : Int) ⟨by omega, by omega⟩ (by rw [getD_lt (by simpa using hLi), hp.row (by simpa using hLi)]; omega)
      have hli := fq_len (Q := qp p K) (n := L.length) (i := i) (by omega) (by omega)
      have hat := fq_at (Q := qp p K) (n := L.length) (i := i) (by omega) (by omega)
      have hrq : (fq (qp p K) L.length i)[i].length = L.length := by rw [hat]; simp
      obtain ⟨br, cr, hR, hb1', hb2'⟩ := hO3.rowAt (i := i) (by omega) (by omega)
      focus
        have szE20 := E20.size; have szE15 := E15.size; have szE14 := E14.size; have szE13 := E13.size; have szE12 := E12.size; have szE11 := E11.size; have szE10 := E10.size; have szE9 := E9.size; have szE8 := E8.size; have szE7 := E7.size
        have szE6 := E6.size; have szE5 := E5.size; have szE4 := E4.size; have szE3 := E3.size; have szE2 := E2.size; have szE1 := E1.size; refine W_seq ?_; refine W_region rfl ?_; refine Wo rfl (opv_lss rfl rfl) ?_; refine Wo_nil ?_
        refine W_seq ?_; refine W_cond_dec rfl (fun h2 => ?_) (fun h2 => ?_); refine W_skip ?_; refine W_seq ?_; refine W_block ?_; refine W_seq ?_; refine W_region rfl ?_; refine Wo rfl (opv_move (v := .int _ _) rfl) ?_
        refine Wo_get Tryz.underlying58 Tryz.sizeOf3 Tryz.isAgg3 rfl (fun _ => rfl) rfl rB E20 rfl (by first | omega | (simp <;> omega)) ?_; rintro _ _ rfl; refine Wo rfl (opv_assign (v := .int _ _) rfl) ?_
        refine Wo rfl (opv_assign (v := .int _ _) rfl) ?_; refine Wo_nil ?_; refine W_seq ?_; refine W_region rfl ?_; refine Wo rfl (opv_move (v := v) rfl) ?_; refine Wo rfl (opv_move (v := .int _ _) rfl) ?_
        refine Wo_call rfl (opc2 (a := v) (b := .int _ _) Tryz.call74 rfl rfl) (ka _ _ ((Mono.mono ((E7.trans E14).trans E20) h))) ?_; rintro u3 w13 ⟨E16, hO4⟩; have hs9 := E16.size
        refine Wo rfl (opv_len Tryz.underlying58 rfl (Owned.read hO4)) ?_; refine Wo rfl (opv_move (v := .int _ _) rfl) ?_; refine Wo_nil ?_; refine W_block ?_; rotate_left; (exfalso; omega)
      refine W_loop [16, 74, 75, 76, 77, 78, 79, 80, 81, 82, 83, 84, 85, 86, 87, 88, 89] (fun ((t, rows) : Nat × List (List Int)) => [(74, .int .i64 (t : Int))]) (fun (t, rows) w' => Ext w10 w' ∧ w13.heap.size ≤ w'.heap.size ∧ t ≤ (arr p L[i]).length ∧ Owned w10.heap.size XR w' (.slice (some ⟨ob, 0, none⟩) (fq (qp p K) L.length 0).length oc) rows ∧ RowAt w' (.slice (some ⟨ob, 0, none⟩) (fq (qp p K) L.length 0).length oc) i br (fq (qp p K) L.length i)[i].length cr ∧ rows = (fq (qp p K) L.length i).set i (krow p K ((arr p L[i]).take t)) ∧ OwnedB w12.heap.size w13.heap.size XI w' u3 (ints (arr p L[i]))) (fun x => (arr p L[i]).length - x.1) (0, fq (qp p K) L.length i) (by repeat (first | exact trivial | refine And.intro rfl ?_)) ?_ ?_
      · refine ⟨by exact (E20.trans E16), by omega, Nat.zero_le _, by exact (Mono.mono E16 hO3), by exact (hR.ext E16), ?_, by exact hO4.toB⟩
        rw [show krow p K ((arr p L[i]).take 0) = (fq (qp p K) L.length i)[i] by rw [hat, List.take_zero, krow_none, hKL]]
        simp
      clear hO3 hO4 hR
      rintro ⟨t, rows⟩ ρl w14 ⟨E21, hs14, ht, hO3, hR, hrw, hO4⟩
      have hrl : rows.length = L.length := by rw [hrw]; simp; omega
      have hKr := krow_len (p := p) (K := K) (l := (arr p L[i]).take t)
      have hri : rows[i]'(by omega) = krow p K ((arr p L[i]).take t) := by simp only [hrw, List.getElem_set_self]
      have hrll : (rows[i]'(by omega)).length = L.length := by rw [hri]; omega
      by_cases htl : t < (arr p L[i]).length
      · have hgt : (ints (arr p L[i]))[t]'(by omega) = ((arr p L[i])[t] : Int) := ints_get htl
        have hxm := List.getElem_mem htl
        have hxl := arr_lt hp hLi hxm
        have bx : ((ints (arr p L[i]))[t]'(by omega)).toNat < (ints (kndL p)).length := by rw [hkl, hgt]; omega
        have hkx : (ints (kndL p))[((ints (arr p L[i]))[t]'(by omega)).toNat]'bx = (knd p (arr p L[i])[t] : Int) := by
          simp only [hgt, Int.toNat_natCast]; exact ikndL_at _
        have hin : knd p (arr p L[i])[t] ∈ K := (hK.2.2 _).2 ⟨_, (hF.rc _ (List.getElem_mem hil)).step hxm, rfl⟩
        obtain ⟨m, hm, hme⟩ := List.mem_iff_getElem.1 hin
        have kI : ∀ (w : World) (v : Value), Ints w v (ints K) → Does Tryz.prog 75 [v, .int .i64 ((ints (kndL p))[((ints (arr p L[i]))[t]'(by omega)).toNat]'bx)] w (Ret w (.int .i64 (m : Int))) := fun w v h => by
          refine (IndexAt_ok w v _ h _).mono ?_
          rintro v' w' ⟨E, z, rfl, hz⟩
          refine ⟨?_, E⟩
          rw [hkx] at hz
          rcases hz with ⟨_, hz⟩ | ⟨j, hj, rfl, hz, _⟩
          · exact absurd (mem_ints.2 hin) hz
          · rw [ints_len] at hj
            rw [ints_get hj] at hz
            have e : K[j] = K[m] := by omega
            rw [(List.getElem_inj hK.1).1 e]
        have hcell := rowAt_cell hR
        have heldS : w10 = w10 := rfl
        focus
          have szE21 := E21.size; have szE16 := E16.size; have szE20 := E20.size; have szE15 := E15.size; have szE14 := E14.size; have szE13 := E13.size; have szE12 := E12.size; have szE11 := E11.size; have szE10 := E10.size
          have szE9 := E9.size; have szE8 := E8.size; have szE7 := E7.size; have szE6 := E6.size; have szE5 := E5.size; have szE4 := E4.size; have szE3 := E3.size; have szE2 := E2.size; have szE1 := E1.size; refine W_seq ?_
          refine W_region rfl ?_; refine Wo rfl (opv_lss rfl rfl) ?_; refine Wo_nil ?_; refine W_seq ?_; refine W_cond_dec rfl (fun h3 => ?_) (fun h3 => ?_); refine W_skip ?_; refine W_seq ?_; refine W_block ?_; refine W_seq ?_
          refine W_region rfl ?_; refine Wo_get Tryz.underlying58 Tryz.sizeOf3 Tryz.isAgg3 rfl (fun _ => rfl) rfl (OwnedB.read hO4) (Ext.refl _) rfl (by first | omega | (simp <;> omega)) ?_; rintro _ _ rfl
          refine Wo rfl (opv_assign (v := .int _ _) rfl) ?_; refine Wo_nil ?_; refine W_held (fun w' => Ext w10 w') mixed rfl (by kernel_rfl) ?_; intro w15 E17 K3 hz3; have hs10 := E17.size
          refine Wh_take 0 rfl (by kernel_rfl) (by kernel_rfl) rfl (fun _ _ => opv_move (v := .slice _ _ _) rfl) (E21.trans E17) ?_
          refine Wh_take 1 rfl (by kernel_rfl) (by kernel_rfl) rfl (fun _ _ => opv_move (v := .int _ _) rfl) (E21.trans E17) ?_
          refine Wh_take 2 rfl (by kernel_rfl) (by kernel_rfl) rfl (fun _ _ => opv_indexAddr Tryz.underlying22 Tryz.sizeOf58 rfl rfl (by omega)) (E21.trans E17) ?_
          refine Wh_take 4 rfl (by kernel_rfl) (by kernel_rfl) rfl (fun _ _ => opv_move (v := ua) rfl) (E21.trans E17) ?_
          refine Wh_take (v := u1) 5 rfl (by kernel_rfl) (by kernel_rfl) rfl (fun w' hw' => opv_load Tryz.isAgg58 rfl ((hB1.ext (E14.trans hw')).cell rfl)) (E21.trans E17) ?_
          refine Wh_take 6 rfl (by kernel_rfl) (by kernel_rfl) rfl (fun _ _ => opv_move (v := .int _ _) rfl) (E21.trans E17) ?_
          refine Wh_get_z 7 8 rfl (by kernel_rfl) (by kernel_rfl) rfl rfl (by kernel_rfl) (by kernel_rfl) (fun _ => rfl) Tryz.underlying58 Tryz.sizeOf3 Tryz.isAgg3 rfl r1 (fun w' hw' => Ext.trans E14 hw') rfl (by first | omega | (simp <;> omega)) (E21.trans E17) ?_
          rintro _ _ rfl; refine Wh_all (rs := [3, 9]) (by kernel_rfl) rfl ?_; refine WhAll_cons rfl ?_ ?_; refine Wo rfl (opv_load Tryz.isAgg58 rfl (E17.cell hcell)) ?_; refine Wo_nil ?_; refine ⟨(E21.trans E17), ?_⟩
          refine Wh_all (rs := [9]) (by kernel_rfl) rfl ?_; refine WhAll_cons rfl ?_ ?_; refine Wo_call rfl (opc2 (a := ua) (b := .int _ _) Tryz.call75 rfl rfl) (kI _ _ ((Mono.mono (E21.trans E17) rA))) ?_; rintro _ w16 ⟨rfl, E18⟩
          have hs11 := E18.size; refine Wo_nil ?_; refine ⟨((E21.trans E17).trans E18), ?_⟩
          refine Wh_take 10 rfl (by kernel_rfl) (by kernel_rfl) rfl (fun _ _ => opv_indexAddr Tryz.underlying58 Tryz.sizeOf3 rfl rfl (by omega)) ((E21.trans E17).trans E18) ?_; refine Wh_all (rs := [11]) (by kernel_rfl) rfl ?_
          refine WhAll_cons rfl ?_ ?_; refine Wo_gset rfl Tryz.sizeOf3 rfl rfl (hO3.toB.ext (E17.trans E18)) (hR.ext (E17.trans E18)) (by first | omega | (simp <;> omega)) (by first | omega | (simp <;> omega)) ?_; rintro w17 hO3 hR On1 K4 hz4
          have E19 := On1.ext1 ((((E7.trans E14).trans E21).trans E17).trans E18) (by omega); have E22 := On1.ext1 ((((E8.trans E14).trans E21).trans E17).trans E18) (by omega); have szE22 := E22.size
          have E23 := On1.ext1 ((((E9.trans E14).trans E21).trans E17).trans E18) (by omega); have szE23 := E23.size; have E24 := On1.ext1 ((((E10.trans E14).trans E21).trans E17).trans E18) (by omega); have szE24 := E24.size
          have E25 := On1.ext1 (((E14.trans E21).trans E17).trans E18) (by omega); have szE25 := E25.size; have E26 := On1.ext1 ((E21.trans E17).trans E18) (by omega); have szE26 := E26.size
          have hO1 := (hO1.ext ((((E9.trans E14).trans E21).trans E17).trans E18)).wrote K4 (by omega); have hO2 := (hO2.toB.ext ((((E10.trans E14).trans E21).trans E17).trans E18)).wrote K4 (by omega)
          have hB2 := (hB2.ext (((E14.trans E21).trans E17).trans E18)).of_heap (K4 _ (by omega)); have hB1 := (hB1.ext (((E14.trans E21).trans E17).trans E18)).of_heap (K4 _ (by omega))
          have hO4 := (hO4.ext (E17.trans E18)).wrote K4 (by omega); have hs12 := On1.size; refine Wo_nil ?_; refine ⟨E26, ?_⟩; refine Wh_done (by kernel_rfl) ?_; refine W_region rfl ?_; refine Wo rfl (opv_add rfl rfl (by omega)) ?_
          refine Wo rfl (opv_move (v := .int _ _) rfl) ?_; refine Wo_nil ?_; rotate_left; exact WhAll_nil; exact WhAll_nil; refine WhAll_cons rfl ?_ ?_
          refine Wo_call rfl (opc2 (a := ua) (b := .int _ _) Tryz.call75 rfl rfl) (kI _ _ ((Mono.mono (E21.trans E17) rA))) ?_; rintro _ w16 ⟨rfl, E18⟩; have hs11 := E18.size; refine Wo_nil ?_; refine ⟨((E21.trans E17).trans E18), ?_⟩
          refine Wh_all (rs := [3]) (by kernel_rfl) rfl ?_; refine WhAll_cons rfl ?_ ?_; refine Wo rfl (opv_load Tryz.isAgg58 rfl ((E17.trans E18).cell hcell)) ?_; refine Wo_nil ?_; refine ⟨((E21.trans E17).trans E18), ?_⟩
          refine Wh_take 10 rfl (by kernel_rfl) (by kernel_rfl) rfl (fun _ _ => opv_indexAddr Tryz.underlying58 Tryz.sizeOf3 rfl rfl (by omega)) ((E21.trans E17).trans E18) ?_; refine Wh_all (rs := [11]) (by kernel_rfl) rfl ?_
          refine WhAll_cons rfl ?_ ?_; refine Wo_gset rfl Tryz.sizeOf3 rfl rfl (hO3.toB.ext (E17.trans E18)) (hR.ext (E17.trans E18)) (by first | omega | (simp <;> omega)) (by first | omega | (simp <;> omega)) ?_; rintro w17 hO3 hR On1 K4 hz4
          have E19 := On1.ext1 ((((E7.trans E14).trans E21).trans E17).trans E18) (by omega); have E22 := On1.ext1 ((((E8.trans E14).trans E21).trans E17).trans E18) (by omega); have szE22 := E22.size
          have E23 := On1.ext1 ((((E9.trans E14).trans E21).trans E17).trans E18) (by omega); have szE23 := E23.size; have E24 := On1.ext1 ((((E10.trans E14).trans E21).trans E17).trans E18) (by omega); have szE24 := E24.size
          have E25 := On1.ext1 (((E14.trans E21).trans E17).trans E18) (by omega); have szE25 := E25.size; have E26 := On1.ext1 ((E21.trans E17).trans E18) (by omega); have szE26 := E26.size
          have hO1 := (hO1.ext ((((E9.trans E14).trans E21).trans E17).trans E18)).wrote K4 (by omega); have hO2 := (hO2.toB.ext ((((E10.trans E14).trans E21).trans E17).trans E18)).wrote K4 (by omega)
          have hB2 := (hB2.ext (((E14.trans E21).trans E17).trans E18)).of_heap (K4 _ (by omega)); have hB1 := (hB1.ext (((E14.trans E21).trans E17).trans E18)).of_heap (K4 _ (by omega))
          have hO4 := (hO4.ext (E17.trans E18)).wrote K4 (by omega); have hs12 := On1.size; refine Wo_nil ?_; refine ⟨E26, ?_⟩; refine Wh_done (by kernel_rfl) ?_; refine W_region rfl ?_; refine Wo rfl (opv_add rfl rfl (by omega)) ?_
          refine Wo rfl (opv_move (v := .int _ _) rfl) ?_; refine Wo_nil ?_; rotate_left; exact WhAll_nil; exact WhAll_nil; exact WhAll_nil; (exfalso; omega)
        all_goals refine ⟨(t + 1, rows.set i (rows[i].set m 1)), by repeat (first | exact trivial | refine And.intro rfl ?_), by repeat (first | with_reducible exact Same.refl | refine Same.upd rfl ?_ | refine Same.upds rfl ?_ | refine Same.mix rfl ?_), ⟨E26, by omega, by omega, hO3, hR, row_next hrw (by omega) ?_, hO4⟩, by simp only; omega⟩
        all_goals rw [hri, krow_step hK.1 hm hme.symm, ← take_snoc]
      · obtain rfl : t = (arr p L[i]).length := by omega
        focus
          have szE21 := E21.size; have szE16 := E16.size; have szE20 := E20.size; have szE15 := E15.size; have szE14 := E14.size; have szE13 := E13.size; have szE12 := E12.size; have szE11 := E11.size; have szE10 := E10.size
          have szE9 := E9.size; have szE8 := E8.size; have szE7 := E7.size; have szE6 := E6.size; have szE5 := E5.size; have szE4 := E4.size; have szE3 := E3.size; have szE2 := E2.size; have szE1 := E1.size; refine W_seq ?_
          refine W_region rfl ?_; refine Wo rfl (opv_lss rfl rfl) ?_; refine Wo_nil ?_; refine W_seq ?_; refine W_cond_dec rfl (fun h3 => ?_) (fun h3 => ?_); (exfalso; omega); refine W_exit ?_; refine exitX_same ?_; refine W_region rfl ?_
          refine Wo rfl (opv_add rfl rfl (by omega)) ?_; refine Wo rfl (opv_move (v := .int _ _) rfl) ?_; refine Wo_nil ?_
        refine ⟨(i + 1), by repeat (first | exact trivial | refine And.intro rfl ?_), by repeat (first | with_reducible exact Same.refl | refine Same.upd rfl ?_ | refine Same.upds rfl ?_ | refine Same.mix rfl ?_), ?_, ?_⟩
        · refine ⟨by exact E21, by omega, ?_⟩
          rw [List.take_length] at hrw
          rw [← fq_set (Q := qp p K) (n := L.length) (i := i) (by omega) (by omega) (krow_qp hp hLi (by omega) hki (fun x hx => hK.lt hp ha hx) (fun x hx => hK.kk hp ha hx)).symm, ← hrw]
          exact hO3
        · omega
    · obtain rfl : i = L.length := by omega
      focus
        have szE20 := E20.size; have szE15 := E15.size; have szE14 := E14.size; have szE13 := E13.size; have szE12 := E12.size; have szE11 := E11.size; have szE10 := E10.size; have szE9 := E9.size; have szE8 := E8.size; have szE7 := E7.size
        have szE6 := E6.size; have szE5 := E5.size; have szE4 := E4.size; have szE3 := E3.size; have szE2 := E2.size; have szE1 := E1.size; refine W_seq ?_; refine W_region rfl ?_; refine Wo rfl (opv_lss rfl rfl) ?_; refine Wo_nil ?_
        refine W_seq ?_; refine W_cond_dec rfl (fun h2 => ?_) (fun h2 => ?_); (exfalso; omega); refine W_exit ?_; refine exitX_same ?_; refine W_seq ?_; refine W_region rfl ?_; refine Wo rfl (opv_move (v := .slice _ _ _) rfl) ?_
        refine Wo rfl (opv_assign (v := .slice _ _ _) rfl) ?_; refine Wo_nil ?_; refine W_ret ?_; refine at_ret (v := .slice _ _ _) rfl ?_
      refine ⟨_, by exact ((E7.trans E14).trans E20), hO3.mono (by omega), ?_⟩
      rw [fq_all (by omega)]
      exact ⟨K, hK, rfl⟩

end Go.Proofs.YtgphoihilheoeaaGreatDoor
set_option linter.unusedVariables false
set_option linter.unusedSimpArgs false
namespace Go.Hs
/-- the row that a text of numbers tells -/
def rowB (n : Nat) (l : List UInt8) : List Int := (List.range n).map fun i => if l.any fun c => decide (c.toNat = 48 + i) then 1 else 0
def rdM (s : List UInt8) : List (List Int) := (cutB 47 s).map (rowB (cutB 47 s).length)
/-- each byte is a number below n -/
def inR (n : Nat) (l : List UInt8) : Prop := ∀ c ∈ l, 48 ≤ c.toNat ∧ c.toNat < 48 + n
section
variable {n a : Nat} {l : List UInt8} {r : List Int} {s : List UInt8} {p : List (List Int)}
theorem rowB_len : (rowB n l).length = n := by simp [rowB]
theorem rowB_nil : rowB n [] = List.replicate n 0 := by
  simp only [rowB, List.any_nil, Bool.false_eq_true, if_false]
  apply List.ext_getElem <;> simp
theorem rowB_get (h : a < n) : (rowB n l)[a]'(by rw [rowB_len]; exact h) = if l.any (fun c => decide (c.toNat = 48 + a)) then 1 else 0 := by simp [rowB]
theorem rowB_set {c : UInt8} (hc : c.toNat = 48 + a) (ha : a < n) : (rowB n l).set a 1 = rowB n (l ++ [c]) := by
  apply List.ext_getElem
  · simp [rowB_len]
  · intro i h1 h2
    rw [rowB_len] at h2
    rw [List.getElem_set]
    by_cases e : a = i
    · subst e
      rw [if_pos rfl, rowB_get h2, if_pos]
      simp [hc]
    · rw [if_neg e, rowB_get h2, rowB_get h2]
      have : (decide (c.toNat = 48 + i)) = false := decide_eq_false (by omega)
      simp [List.any_append, this]
theorem rowB_txR (hl : r.length = n) (hn : n ≤ 100) (h1 : ∀ x ∈ r, x = 0 ∨ x = 1) : rowB n (txR r) = r := by
  apply List.ext_getElem
  · rw [rowB_len, hl]
  · intro i hi h2
    rw [rowB_len] at hi
    rw [rowB_get hi]
    have hx := h1 _ (List.getElem_mem h2)
    by_cases h : r[i] = 1
    · rw [if_pos, h]
      refine List.any_eq_true.2 ⟨dig i, List.mem_map.2 ⟨i, mem_arrR.2 ⟨h2, ?_⟩, rfl⟩, ?_⟩
      · rw [getD_lt h2]; exact h
      · rw [decide_eq_true_eq, dig_toNat (by omega)]
    · rw [if_neg]
      · rcases hx with hx | hx
        · exact hx.symm
        · exact absurd hx h
      · intro hany
        obtain ⟨c, hc, hc2⟩ := List.any_eq_true.1 hany
        obtain ⟨j, hj, rfl⟩ := List.mem_map.1 hc
        obtain ⟨hj1, hj2⟩ := mem_arrR.1 hj
        rw [decide_eq_true_eq, dig_toNat (by omega)] at hc2
        obtain rfl : j = i := by omega
        rw [getD_lt h2] at hj2
        exact h hj2
theorem inR_txR (hl : r.length = n) (hn : n ≤ 100) : inR n (txR r) := by
  intro c hc
  obtain ⟨j, hj, rfl⟩ := List.mem_map.1 hc
  have := (mem_arrR.1 hj).1
  rw [dig_toNat (by omega)]; omega
theorem rdM_txt (hp : Pic p) : rdM (txt p) = p := by
  have h5 := hp.2.1
  unfold rdM
  rw [cut_txt hp.gr, List.map_map, List.length_map]
  conv => rhs; rw [← List.map_id p]
  refine List.map_congr_left fun r hr => ?_
  exact rowB_txR (hp.2.2 r hr).1 (by omega) (hp.2.2 r hr).2
theorem rd_yes (hp : Pic (rdM s)) (h : txt (rdM s) = s) : rdP s = some (rdM s) := by
  have := rdP_txt hp
  rwa [h] at this
theorem rd_is (h : rdP s = some p) : p = rdM s ∧ Pic p ∧ txt p = s ∧ (∀ x ∈ cutB 47 s, inR (cutB 47 s).length x) ∧ (cutB 47 s).length = p.length := by
  obtain ⟨h1, h2⟩ := rdP_some h
  subst h2
  have h5 := h1.2.1
  refine ⟨(rdM_txt h1).symm, h1, rfl, ?_, ?_⟩
  · rw [cut_txt h1.gr, List.length_map]
    intro x hx
    obtain ⟨r, hr, rfl⟩ := List.mem_map.1 hx
    exact inR_txR (h1.2.2 r hr).1 (by omega)
  · rw [cut_txt h1.gr, List.length_map]
theorem opt_none {α : Type} {o : Option α} (h : ∀ x, o ≠ some x) : o = none := by
  cases o with
  | none => rfl
  | some x => exact absurd rfl (h x)
theorem rd_no1 {x : List UInt8} {c : UInt8} (hx : x ∈ cutB 47 s) (hc : c ∈ x) (h : ¬ (48 ≤ c.toNat ∧ c.toNat < 48 + (cutB 47 s).length)) : rdP s = none := opt_none fun p hp => h ((rd_is hp).2.2.2.1 x hx c hc)
theorem rd_no2 (h : ¬ Pic (rdM s)) : rdP s = none := opt_none fun p hp => h ((rd_is hp).1 ▸ (rd_is hp).2.1)
theorem rd_no3 (h : txt (rdM s) ≠ s) : rdP s = none := opt_none fun p hp => h ((rd_is hp).1 ▸ (rd_is hp).2.2.1)
end
end Go.Hs
namespace Go.Hs
section
variable {P : Program} {op : Op} {ty : TypeId} {ρ : Env} {w : World} {b : Bool}
end
theorem Blk.movesOff {w w' : World} {v v' : Value} {b : Nat} {cs : List Value} (h : Blk w b cs) (M : Moves w v w' v') (hv : v.ownBlock ≠ some b) : Blk w' b cs :=
  h.of_heap (M.1.block b h.lt fun e => hv e.symm)
/-- What a call leaves that hands back data of its own, and a truth value. -/
def RetOB {α : Type} (w : World) (X : World → List Nat → Value → α → Prop) (x : α) (b : Bool) : Value → World → Prop := fun v w' => ∃ u, v = .tuple #[u, .bool b] ∧ Ext w w' ∧ Owned w.heap.size X w' u x
end Go.Hs
namespace Go.Proofs.YtgphoihilheoeaaGreatDoor
open Go.Hs
set_option maxRecDepth 10000
set_option maxHeartbeats 4000000
set_option linter.unusedVariables false
set_option linter.unusedSimpArgs false

theorem pictureText_ok (w : World) (v : Value) (p : List (List Int)) (h : ESl Ints w v p) (hp : Pic p) : Does Tryz.prog 50 [v] w (Ret w (str (txt p))) := by
  have hle := h.le
  have hp1 := hp.1
  have hp5 := hp.2.1
  have hal : ∀ k, (arr p k).length ≤ 5 := fun k => by
    unfold arr
    refine Nat.le_trans (arrR_len _) ?_
    by_cases hk : k < p.length
    · rw [getD_lt hk, hp.row hk]; omega
    · have : p.getD k [] = [] := by simp [List.getD_eq_getElem?_getD, List.getElem?_eq_none (show p.length ≤ k by omega)]
      rw [this]; simp
  have k1 : ∀ (k : Nat), k < p.length → ∀ (w : World) (v : Value), ESl Ints w v p → Does Tryz.prog 74 [v, .int .i64 (k : Int)] w (RetO w XI (ints (arr p k))) := fun k hk w v h =>
    arrowsOf_ok w v p h (k : Int) (by omega) (by simp only [Int.toNat_natCast]; rw [getD_lt hk, hp.row hk]; omega)
  refine fn_of_W1 Tryz.func50 rfl Tryz.results50 Tryz.ntmps50 rfl ?_
  focus
    refine W_seq ?_; refine W_region rfl ?_; refine Wo rfl (opv_assign (v := .string _) rfl) ?_; refine Wo_nil ?_; refine W_seq ?_; refine W_region rfl ?_; refine Wo_lit0 XStr rfl el82 Tryz.sizeOf9 ?_; rintro b1 w1 hb1 b1lt E1 hO1
    have hs1 := E1.size; refine Wo rfl (opv_assign (v := .slice _ _ _) rfl) ?_; refine Wo_nil ?_; refine W_seq ?_; refine W_seq ?_; refine W_region rfl ?_; refine Wo rfl (opv_move (v := v) rfl) ?_
    refine Wo rfl (opv_len Tryz.underlying22 rfl h) ?_; refine Wo rfl (opv_move (v := .int _ _) rfl) ?_; refine Wo_nil ?_; refine W_block ?_
  refine W_loop [3, 4, 5, 7, 11, 12, 13, 14, 15, 16, 17, 18, 19, 20, 21, 22, 23, 24, 25, 26, 27, 28, 29, 30, 31] (fun ((k : Nat), u) => [(11, .int .i64 (k : Nat)), (3, u)]) (fun (k, u) w' => Ext w w' ∧ k ≤ p.length ∧ Owned w.heap.size XS w' u ((p.take k).map txR)) (fun x => p.length - x.1) (0, .slice (some ⟨b1, 0, none⟩) 0 0) (by repeat (first | exact trivial | refine And.intro rfl ?_)) ?_ ?_
  · exact ⟨by assumption, Nat.zero_le _, by simpa using hO1⟩
  clear hO1
  rintro ⟨k, u⟩ ρj w2 ⟨E2, hk, hO2⟩
  have htk : ((p.take k).map txR).length = k := by simp; omega
  by_cases hlt : k < p.length
  · have k2 := k1 k hlt
    have hil : (ints (arr p k)).length = (arr p k).length := by simp [ints]
    have hak := hal k
    have hdl : ∀ (m : Nat) (hm : m < (ints (arr p k)).length), (ints (arr p k))[m] = ((arr p k)[m]'(by omega) : Int) := fun m hm => by simp [ints]
    have hd5 : ∀ (m : Nat) (hm : m < (arr p k).length), (arr p k)[m] < 10 := fun m hm => by
      have := (mem_arrR.1 (List.getElem_mem hm)).1
      rw [getD_lt hlt, hp.row hlt] at this; omega
    focus
      have szE2 := E2.size; have szE1 := E1.size; refine W_seq ?_; refine W_region rfl ?_; refine Wo rfl (opv_lss rfl rfl) ?_; refine Wo_nil ?_; refine W_seq ?_; refine W_cond_dec rfl (fun h1 => ?_) (fun h1 => ?_); refine W_skip ?_
      refine W_seq ?_; refine W_block ?_; refine W_seq ?_; refine W_region rfl ?_; refine Wo rfl (opv_move (v := .int _ _) rfl) ?_; refine Wo rfl (opv_assign (v := .int _ _) rfl) ?_; refine Wo_nil ?_; refine W_seq ?_
      refine W_region rfl ?_; refine Wo rfl (opv_assign (v := .string _) rfl) ?_; refine Wo_nil ?_; refine W_seq ?_; refine W_seq ?_; refine W_region rfl ?_; refine Wo rfl (opv_move (v := v) rfl) ?_
      refine Wo rfl (opv_move (v := .int _ _) rfl) ?_; refine Wo_call rfl (opc2 (a := v) (b := .int _ _) Tryz.call74 rfl rfl) (k2 _ _ ((Mono.mono E2 h))) ?_; rintro u1 w3 ⟨E3, hO1⟩; have hs2 := E3.size
      refine Wo rfl (opv_len Tryz.underlying58 rfl (Owned.read hO1)) ?_; refine Wo rfl (opv_move (v := .int _ _) rfl) ?_; refine Wo_nil ?_; refine W_block ?_; rotate_left; (exfalso; omega)
    refine W_loop [5, 7, 18, 19, 20, 21, 22, 23, 24, 25, 26] (fun ((m, t) : Nat × List UInt8) => [(18, .int .i64 (m : Nat)), (5, str t)]) (fun (m, t) w' => Ext w3 w' ∧ m ≤ (arr p k).length ∧ t = ((arr p k).take m).map dig) (fun x => (arr p k).length - x.1) (0, []) (by repeat (first | exact trivial | refine And.intro rfl ?_)) ?_ ?_
    · exact ⟨Ext.refl _, Nat.zero_le _, by simp⟩
    rintro ⟨m, t⟩ ρk w4 ⟨E4, hm, ht⟩
    have htl : t.length ≤ 5 := by rw [ht]; simp; omega
    by_cases hml : m < (arr p k).length
    · have k3 : ∀ w, Does Tryz.prog 76 [.int .i64 ((ints (arr p k))[m]'(by omega))] w (Ret w (str [dig (arr p k)[m]])) := fun w => by
        rw [hdl m (by omega)]; exact Itoa_ok w _ (hd5 m hml)
      focus
        have szE4 := E4.size; have szE3 := E3.size; have szE2 := E2.size; have szE1 := E1.size; refine W_seq ?_; refine W_region rfl ?_; refine Wo rfl (opv_lss rfl rfl) ?_; refine Wo_nil ?_; refine W_seq ?_
        refine W_cond_dec rfl (fun h2 => ?_) (fun h2 => ?_); refine W_skip ?_; refine W_seq ?_; refine W_block ?_; refine W_seq ?_; refine W_region rfl ?_
        refine Wo_get Tryz.underlying58 Tryz.sizeOf3 Tryz.isAgg3 rfl (fun _ => rfl) rfl (Owned.read hO1) E4 rfl (by first | omega | (simp <;> omega)) ?_; rintro _ _ rfl; refine Wo rfl (opv_assign (v := .int _ _) rfl) ?_; refine Wo_nil ?_
        refine W_region rfl ?_; refine Wo rfl (opv_move (v := .string _) rfl) ?_; refine Wo rfl (opv_move (v := .int _ _) rfl) ?_; refine Wo_call rfl (opc1 (a := .int _ _) Tryz.call76 rfl) (k3 _) ?_; rintro _ w5 ⟨rfl, E5⟩
        have hs3 := E5.size; refine Wo rfl (opv_add_str rfl rfl (by simp <;> omega)) ?_; refine Wo rfl (opv_assign (v := .string _) rfl) ?_; refine Wo_nil ?_; refine W_region rfl ?_; refine Wo rfl (opv_add rfl rfl (by omega)) ?_
        refine Wo rfl (opv_move (v := .int _ _) rfl) ?_; refine Wo_nil ?_; rotate_left; (exfalso; omega)
      refine ⟨((m + 1, t ++ [dig (arr p k)[m]])), by repeat (first | exact trivial | refine And.intro rfl ?_), by repeat (first | with_reducible exact Same.refl | refine Same.upd rfl ?_ | refine Same.upds rfl ?_ | refine Same.mix rfl ?_), ?_, ?_⟩
      · refine ⟨by exact E4.trans (by assumption), by omega, ?_⟩
        rw [List.take_succ_eq_append_getElem hml, ht, List.map_append]; rfl
      · simp only; omega
    · obtain rfl : m = (arr p k).length := by omega
      have ht2 : t = txR p[k] := by
        rw [ht, List.take_length, txR, arr, getD_lt hlt]
      clear ht
      subst ht2
      focus
        have szE4 := E4.size; have szE3 := E3.size; have szE2 := E2.size; have szE1 := E1.size; refine W_seq ?_; refine W_region rfl ?_; refine Wo rfl (opv_lss rfl rfl) ?_; refine Wo_nil ?_; refine W_seq ?_
        refine W_cond_dec rfl (fun h2 => ?_) (fun h2 => ?_); (exfalso; omega); refine W_exit ?_; refine exitX_same ?_; refine W_region rfl ?_; refine Wo rfl (opv_move (v := u) rfl) ?_; refine Wo rfl (opv_move (v := .string _) rfl) ?_
        refine Wo_buildSlice (ps := [(0, .string _)]) (cs := [_]) rfl Tryz.underlying82 Tryz.sizeOf9 Tryz.zeroValue9 rfl rfl rfl rfl ?_; rintro b2 w5 hb2 E5 hB1; have hlb2 := hB1.lt; have hs3 := E5.size
        refine Wo_app1 rfl el82 rfl rfl hB1 (hO2.toB.ext ((E3.trans E4).trans E5)) (Owned.str (by first | omega | (simp <;> omega))) (Nat.le_refl _) (by first | omega | (simp <;> omega)) (by omega) (by omega) (((E2.trans E3).trans E4).trans E5) (by omega) ?_
        have hT1 := (hO2.toB.ext ((E3.trans E4).trans E5)); rintro v1 w6 hO2 E6 M1; have hO1 := (hO1.toB.ext (E4.trans E5)).moves M1 hT1 (by omega); have hB1 := hB1.moves M1 hT1 (by omega); have hs4 := E6.size
        refine Wo rfl (opv_assign (v := v1) rfl) ?_; refine Wo_nil ?_; refine W_region rfl ?_; refine Wo rfl (opv_add rfl rfl (by omega)) ?_; refine Wo rfl (opv_move (v := .int _ _) rfl) ?_; refine Wo_nil ?_
      refine ⟨((k + 1, v1)), by repeat (first | exact trivial | refine And.intro rfl ?_), by repeat (first | with_reducible exact Same.refl | refine Same.upd rfl ?_ | refine Same.upds rfl ?_ | refine Same.mix rfl ?_), ?_, ?_⟩
      · refine ⟨by assumption, by omega, ?_⟩
        rw [List.take_succ_eq_append_getElem hlt, List.map_append]; assumption
      · simp only; omega
  · obtain rfl : k = p.length := by omega
    rw [List.take_length] at hO2
    have k4 : ∀ (w1 : World) (v : Value) (lo : Nat), Owned lo XS w1 v (p.map txR) → Does Tryz.prog 77 [v, str [47]] w1 (Ret w1 (str (txt p))) := fun w1 v lo h =>
      Join_ok w1 v _ h (by have := txt_len hp.gr; unfold txt at this; omega) (by simp; omega)
    have k5 := fun w1 v => k4 w1 v w.heap.size
    focus
      have szE2 := E2.size; have szE1 := E1.size; refine W_seq ?_; refine W_region rfl ?_; refine Wo rfl (opv_lss rfl rfl) ?_; refine Wo_nil ?_; refine W_seq ?_; refine W_cond_dec rfl (fun h1 => ?_) (fun h1 => ?_); (exfalso; omega)
      refine W_exit ?_; refine exitX_same ?_; refine W_seq ?_; refine W_region rfl ?_; refine Wo rfl (opv_move (v := u) rfl) ?_; refine Wo_call rfl (opc2 (a := u) (b := .string _) Tryz.call77 rfl rfl) (k5 _ _ (hO2)) ?_
      rintro _ w3 ⟨rfl, E3⟩; have hs2 := E3.size; refine Wo rfl (opv_assign (v := .string _) rfl) ?_; refine Wo_nil ?_; refine W_ret ?_; exact ⟨rfl, (E2.trans E3)⟩

end Go.Proofs.YtgphoihilheoeaaGreatDoor
set_option linter.unusedVariables false
namespace Go.Hs
section
variable {P : Program} {w : World}
theorem fn_of_W0 {f : FuncId} {fn : Func} {c : Code} {args : List Value} {S : Value → World → Prop} (hf : P.funcs[f]? = some fn) (hb : fn.body = some c)
    (hr : fn.results = #[]) {n : Nat} (hn : fn.ntmps = n) (hl : Nat.ble args.length n = true)
    (h : W P n c (fun ρ w' => S (.tuple #[]) w') (fun _ _ _ => False) (fun ρ w' => S (.tuple #[]) w') (envOf args) w) : Does P f args w S := by
  subst hn
  unfold Does
  refine calls_of_wp hf hb (Go.wp_mono (show c.wp P _ _ w from by unfold W at h; exact h _ (Rep.start args _ hl)) fun e a w q => ?_)
  cases e with
  | normal =>
    obtain ⟨ρ, h1, h2⟩ := q
    exact ⟨h1.defers, _, by rw [results_none hr], _, rfl, h2⟩
  | ret =>
    obtain ⟨ρ, h1, h2⟩ := q
    exact ⟨h1.defers, _, by rw [results_none hr], _, rfl, h2⟩
  | exit i => obtain ⟨ρ, h1, h2⟩ := q; exact h2.elim
  | goto l => exact q.elim
  | panic ch => exact q.elim
  | outgrown => exact q.elim
end
/-- Only these blocks have turned. -/
def Fr (fp : List Nat) (w w' : World) : Prop := w.heap.size ≤ w'.heap.size ∧ ∀ k, k ∉ fp → k < w.heap.size → w'.heap[k]? = w.heap[k]?
/-- It reads as x, whatever these blocks hold. -/
def Sp {α : Type} (fp : List Nat) (E : World → Value → α → Prop) (w : World) (v : Value) (x : α) : Prop := ∀ w1, Fr fp w w1 → E w1 v x
section
variable {α : Type} {E : World → Value → α → Prop} {fp fq : List Nat} {w w' w'' : World} {v : Value} {x : α}
theorem Fr.refl : Fr fp w w := ⟨Nat.le_refl _, fun _ _ _ => rfl⟩
theorem Fr.trans (h : Fr fp w w') (k : Fr fq w' w'') : Fr (fp ++ fq) w w'' := ⟨Nat.le_trans h.1 k.1, fun i h1 h2 => by
  rw [List.mem_append, not_or] at h1
  exact (k.2 i h1.2 (Nat.lt_of_lt_of_le h2 h.1)).trans (h.2 i h1.1 h2)⟩
theorem Fr.mono (h : Fr fp w w') (hs : ∀ k ∈ fp, k < w.heap.size → k ∈ fq) : Fr fq w w' := ⟨h.1, fun k h1 h2 => h.2 k (fun hk => h1 (hs k hk h2)) h2⟩
theorem Ext.fr (h : Ext w w') : Fr fp w w' := ⟨h.size, fun k _ h2 => h.block k h2⟩
theorem Fr.wrote {b : Nat} (K : ∀ k, k ≠ b → w'.heap[k]? = w.heap[k]?) (hz : w'.heap.size = w.heap.size) : Fr [b] w w' := ⟨by omega, fun k h1 _ => K k (fun e => h1 (by simp [e]))⟩
theorem Fr.moves {u u' : Value} (m : Moves w u w' u') : Fr u.ownBlock.toList w w' := ⟨m.1.size, fun k h1 h2 => m.1.block k h2 (fun e => h1 (by rw [← e]; simp))⟩
theorem Sp.here (h : Sp fp E w v x) : E w v x := h w Fr.refl
theorem Sp.fr {fq' : List Nat} (h : Sp fp E w v x) (k : Fr fq w w') (hq : ∀ i ∈ fq, i < w.heap.size → i ∈ fp) (hn : ∀ i ∈ fq', i < w.heap.size → i ∈ fp) : Sp fq' E w' v x := fun w1 k1 => h w1 ((k.trans k1).mono fun i hi hl => by
  rcases List.mem_append.1 hi with hi | hi
  · exact hq i hi hl
  · exact hn i hi hl)
theorem Above.sp {lo : Nat} (h : Above lo E w v x) (hf : ∀ k ∈ fp, k < lo) : Sp fp E w v x := fun w1 k => h w1 (fun i h1 h2 => k.2 i (fun hm => by have := hf i hm; omega) h2) k.1
/-- Own data off these blocks. -/
def OwS {β : Type} (lo : Nat) (fp : List Nat) (X : World → List Nat → Value → β → Prop) (w : World) (v : Value) (x : β) : Prop := ∃ f, f.Nodup ∧ (∀ k ∈ f, lo ≤ k ∧ k ∉ fp) ∧ X w f v x
theorem OwS.read {β : Type} {lo : Nat} {X : World → List Nat → Value → β → Prop} {y : β} {F : World → Value → β → Prop} [Loc X] [Shows X F] (h : OwS lo fp X w v y) : F w v y := by
  obtain ⟨f, _, _, h⟩ := h
  exact Shows.shows h
theorem OwS.o {β : Type} {lo : Nat} {X : World → List Nat → Value → β → Prop} {y : β} (h : OwS lo fp X w v y) : Owned lo X w v y := by
  obtain ⟨f, h1, h2, h3⟩ := h
  exact ⟨f, h1, fun k hk => (h2 k hk).1, h3⟩
theorem OwS.ofB {β : Type} {lo lo' hi : Nat} {X : World → List Nat → Value → β → Prop} {y : β} (h : OwnedB lo' hi X w v y) (hl : lo ≤ lo') (hf : ∀ k ∈ fp, k < lo' ∨ hi ≤ k) : OwS lo fp X w v y := by
  obtain ⟨f, h1, h2, h3⟩ := h
  exact ⟨f, h1, fun k hk => ⟨by have := h2 k hk; omega, fun hm => by have := h2 k hk; have := hf k hm; omega⟩, h3⟩
theorem OwS.fr {β : Type} {lo : Nat} {X : World → List Nat → Value → β → Prop} {y : β} [Loc X] {fq' : List Nat} (h : OwS lo fp X w v y) (k : Fr fq w w') (hq : ∀ i ∈ fq, i < w.heap.size → i ∈ fp) (hn : ∀ i ∈ fq', i < w.heap.size → i ∈ fp) : OwS lo fq' X w' v y := by
  obtain ⟨f, h1, h2, h3⟩ := h
  have hl := Loc.lt h3
  exact ⟨f, h1, fun i hi => ⟨(h2 i hi).1, fun hm => (h2 i hi).2 (hn i hm (hl i hi))⟩, Loc.loc (fun i hi => k.2 i (fun hm => (h2 i hi).2 (hq i hm (hl i hi))) (hl i hi)) h3⟩
theorem OwnedB.back {β : Type} {lo hi : Nat} {X : World → List Nat → Value → β → Prop} {y : β} [Loc X] (h : OwnedB lo hi X w' v y) (e : Ext w w') (hh : hi ≤ w.heap.size) : OwnedB lo hi X w v y := by
  obtain ⟨f, h1, h2, h3⟩ := h
  exact ⟨f, h1, h2, Loc.loc (fun k hk => (e.block k (by have := h2 k hk; omega)).symm) h3⟩
theorem XI_fr {lo : Nat} {e : TypeId} {xs : List Int} (h : Owned lo (XSl e XInt) w v xs) (k : Fr fp w w') (hn : ∀ i, v.ownBlock = some i → i ∉ fp) : Owned lo (XSl e XInt) w' v xs := by
  have hlt : ∀ i, v.ownBlock = some i → i < w.heap.size := fun i hi => (h.lt_own hi).2
  obtain ⟨f, h1, h2, h3⟩ := h
  have hf := XI_fp h3
  refine ⟨f, h1, h2, Loc.loc (fun i hi => ?_) h3⟩
  rw [hf] at hi
  have hv : v.ownBlock = some i := by
    cases hb : v.ownBlock with
    | none => rw [hb] at hi; cases hi
    | some g => rw [hb] at hi; simp at hi; rw [hi]
  exact k.2 i (hn i hv) (hlt i hv)
end
end Go.Hs
namespace Go.Proofs.YtgphoihilheoeaaGreatDoor
open Go.Hs
set_option maxRecDepth 10000
set_option maxHeartbeats 4000000
set_option linter.unusedVariables false
set_option linter.unusedSimpArgs false

/-- the closure -/
abbrev plcV (b8 b6 b7 b9 : Nat) : Value := .func (.func 48) #[] #[.pointer (some ⟨b8, 0, none⟩), .pointer (some ⟨b6, 0, none⟩), .pointer (some ⟨b7, 0, none⟩), .pointer (some ⟨b9, 0, none⟩)]
structure Plc (lo : Nat) (wb w : World) (b8 b6 b7 b9 : Nat) (jv bv ov : Value) (best : List (List Int)) (o : List Nat) : Prop where
  ext : Ext wb w
  cj : Blk w b6 [jv]
  cf : Blk w b9 [plcV b8 b6 b7 b9]
  cb : Blk w b7 [bv]
  co : Blk w b8 [ov]
  ow : Owned wb.heap.size XI w ov (ints o)
  ne : ∀ k, ov.ownBlock = some k → k ≠ b6 ∧ k ≠ b7 ∧ k ≠ b8 ∧ k ≠ b9
  sp : OwS lo (b7 :: b8 :: ov.ownBlock.toList) XR w bv best
  pic : Pic best
/-- the order's block stays, or is new -/
def Nxt (w : World) (ov ov' : Value) : Prop := ov'.ownBlock = ov.ownBlock ∨ ∃ g, ov'.ownBlock = some g ∧ w.heap.size ≤ g
def RetPl (lo : Nat) (wb w : World) (b8 b6 b7 b9 : Nat) (jv ov : Value) (c best : List (List Int)) (o : List Nat) : Value → World → Prop := fun v w' => v = .tuple #[] ∧ ∃ bv' ov' best', Plc lo wb w' b8 b6 b7 b9 jv bv' ov' best' o ∧ Srch c o best best' ∧ Fr (b7 :: b8 :: ov.ownBlock.toList) w w' ∧ Nxt w ov ov'
theorem Plc.moved {lo : Nat} {wb w w' : World} {b8 b6 b7 b9 : Nat} {jv bv ov : Value} {best : List (List Int)} {o : List Nat} (h : Plc lo wb w b8 b6 b7 b9 jv bv ov best o) (e : Ext w w') : Plc lo wb w' b8 b6 b7 b9 jv bv ov best o :=
  ⟨h.ext.trans e, h.cj.ext e, h.cf.ext e, h.cb.ext e, h.co.ext e, h.ow.ext e, h.ne, h.sp.fr (Ext.fr (fp := []) e) (fun i hi => by cases hi) (fun i hi _ => hi), h.pic⟩
theorem mem_own {k : Nat} {v : Value} (h : k ∈ v.ownBlock.toList) : v.ownBlock = some k := by
  cases hv : v.ownBlock with
  | none => rw [hv] at h; cases h
  | some g => rw [hv] at h; simp at h; rw [h]
theorem place_ok (wb : World) (lo : Nat) (hlo : lo ≤ wb.heap.size) (jv : Value) (c : List (List Int)) (hc : Pic c) (hj : ESl Ints wb jv c) (b8 b6 b7 b9 : Nat) (hb6 : wb.heap.size ≤ b6) (hb7 : wb.heap.size ≤ b7) (hb8 : wb.heap.size ≤ b8) (hb9 : wb.heap.size ≤ b9)
    (n67 : b6 ≠ b7) (n68 : b6 ≠ b8) (n69 : b6 ≠ b9) (n78 : b7 ≠ b8) (n79 : b7 ≠ b9) (n89 : b8 ≠ b9) :
    ∀ (n : Nat) (o : List Nat) (w : World) (bv ov : Value) (best : List (List Int)), c.length - o.length = n → Pre c.length o → Plc lo wb w b8 b6 b7 b9 jv bv ov best o →
      Does Tryz.prog 48 [.pointer (some ⟨b8, 0, none⟩), .pointer (some ⟨b6, 0, none⟩), .pointer (some ⟨b7, 0, none⟩), .pointer (some ⟨b9, 0, none⟩)] w (RetPl lo wb w b8 b6 b7 b9 jv ov c best o) := by
  have hp5 := hc.2.1
  have hle := hj.le
  intro n
  induction n with
  | zero =>
    intro o w bv ov best hn hpre hP
    have hol := hpre.le
    have hop := hpre.pos
    have hil := ints_len o
    have hlen : o.length = c.length := by omega
    have hP0 := hP
    obtain ⟨E0, hB6, hB9, hB7, hB8, hO, hne, hsp, hpb⟩ := hP
    obtain ⟨bo, co, rfl, _⟩ := hO.lit (by omega)
    have hbo := hO.lt_own (k := bo) rfl
    obtain ⟨ne6, ne7, ne8, ne9⟩ := hne bo rfl
    have hbr : ESl Ints w bv best := hsp.read
    have icb : isCell bv = true := by obtain ⟨_, _, rfl, _⟩ := hbr; rfl
    have icj : isCell jv = true := by obtain ⟨_, _, rfl, _⟩ := hj; rfl
    have hrp : Pic (reo c o) := by
      refine ⟨by rw [reo_len]; omega, by rw [reo_len]; omega, fun r hr => ?_⟩
      obtain ⟨i, hi, rfl⟩ := List.mem_map.1 hr
      refine ⟨by rw [reo_len]; simp, fun x hx => ?_⟩
      obtain ⟨j, hj, rfl⟩ := List.mem_map.1 hx
      exact hc.bit01 i j
    have k1 : ∀ (w : World) (v u : Value), ESl Ints w v c → Ints w u (ints o) → Does Tryz.prog 49 [v, u] w (RetO w XR (reo c o)) := fun w v u h h' => reordered_ok w v u c o h h' hc.gr hlen hpre.2.2
    have k2 : ∀ (w : World) (v : Value), ESl Ints w v best → Does Tryz.prog 50 [v] w (Ret w (str (txt best))) := fun w v h => pictureText_ok w v best h hpb
    have k3 : ∀ (w : World) (v : Value), ESl Ints w v (reo c o) → Does Tryz.prog 50 [v] w (Ret w (str (txt (reo c o)))) := fun w v h => pictureText_ok w v _ h hrp
    refine fn_of_W0 Tryz.func48 rfl Tryz.results48 Tryz.ntmps48 rfl ?_
    have hR := hO.read
    have hl7 := hB7.lt
    have hl8 := hB8.lt
    have hful := Srch.full (c := c) ⟨hlen, hpre⟩ best
    focus
      have szE0 := E0.size; refine W_seq ?_; refine W_seq ?_; refine W_region rfl ?_; refine Wo (v := .slice _ _ _) rfl (opv_load Tryz.isAgg58 rfl (hB8.cell rfl)) ?_; refine Wo rfl (opv_len Tryz.underlying58 rfl hR) ?_
      refine Wo (v := jv) rfl (opv_load Tryz.isAgg22 rfl (hB6.cell rfl)) ?_; refine Wo rfl (opv_len Tryz.underlying22 rfl hj) ?_; refine Wo rfl (opv_eql rfl rfl) ?_; refine Wo_nil ?_; refine W_cond_dec rfl (fun h1 => ?_) (fun h1 => ?_)
      refine W_seq ?_; refine W_seq ?_; refine W_region rfl ?_; refine Wo (v := jv) rfl (opv_load Tryz.isAgg22 rfl (hB6.cell rfl)) ?_; refine Wo (v := .slice _ _ _) rfl (opv_load Tryz.isAgg58 rfl (hB8.cell rfl)) ?_
      refine Wo_call rfl (opc2 (a := jv) (b := .slice _ _ _) Tryz.call49 rfl rfl) (k1 _ _ _ ((Mono.mono E0 hj)) (hR)) ?_; rintro u1 w1 ⟨E1, hO1⟩; have hs1 := E1.size; refine Wo rfl (opv_assign (v := u1) rfl) ?_; refine Wo_nil ?_
      refine W_seq ?_; refine W_draw mixed (by kernel_rfl) rfl ?_; refine Wq_o rfl (fun _ _ => opv_move (v := u1) rfl) ?_
      refine Wq_call rfl (fun _ _ => opc1 (a := u1) Tryz.call50 rfl) (fun w' hw' => (k3 _ _ ((Mono.mono hw' (Owned.read hO1))))) ?_; refine Wq_o (v := bv) rfl (fun w' hw' => opv_load Tryz.isAgg22 rfl (((hB7.ext E1).ext hw').cell rfl)) ?_
      refine Wq_call rfl (fun _ _ => opc1 (a := bv) Tryz.call50 rfl) (fun w' hw' => (k2 _ _ ((Mono.mono (E1.trans hw') hbr)))) ?_; refine Wq_o rfl (fun _ _ => opv_lss_str rfl rfl) ?_; refine Wq_nil (fun w2 E2 => ?_); have hs2 := E2.size
      refine W_cond rfl (fun h2 => ?_) (fun h2 => ?_); refine W_region rfl ?_; refine Wo rfl (opv_move (v := u1) rfl) ?_
      refine Wo_st (v := u1) rfl Tryz.sizeOf22 rfl rfl (OwnedB.isC (hO1.toB.ext E2)) (hB7.ext (E1.trans E2)) (by simp) (by omega) ((E0.trans E1).trans E2) ?_; rintro w3 E3 hB7 K1 hz1; simp only [List.set] at hB7
      have hB6 := (hB6.ext (E1.trans E2)).of_heap (K1 _ (by omega)); have hB9 := (hB9.ext (E1.trans E2)).of_heap (K1 _ (by omega)); have hB8 := (hB8.ext (E1.trans E2)).of_heap (K1 _ (by omega))
      have hO1 := (hO1.toB.ext E2).wrote K1 (by omega); refine Wo_nil ?_; refine W_ret ?_; refine at_ret (v := .tuple #[]) rfl ?_; rotate_left; refine W_skip ?_; refine W_ret ?_; refine at_ret (v := .tuple #[]) rfl ?_; rotate_left
      (exfalso; omega)
    · have hE := (by exact (E1.trans E2) : Ext w w2)
      refine ⟨rfl, u1, _, reo c o, ⟨E3, hB6, hB9, hB7, hB8, XI_fr (hO.ext hE) (Fr.wrote K1 hz1) (fun i hi => ?_), hne, OwS.ofB hO1 (by omega) fun i hi => ?_, hrp⟩, ?_, ((Ext.fr (fp := []) hE).trans (Fr.wrote K1 hz1)).mono (fun i hi _ => by simp at hi; simp [hi]), .inl rfl⟩
      · obtain rfl : bo = i := Option.some.inj hi
        simpa using ne7
      · simp only [List.mem_cons] at hi
        rcases hi with rfl | rfl | hi
        · omega
        · omega
        · have e : bo = i := Option.some.inj (mem_own hi)
          omega
      · rw [lstep, if_pos (by assumption)] at hful; exact hful
    · have hE := (by exact (E1.trans E2) : Ext w w2)
      refine ⟨rfl, bv, _, best, hP0.moved hE, ?_, Ext.fr hE, .inl rfl⟩
      rw [lstep, if_neg (by simp only [Bool.not_eq_true]; assumption)] at hful; exact hful
  | succ n ih =>
    intro o w bv ov best hn hpre hP
    have hop := hpre.pos
    have hil := ints_len o
    have hlt : o.length < c.length := by omega
    have icj : isCell jv = true := by obtain ⟨_, _, rfl, _⟩ := hj; rfl
    have hP0 := hP
    obtain ⟨E0, hB6, hB9, hB7, hB8, hO, hne, hsp, hpb⟩ := hP
    obtain ⟨bo, co, rfl, _⟩ := hO.lit (by omega)
    have hR := hO.read
    refine fn_of_W0 Tryz.func48 rfl Tryz.results48 Tryz.ntmps48 rfl ?_
    focus
      have szE0 := E0.size; refine W_seq ?_; refine W_seq ?_; refine W_region rfl ?_; refine Wo (v := .slice _ _ _) rfl (opv_load Tryz.isAgg58 rfl (hB8.cell rfl)) ?_; refine Wo rfl (opv_len Tryz.underlying58 rfl hR) ?_
      refine Wo (v := jv) rfl (opv_load Tryz.isAgg22 rfl (hB6.cell rfl)) ?_; refine Wo rfl (opv_len Tryz.underlying22 rfl hj) ?_; refine Wo rfl (opv_eql rfl rfl) ?_; refine Wo_nil ?_; refine W_cond_dec rfl (fun h1 => ?_) (fun h1 => ?_)
      (exfalso; omega); refine W_skip ?_; refine W_seq ?_; refine W_region rfl ?_; refine Wo (v := jv) rfl (opv_load Tryz.isAgg22 rfl (hB6.cell rfl)) ?_; refine Wo rfl (opv_len Tryz.underlying22 rfl hj) ?_
      refine Wo rfl (opv_move (v := .int _ _) rfl) ?_; refine Wo_nil ?_; refine W_block ?_
    clear hB6 hB9 hB7 hB8 hO hsp hR
    refine W_loop [5, 22, 23, 24, 25, 26, 27, 28, 29, 30, 31, 32, 33, 34, 35, 36, 37, 38, 39, 40] (fun ((k, ov, bv, bs) : Nat × Value × Value × List (List Int)) => [(22, .int .i64 (k : Nat))]) (fun (k, ov, bv, bs) w' => Plc lo wb w' b8 b6 b7 b9 jv bv ov bs o ∧ k ≤ c.length ∧ SrchK c o k best bs ∧ Fr (b7 :: b8 :: (Value.slice (some ⟨bo, 0, none⟩) (ints o).length co).ownBlock.toList) w w' ∧ Nxt w (Value.slice (some ⟨bo, 0, none⟩) (ints o).length co) ov) (fun x => c.length - x.1) (0, .slice (some ⟨bo, 0, none⟩) (ints o).length co, bv, best) (by repeat (first | exact trivial | refine And.intro rfl ?_)) ?_ ?_
    · exact ⟨hP0, Nat.zero_le _, SrchK.zero _, Fr.refl, .inl rfl⟩
    clear E0 hne hpb hP0
    rintro ⟨k, ov, bv, bs⟩ ρj w1 ⟨hP, hk, hS, hF, hN⟩
    have hP0 := hP
    obtain ⟨E0, hB6, hB9, hB7, hB8, hO, hne, hsp, hpb⟩ := hP
    obtain ⟨ba, ca, rfl, _⟩ := hO.lit (by omega)
    have hba := hO.lt_own (k := ba) rfl
    obtain ⟨ne6, ne7, ne8, ne9⟩ := hne ba rfl
    by_cases hkl : k < c.length
    · by_cases hm : k ∈ o
      · have kc : ∀ (w : World) (v : Value), Ints w v (ints o) → Does Tryz.prog 51 [v, .int .i64 (k : Int)] w (Ret w (.bool true)) := fun w v h => by
          have := Contains_ok w v _ h (k : Int)
          rw [decide_eq_true (mem_ints.2 hm)] at this; exact this
        focus
          have szE0 := E0.size; refine W_seq ?_; refine W_region rfl ?_; refine Wo rfl (opv_lss rfl rfl) ?_; refine Wo_nil ?_; refine W_seq ?_; refine W_cond_dec rfl (fun h2 => ?_) (fun h2 => ?_); refine W_skip ?_; refine W_seq ?_
          refine W_block ?_; refine W_seq ?_; refine W_region rfl ?_; refine Wo rfl (opv_move (v := .int _ _) rfl) ?_; refine Wo rfl (opv_assign (v := .int _ _) rfl) ?_; refine Wo_nil ?_; refine W_seq ?_; refine W_region rfl ?_
          refine Wo (v := .slice _ _ _) rfl (opv_load Tryz.isAgg58 rfl (hB8.cell rfl)) ?_; refine Wo rfl (opv_move (v := .int _ _) rfl) ?_
          refine Wo_call rfl (opc2 (a := .slice _ _ _) (b := .int _ _) Tryz.call51 rfl rfl) (kc _ _ ((Owned.read hO))) ?_; rintro _ w2 ⟨rfl, E1⟩; have hs1 := E1.size; refine Wo rfl (opv_not rfl) ?_; refine Wo_nil ?_
          refine W_cond rfl (fun h3 => ?_) (fun h3 => ?_); contradiction; refine W_skip ?_; refine W_region rfl ?_; refine Wo rfl (opv_add rfl rfl (by omega)) ?_; refine Wo rfl (opv_move (v := .int _ _) rfl) ?_; refine Wo_nil ?_; rotate_left
          (exfalso; omega)
        refine ⟨((k + 1, .slice (some ⟨ba, 0, none⟩) (ints o).length ca, bv, bs)), by repeat (first | exact trivial | refine And.intro rfl ?_), by repeat (first | with_reducible exact Same.refl | refine Same.upd rfl ?_ | refine Same.upds rfl ?_ | refine Same.mix rfl ?_), ?_, ?_⟩
        · exact ⟨hP0.moved (by exact E1), by omega, hS.skip hm, (hF.trans (Ext.fr (fp := []) (by exact E1 : Ext w1 w2))).mono (fun i hi _ => by simpa using hi), hN⟩
        · simp only; omega
      · have kc : ∀ (w : World) (v : Value), Ints w v (ints o) → Does Tryz.prog 51 [v, .int .i64 (k : Int)] w (Ret w (.bool false)) := fun w v h => by
          have := Contains_ok w v _ h (k : Int)
          rw [decide_eq_false (fun h => hm (mem_ints.1 h))] at this; exact this
        have stop9 : True := trivial
        have litown : True := trivial
        have offs : True := trivial
        focus
          have szE0 := E0.size; refine W_seq ?_; refine W_region rfl ?_; refine Wo rfl (opv_lss rfl rfl) ?_; refine Wo_nil ?_; refine W_seq ?_; refine W_cond_dec rfl (fun h2 => ?_) (fun h2 => ?_); refine W_skip ?_; refine W_seq ?_
          refine W_block ?_; refine W_seq ?_; refine W_region rfl ?_; refine Wo rfl (opv_move (v := .int _ _) rfl) ?_; refine Wo rfl (opv_assign (v := .int _ _) rfl) ?_; refine Wo_nil ?_; refine W_seq ?_; refine W_region rfl ?_
          refine Wo (v := .slice _ _ _) rfl (opv_load Tryz.isAgg58 rfl (hB8.cell rfl)) ?_; refine Wo rfl (opv_move (v := .int _ _) rfl) ?_
          refine Wo_call rfl (opc2 (a := .slice _ _ _) (b := .int _ _) Tryz.call51 rfl rfl) (kc _ _ ((Owned.read hO))) ?_; rintro _ w2 ⟨rfl, E1⟩; have hs1 := E1.size; refine Wo rfl (opv_not rfl) ?_; refine Wo_nil ?_
          refine W_cond rfl (fun h3 => ?_) (fun h3 => ?_); refine W_seq ?_; refine W_region rfl ?_; refine Wo (v := .slice _ _ _) rfl (opv_load Tryz.isAgg58 rfl ((hB8.ext E1).cell rfl)) ?_; refine Wo rfl (opv_move (v := .int _ _) rfl) ?_
          refine Wo_buildSliceH (ps := [(0, .int _ _)]) (cs := [_]) rfl Tryz.underlying58 Tryz.sizeOf3 Tryz.zeroValue3 rfl rfl rfl rfl ?_; rintro b1 w3 hb1 E2 hB1 hHb1; have hlb1 := hB1.lt; have hLb1 := own_lit1 hHb1 hb1; clear hHb1
          have hs2 := E2.size; refine Wo_app1 rfl el58 rfl rfl hB1 (hO.toB.ext (E1.trans E2)) Owned.int (Nat.le_refl _) (by first | omega | (simp <;> omega)) (by omega) (by omega) ((E0.trans E1).trans E2) (by omega) ?_
          have hT1 := (hO.toB.ext (E1.trans E2)); rintro v1 w4 hO E3 M1; have hB6 := (hB6.ext (E1.trans E2)).movesOff M1 (fun e => by have e' : ba = b6 := Option.some.inj e; omega)
          have hB9 := (hB9.ext (E1.trans E2)).movesOff M1 (fun e => by have e' : ba = b9 := Option.some.inj e; omega); have hB7 := (hB7.ext (E1.trans E2)).movesOff M1 (fun e => by have e' : ba = b7 := Option.some.inj e; omega)
          have hB8 := (hB8.ext (E1.trans E2)).movesOff M1 (fun e => by have e' : ba = b8 := Option.some.inj e; omega); have hB1 := hB1.moves M1 hT1 (by omega); have hLb1 := hLb1.toB.moves M1 hT1 (by omega)
          have offhB1 : Value.ownBlock v1 ≠ some b1 := Moves.off M1 (fun e => own_notin hT1 (by omega) e.symm) (by omega); have hs3 := E3.size; have szM1 := M1.1.size; have icv1 := OwnedB.isC (Owned.toB hO)
          refine Wo_st (v := v1) rfl Tryz.sizeOf58 rfl rfl (OwnedB.isC hO.toB) hB8 (by simp) (by omega) E3 ?_; rintro w5 E4 hB8 K1 hz1; simp only [List.set] at hB8; have hB6 := hB6.of_heap (K1 _ (by omega))
          have hB9 := hB9.of_heap (K1 _ (by omega)); have hB7 := hB7.of_heap (K1 _ (by omega)); refine Wo_nil ?_; refine W_seq ?_; rotate_left; contradiction; (exfalso; omega)
        clear stop9 litown offs
        have M1' : Moves w3 (.slice (some ⟨ba, 0, none⟩) (ints o).length ca) w4 v1 := M1
        have hl6 := hP0.cj.lt
        have hl7 := hP0.cb.lt
        have hl8 := hP0.co.lt
        have hl9 := hP0.cf.lt
        have hne5 : ∀ i, v1.ownBlock = some i → i ≠ b6 ∧ i ≠ b7 ∧ i ≠ b8 ∧ i ≠ b9 := fun i hi => by
          rcases M1'.2 with h | ⟨g, h, h'⟩
          · rw [hi] at h
            have e : i = ba := Option.some.inj h
            subst e
            exact ⟨ne6, ne7, ne8, ne9⟩
          · rw [hi] at h
            have e : i = g := Option.some.inj h
            omega
        have hFr : Fr ([] ++ [ba] ++ [b8]) w1 w5 := ((Ext.fr (fp := []) (by exact (E1.trans E2) : Ext w1 w3)).trans (Fr.moves M1')).trans (Fr.wrote K1 hz1)
        have hP5 : Plc lo wb w5 b8 b6 b7 b9 jv bv v1 bs (o ++ [k]) := by
          refine ⟨E4, hB6, hB9, hB7, hB8, ?_, hne5, hsp.fr hFr (fun i hi _ => ?_) (fun i hi hl => ?_), hpb⟩
          · rw [ints_append]
            exact XI_fr hO (Fr.wrote K1 hz1) (fun i hi => by have := (hne5 i hi).2.2.1; simpa using this)
          · simp at hi
            rcases hi with rfl | rfl <;> simp [Value.ownBlock]
          · simp only [List.mem_cons] at hi
            rcases hi with rfl | rfl | hi
            · simp
            · simp
            · have hi' := mem_own hi
              rcases M1'.2 with h | ⟨g, h, h'⟩
              · rw [hi'] at h
                have e : i = ba := Option.some.inj h
                rw [e]; simp [Value.ownBlock]
              · rw [hi'] at h
                have e : i = g := Option.some.inj h
                omega
        have kP := ih (o ++ [k]) w5 bv v1 bs (by simp; omega) (hpre.snoc hkl hm) hP5
        focus
          have szE4 := E4.size; have szE3 := E3.size; have szE2 := E2.size; have szE1 := E1.size; have szE0 := E0.size; refine W_region rfl ?_; refine Wo (v := .func _ _ _) rfl (opv_load Tryz.isAgg1 rfl (hB9.cell rfl)) ?_
          refine Wo_call rfl (opc_val0 Tryz.call48 rfl) (kP) ?_
        rintro _ w6 ⟨rfl, bv', ov', bs', hP6, hS6, hF6, hN6⟩
        obtain ⟨E6, hB6, hB9, hB7, hB8, hO6, hne6, hsp6, hpb6⟩ := id hP6
        have hil2 := ints_len (o ++ [k])
        rw [List.length_append, List.length_singleton] at hil2
        obtain ⟨bq, cq, rfl, _⟩ := hO6.lit (by omega)
        have hbq := hO6.lt_own (k := bq) rfl
        have hR6 := hO6.read
        focus
          have szE6 := E6.size; have szE4 := E4.size; have szE3 := E3.size; have szE2 := E2.size; have szE1 := E1.size; have szE0 := E0.size; refine Wo_nil ?_; refine W_region rfl ?_
          refine Wo (v := .slice _ _ _) rfl (opv_load Tryz.isAgg58 rfl (hB8.cell rfl)) ?_; refine Wo (v := .slice _ _ _) rfl (opv_load Tryz.isAgg58 rfl (hB8.cell rfl)) ?_; refine Wo rfl (opv_len Tryz.underlying58 rfl hR6) ?_
          refine Wo rfl (opv_sub rfl rfl (by omega)) ?_; refine Wo rfl (opv_slice_sl_hi Tryz.underlying58 Tryz.sizeOf3 rfl rfl (by omega)) ?_; refine Wo_st (v := .slice _ _ _) rfl Tryz.sizeOf58 rfl rfl rfl hB8 (by simp) (by omega) E6 ?_
          rintro w7 E5 hB8 K2 hz2; simp only [List.set] at hB8; have hB6 := hB6.of_heap (K2 _ (by omega)); have hB9 := hB9.of_heap (K2 _ (by omega)); have hB7 := hB7.of_heap (K2 _ (by omega)); refine Wo_nil ?_; refine W_region rfl ?_
          refine Wo rfl (opv_add rfl rfl (by omega)) ?_; refine Wo rfl (opv_move (v := .int _ _) rfl) ?_; refine Wo_nil ?_
        have hsw := hF.1
        have hs15 := hFr.1
        have hs56 := hF6.1
        have hba' : ba = bo ∨ w.heap.size ≤ ba := by
          rcases hN with h | ⟨g, h, h'⟩
          · exact .inl (Option.some.inj h)
          · exact .inr (by have : ba = g := Option.some.inj h; omega)
        have hv1 : ∀ i, v1.ownBlock = some i → i = bo ∨ w.heap.size ≤ i := fun i hi => by
          rcases M1'.2 with h | ⟨g, h, h'⟩
          · rw [hi] at h
            have e : i = ba := Option.some.inj h
            omega
          · rw [hi] at h
            have e : i = g := Option.some.inj h
            right; have := (by exact (E1.trans E2) : Ext w1 w3).size; omega
        have htk : (ints (o ++ [k])).take (((ints (o ++ [k])).length : Int) - 1).toNat = ints o := by
          rw [hil2, ints_append, List.take_left' (by rw [hil]; omega)]
        have hO7 : Owned wb.heap.size XI w6 (.slice (some ⟨bq, 0, none⟩) (((ints (o ++ [k])).length : Int) - 1).toNat cq) (ints o) := by
          have := (hO6.toB.pre (k := (((ints (o ++ [k])).length : Int) - 1).toNat) (by omega)).o
          rwa [htk] at this
        refine ⟨((k + 1, .slice (some ⟨bq, 0, none⟩) (((ints (o ++ [k])).length : Int) - 1).toNat cq, bv', bs')), by repeat (first | exact trivial | refine And.intro rfl ?_), by repeat (first | with_reducible exact Same.refl | refine Same.upd rfl ?_ | refine Same.upds rfl ?_ | refine Same.mix rfl ?_), ?_, ?_⟩
        · refine ⟨⟨E5, hB6, hB9, hB7, hB8, XI_fr hO7 (Fr.wrote K2 hz2) (fun i hi => by have := (hne6 i hi).2.2.1; simpa using this), hne6, hsp6.fr (Fr.wrote K2 hz2) (fun i hi _ => by simp at hi; simp [hi]) (fun i hi _ => hi), hpb6⟩, by omega, hS.step hS6, ?_, ?_⟩
          · refine (((hF.trans hFr).trans hF6).trans (Fr.wrote K2 hz2)).mono fun i hi hl => ?_
            have hbb : i = bo → i ∈ b7 :: b8 :: (Value.slice (some ⟨bo, 0, none⟩) (ints o).length co).ownBlock.toList := fun e => by rw [e]; simp [Value.ownBlock]
            rcases List.mem_append.1 hi with hi | hi
            · rcases List.mem_append.1 hi with hi | hi
              · rcases List.mem_append.1 hi with hi | hi
                · exact hi
                · have h9 : i = ba ∨ i = b8 := by simpa using hi
                  rcases h9 with h9 | h9
                  · rcases hba' with h | h
                    · exact hbb (h9.trans h)
                    · omega
                  · rw [h9]; simp
              · rcases List.mem_cons.1 hi with h9 | hi
                · rw [h9]; simp
                · rcases List.mem_cons.1 hi with h9 | hi
                  · rw [h9]; simp
                  · rcases hv1 i (mem_own hi) with h | h
                    · exact hbb h
                    · omega
            · rw [List.mem_singleton.1 hi]; simp
          · rcases hN6 with h | ⟨g, h, h'⟩
            · have e : v1.ownBlock = some bq := h.symm
              rcases hv1 bq e with h2 | h2
              · exact .inl (by rw [h2]; rfl)
              · exact .inr ⟨bq, rfl, h2⟩
            · have e : bq = g := Option.some.inj h
              exact .inr ⟨bq, rfl, by omega⟩
        · simp only; omega
    · obtain rfl : k = c.length := by omega
      focus
        have szE0 := E0.size; refine W_seq ?_; refine W_region rfl ?_; refine Wo rfl (opv_lss rfl rfl) ?_; refine Wo_nil ?_; refine W_seq ?_; refine W_cond_dec rfl (fun h2 => ?_) (fun h2 => ?_); (exfalso; omega); refine W_exit ?_
        refine exitX_same ?_; refine at_ret (v := .tuple #[]) rfl ?_
      exact ⟨rfl, bv, _, bs, hP0, hS.all hlt, hF, hN⟩

theorem leastOf_ok (w : World) (v : Value) (p : List (List Int)) (h : ESl Ints w v p) (hp : Gr p) (a : Nat) (ha : a < p.length) :
    Does Tryz.prog 30 [v, .int .i64 (a : Int)] w (RetOB w XR (if (lst p a).length ≤ 5 then lst p a else []) (decide ((lst p a).length ≤ 5))) := by
  have k1 : ∀ (w : World) (v : Value), ESl Ints w v p → Does Tryz.prog 47 [v, .int .i64 (a : Int)] w (RetDX w XR (Cand p a)) := fun w v h => joinedOf_ok w v p h hp a ha
  refine fn_of_W2 Tryz.func30 rfl Tryz.results30 Tryz.ntmps30 rfl ?_
  have stop2 : True := trivial
  have litown : True := trivial
  focus
    refine W_seq ?_; refine W_region rfl ?_; refine Wo rfl (opv_assign (v := .slice _ _ _) rfl) ?_; refine Wo rfl (opv_assign (v := .bool _) rfl) ?_; refine Wo_nil ?_; refine W_seq ?_; refine W_region rfl ?_
    refine Wo rfl (opv_move (v := v) rfl) ?_; refine Wo rfl (opv_move (v := .int _ _) rfl) ?_; refine Wo_call rfl (opc2 (a := v) (b := .int _ _) Tryz.call47 rfl rfl) (k1 _ _ (h)) ?_; rintro u1 w1 ⟨x1, E1, hO1, hy1⟩
    have ichO1 := OwnedB.isC (Owned.toB hO1); have hs1 := E1.size; refine Wo_alloc rfl Tryz.zeroValue22 rfl ?_; rintro b1 w2 hb1 E2 hB1; have hlb1 := hB1.lt; have hs2 := E2.size
    refine Wo_st (v := u1) rfl Tryz.sizeOf22 rfl rfl (OwnedB.isC (hO1.toB.ext E2)) hB1 (by decide) (by omega) (E1.trans E2) ?_; rintro w3 E3 hB1 K1 hz1; have E4 := E2.wroteAt (E1.trans E2) E3 K1 hz1 (by omega); have szE4 := E4.size
    simp only [List.set] at hB1; have hO1 := (hO1.toB.ext E2).wrote K1 (by omega); refine Wo_nil ?_; refine W_seq ?_; refine W_seq ?_
  clear stop2 litown
  have hlen := lst_len hp ha hy1
  have icu := OwnedB.isC hO1
  have rj := hO1.read
  by_cases h5 : (lst p a).length ≤ 5
  · rw [if_pos h5, decide_eq_true h5]
    have hcp := hy1.pic hp ha (by omega)
    have hx1 := hcp.1
    have stop8 : True := trivial
    focus
      have szE4 := E4.size; have szE3 := E3.size; have szE2 := E2.size; have szE1 := E1.size; refine W_region rfl ?_; refine Wo (v := u1) rfl (opv_load Tryz.isAgg22 rfl (hB1.cell rfl)) ?_
      refine Wo rfl (opv_len Tryz.underlying22 rfl rj) ?_; refine Wo rfl (opv_gtr rfl rfl) ?_; refine Wo_nil ?_; refine W_cond_dec rfl (fun h1 => ?_) (fun h1 => ?_); (exfalso; omega); refine W_skip ?_; refine W_seq ?_
      refine W_region rfl ?_; refine Wo (v := u1) rfl (opv_load Tryz.isAgg22 rfl (hB1.cell rfl)) ?_; refine Wo_alloc rfl Tryz.zeroValue22 rfl ?_; rintro b2 w4 hb2 E5 hB2; have hlb2 := hB2.lt; have hs3 := E5.size
      refine Wo_st (v := u1) rfl Tryz.sizeOf22 rfl rfl (OwnedB.isC (hO1.ext E5)) hB2 (by decide) (by omega) (E3.trans E5) ?_; rintro w5 E6 hB2 K2 hz2; have E7 := (E4.trans E5).wroteAt (E3.trans E5) E6 K2 hz2 (by omega)
      have szE7 := E7.size; have E8 := E5.wroteAt (E3.trans E5) E6 K2 hz2 (by omega); have szE8 := E8.size; simp only [List.set] at hB2; have hB1 := (hB1.ext E5).of_heap (K2 _ (by omega)); have hO1 := (hO1.ext E5).wrote K2 (by omega)
      refine Wo_nil ?_; refine W_seq ?_; refine W_region rfl ?_; refine Wo_buildSliceH (ps := [(0, .int _ _)]) (cs := [_]) rfl Tryz.underlying58 Tryz.sizeOf3 Tryz.zeroValue3 rfl rfl rfl rfl ?_; rintro b3 w6 hb3 E9 hB3 hHb3
      have hlb3 := hB3.lt; have hs4 := E9.size; refine Wo_alloc rfl Tryz.zeroValue58 rfl ?_; rintro b4 w7 hb4 E10 hB4; have hlb4 := hB4.lt; have hs5 := E10.size
      refine Wo_st (v := .slice _ _ _) rfl Tryz.sizeOf58 rfl rfl rfl hB4 (by decide) (by omega) ((E6.trans E9).trans E10) ?_; rintro w8 E11 hB4 K3 hz3
      have E12 := ((E7.trans E9).trans E10).wroteAt ((E6.trans E9).trans E10) E11 K3 hz3 (by omega); have szE12 := E12.size; have E13 := ((E8.trans E9).trans E10).wroteAt ((E6.trans E9).trans E10) E11 K3 hz3 (by omega)
      have szE13 := E13.size; have E14 := (E9.trans E10).wroteAt ((E6.trans E9).trans E10) E11 K3 hz3 (by omega); have szE14 := E14.size; have E15 := E10.wroteAt ((E6.trans E9).trans E10) E11 K3 hz3 (by omega); have szE15 := E15.size
      simp only [List.set] at hB4; have hB2 := (hB2.ext (E9.trans E10)).of_heap (K3 _ (by omega)); have hB1 := (hB1.ext (E9.trans E10)).of_heap (K3 _ (by omega)); have hO1 := (hO1.ext (E9.trans E10)).wrote K3 (by omega)
      have hB3 := (hB3.ext E10).of_heap (K3 _ (by omega)); refine Wo_nil ?_; refine W_seq ?_; refine W_region rfl ?_; refine Wo_alloc rfl Tryz.zeroValue1 rfl ?_; rintro b5 w9 hb5 E16 hB5; have hlb5 := hB5.lt; have hs6 := E16.size
      refine Wo_nil ?_; refine W_seq ?_; refine W_region rfl ?_; refine Wo rfl (opv_makeFunc rfl rfl) ?_; refine Wo_st (v := .func _ _ _) rfl Tryz.sizeOf1 rfl rfl rfl hB5 (by decide) (by omega) (E11.trans E16) ?_
      rintro w10 E17 hB5 K4 hz4; have E18 := (E12.trans E16).wroteAt (E11.trans E16) E17 K4 hz4 (by omega); have szE18 := E18.size; have E19 := (E13.trans E16).wroteAt (E11.trans E16) E17 K4 hz4 (by omega); have szE19 := E19.size
      have E20 := (E14.trans E16).wroteAt (E11.trans E16) E17 K4 hz4 (by omega); have szE20 := E20.size; have E21 := (E15.trans E16).wroteAt (E11.trans E16) E17 K4 hz4 (by omega); have szE21 := E21.size
      have E22 := E16.wroteAt (E11.trans E16) E17 K4 hz4 (by omega); have szE22 := E22.size; simp only [List.set] at hB5; have hB4 := (hB4.ext E16).of_heap (K4 _ (by omega)); have hB2 := (hB2.ext E16).of_heap (K4 _ (by omega))
      have hB1 := (hB1.ext E16).of_heap (K4 _ (by omega)); have hO1 := (hO1.ext E16).wrote K4 (by omega); have hB3 := (hB3.ext E16).of_heap (K4 _ (by omega)); refine Wo_nil ?_; refine W_seq ?_
    clear stop8
    have hb0 := hO1.back (by exact E18 : Ext w1 w10) (Nat.le_refl _)
    have hj : ESl Ints w1 u1 x1 := hb0.read
    have hB5' : Blk w10 b5 [plcV b4 b1 b2 b5] := hB5
    have hord : Owned w1.heap.size XI w10 (.slice (some ⟨b3, 0, none⟩) 1 1) (ints [0]) := ((own_lit1 hHb3 hb3).ext (by exact E21 : Ext w6 w10)).mono (by omega)
    have hP : Plc w.heap.size w1 w10 b4 b1 b2 b5 u1 u1 (.slice (some ⟨b3, 0, none⟩) 1 1) x1 [0] := ⟨by exact E18, hB1, hB5', hB2, hB4, hord, fun k hk => by
      have e : b3 = k := Option.some.inj hk
      omega, OwS.ofB hO1 (Nat.le_refl _) (fun k hk => by
        simp only [List.mem_cons] at hk
        rcases hk with rfl | rfl | hk
        · omega
        · omega
        · have e : b3 = k := Option.some.inj (mem_own hk)
          omega), hcp⟩
    have kP := place_ok w1 w.heap.size (by omega) u1 x1 hcp hj b4 b1 b2 b5 (by omega) (by omega) (by omega) (by omega) (by omega) (by omega) (by omega) (by omega) (by omega) (by omega) _ [0] w10 u1 _ x1 rfl ⟨by simp, rfl, fun x hx => by rw [List.mem_singleton.1 hx]; omega⟩ hP
    clear hB5
    focus
      have szE22 := E22.size; have szE21 := E21.size; have szE20 := E20.size; have szE19 := E19.size; have szE18 := E18.size; have szE17 := E17.size; have szE16 := E16.size; have szE15 := E15.size; have szE14 := E14.size
      have szE13 := E13.size; have szE12 := E12.size; have szE11 := E11.size; have szE10 := E10.size; have szE9 := E9.size; have szE8 := E8.size; have szE7 := E7.size; have szE6 := E6.size; have szE5 := E5.size; have szE4 := E4.size
      have szE3 := E3.size; have szE2 := E2.size; have szE1 := E1.size; refine W_region rfl ?_; refine Wo (v := .func _ _ _) rfl (opv_load Tryz.isAgg1 rfl (hB5'.cell rfl)) ?_; refine Wo_call rfl (opc_val0 Tryz.call48 rfl) (kP) ?_
    rintro _ w11 ⟨rfl, bv, ov, bs, hP', hS', hF', hN'⟩
    have hbs := hS'.lst hp ha hy1
    subst hbs
    obtain ⟨E30, hC6, hC9, hC7, hC8, hCO, hCne, hCsp, hCpb⟩ := id hP'
    have icb := OwnedB.isC hCsp.o.toB
    have hE : Ext w w11 := E1.trans E30
    have hres := hCsp.o
    clear hP' hCsp hCO hC8
    focus
      have szE30 := E30.size; have szE22 := E22.size; have szE21 := E21.size; have szE20 := E20.size; have szE19 := E19.size; have szE18 := E18.size; have szE17 := E17.size; have szE16 := E16.size; have szE15 := E15.size
      have szE14 := E14.size; have szE13 := E13.size; have szE12 := E12.size; have szE11 := E11.size; have szE10 := E10.size; have szE9 := E9.size; have szE8 := E8.size; have szE7 := E7.size; have szE6 := E6.size; have szE5 := E5.size
      have szE4 := E4.size; have szE3 := E3.size; have szE2 := E2.size; have szE1 := E1.size; refine Wo_nil ?_; refine W_seq ?_; refine W_region rfl ?_; refine Wo (v := bv) rfl (opv_load Tryz.isAgg22 rfl (hC7.cell rfl)) ?_
      refine Wo rfl (opv_assign (v := bv) rfl) ?_; refine Wo rfl (opv_assign (v := .bool _) rfl) ?_; refine Wo_nil ?_; refine W_ret ?_; refine at_ret (v := .tuple #[bv, .bool _]) rfl ?_; exact ⟨_, rfl, hE, hres.toB.o.mono (by omega)⟩
  · rw [if_neg h5, decide_eq_false h5]
    focus
      have szE4 := E4.size; have szE3 := E3.size; have szE2 := E2.size; have szE1 := E1.size; refine W_region rfl ?_; refine Wo (v := u1) rfl (opv_load Tryz.isAgg22 rfl (hB1.cell rfl)) ?_
      refine Wo rfl (opv_len Tryz.underlying22 rfl rj) ?_; refine Wo rfl (opv_gtr rfl rfl) ?_; refine Wo_nil ?_; refine W_cond_dec rfl (fun h1 => ?_) (fun h1 => ?_); refine W_seq ?_; refine W_region rfl ?_
      refine Wo rfl (opv_assign (v := .slice _ _ _) rfl) ?_; refine Wo rfl (opv_assign (v := .bool _) rfl) ?_; refine Wo_nil ?_; refine W_ret ?_; refine at_ret (v := .tuple #[.slice _ _ _, .bool _]) rfl ?_; exact ⟨_, rfl, E3, Owned.nil⟩
      (exfalso; omega)

end Go.Proofs.YtgphoihilheoeaaGreatDoor
namespace Go.Proofs.YtgphoihilheoeaaGreatDoor
open Go.Hs
set_option maxRecDepth 10000
set_option maxHeartbeats 4000000
set_option linter.unusedVariables false
set_option linter.unusedSimpArgs false

theorem flat28 : Flat Tryz.prog 28 [.slice none 0 0, .slice none 0 0] := ⟨_, Tryz.underlying28, fun _ => by kernel_rfl, fun _ => by kernel_rfl⟩
theorem spec_DeskNew_ok (w : World) (v : Value) (p : List (List Int)) (h : ESl Ints w v p) (z : Int) : Does Tryz.prog 13 [v, .int .i64 z] w (RetDkB w 22 58 3 (if Nod p z then lst p z.toNat else []) [] (decide (Nod p z))) := by
  refine fn_of_Wct Tryz.func13 rfl Tryz.results13 Tryz.ntmps13 rfl Tryz.isAgg28 Tryz.sizeOf28 ?_
  by_cases hz : Nod p z
  · have k1 : ∀ (w : World) (v : Value), ESl Ints w v p → Does Tryz.prog 31 [v, .int .i64 z] w (Ret w (.bool true)) := fun w v h => by
      have := NodeOk_ok w v p h z
      rw [decide_eq_true hz] at this; exact this
    have k2 : ∀ (w : World) (v : Value), ESl Ints w v p → Does Tryz.prog 32 [v, .int .i64 z] w (RetO w XR (lst p z.toNat)) := fun w v h => by
      have := LeastOf_ok w v p h z
      rw [if_pos hz] at this; exact this
    rw [if_pos hz, decide_eq_true hz]
    have litown : True := trivial
    focus
      refine W_seq ?_; refine W_region rfl ?_; refine Wo_alloc2 rfl flat28 ?_; rintro b1 w1 hb1 E1 hB1; have hlb1 := hB1.lt; have hs1 := E1.size; refine Wo rfl (opv_assign (v := .bool _) rfl) ?_; refine Wo_nil ?_; refine W_seq ?_
      refine W_seq ?_; refine W_region rfl ?_; refine Wo rfl (opv_move (v := v) rfl) ?_; refine Wo rfl (opv_move (v := .int _ _) rfl) ?_
      refine Wo_call rfl (opc2 (a := v) (b := .int _ _) Tryz.call31 rfl rfl) (k1 _ _ ((Mono.mono E1 h))) ?_; rintro _ w2 ⟨rfl, E2⟩; have hs2 := E2.size; refine Wo rfl (opv_not rfl) ?_; refine Wo_nil ?_
      refine W_cond rfl (fun h1 => ?_) (fun h1 => ?_); contradiction; refine W_skip ?_; refine W_seq ?_; refine W_region rfl ?_; refine Wo rfl (opv_move (v := v) rfl) ?_; refine Wo rfl (opv_move (v := .int _ _) rfl) ?_
      refine Wo_call rfl (opc2 (a := v) (b := .int _ _) Tryz.call32 rfl rfl) (k2 _ _ ((Mono.mono (E1.trans E2) h))) ?_; rintro u1 w3 ⟨E3, hO1⟩; have ichO1 := OwnedB.isC (Owned.toB hO1); have hs3 := E3.size
      refine Wo rfl (opv_buildF0 flat28 rfl (OwnedB.isC hO1.toB)) ?_; refine Wo_st2 rfl Tryz.sizeOf28 rfl rfl (by first | rfl | assumption) (by first | rfl | assumption) (hB1.ext (E2.trans E3)) (by omega) ((E1.trans E2).trans E3) ?_
      rintro w4 E4 hB1 K1 hz1; simp only [List.set] at hB1; have hO1 := hO1.toB.wrote K1 (by omega); refine Wo rfl (opv_assign (v := .bool _) rfl) ?_; refine Wo_nil ?_; refine W_ret ?_
    exact ⟨b1, u1, _, rfl, hB1, u1, _, w3.heap.size, rfl, E4, hO1.wide (by omega) (Nat.le_refl _), Owned.nil, by omega, by omega⟩
  · have k1 : ∀ (w : World) (v : Value), ESl Ints w v p → Does Tryz.prog 31 [v, .int .i64 z] w (Ret w (.bool false)) := fun w v h => by
      have := NodeOk_ok w v p h z
      rw [decide_eq_false hz] at this; exact this
    rw [if_neg hz, decide_eq_false hz]
    focus
      refine W_seq ?_; refine W_region rfl ?_; refine Wo_alloc2 rfl flat28 ?_; rintro b1 w1 hb1 E1 hB1; have hlb1 := hB1.lt; have hs1 := E1.size; refine Wo rfl (opv_assign (v := .bool _) rfl) ?_; refine Wo_nil ?_; refine W_seq ?_
      refine W_seq ?_; refine W_region rfl ?_; refine Wo rfl (opv_move (v := v) rfl) ?_; refine Wo rfl (opv_move (v := .int _ _) rfl) ?_
      refine Wo_call rfl (opc2 (a := v) (b := .int _ _) Tryz.call31 rfl rfl) (k1 _ _ ((Mono.mono E1 h))) ?_; rintro _ w2 ⟨rfl, E2⟩; have hs2 := E2.size; refine Wo rfl (opv_not rfl) ?_; refine Wo_nil ?_
      refine W_cond rfl (fun h1 => ?_) (fun h1 => ?_); refine W_seq ?_; refine W_region rfl ?_; refine Wo rfl (opv_build (ps := []) (cs := [_, _]) flat28 rfl rfl) ?_
      refine Wo_st2 rfl Tryz.sizeOf28 rfl rfl (by first | rfl | assumption) (by first | rfl | assumption) (hB1.ext E2) (by omega) (E1.trans E2) ?_; rintro w3 E3 hB1 K1 hz1; refine Wo rfl (opv_assign (v := .bool _) rfl) ?_
      refine Wo_nil ?_; refine W_ret ?_; rotate_left; contradiction
    exact ⟨b1, _, _, rfl, hB1, _, _, w.heap.size, rfl, E3, OwnedB.nil, Owned.nil, Nat.le_refl _, E3.size⟩

end Go.Proofs.YtgphoihilheoeaaGreatDoor
set_option linter.unusedVariables false
set_option linter.unusedSimpArgs false
namespace Go.Hs
def RetDkAB (w : World) (now : List (List Int)) (past : List (List (List Int))) (b : Bool) : Value → World → Prop := fun v w' => ∃ u1 u2, v = .tuple #[.agg #[u1, u2], .bool b] ∧ Ext w w' ∧ Above w.heap.size (ESl Ints) w' u1 now ∧ Above w.heap.size (ESl (ESl Ints)) w' u2 past ∧ isCell u1 = true ∧ isCell u2 = true ∧ w.heap.size < w'.heap.size
section
variable {α : Type} {F : World → Value → α → Prop} {w : World} {b o n c k c' : Nat} {xs : List α}
theorem ESl_isC {v : Value} (h : ESl F w v xs) : isCell v = true := by obtain ⟨a, c, rfl, _⟩ := h; rfl
theorem ESl.dropS (h : ESl F w (.slice (some ⟨b, o, none⟩) n c) xs) (hk : k ≤ n) : ESl F w (.slice (some ⟨b, o + k, none⟩) (n - k) c') (xs.drop k) := by
  obtain ⟨a, c1, e1, hle, hr⟩ := h
  injection e1 with e1 e2 e3
  subst e1 e2
  refine ⟨some ⟨b, o + k, none⟩, c', by rw [List.length_drop], by rw [List.length_drop]; omega, ?_⟩
  rcases hr with rfl | ⟨b', o', e4, hr⟩
  · exact .inl (by simp)
  · injection e4 with e4
    injection e4 with e4 e5 _
    subst e4 e5
    refine .inr ⟨b, o + k, rfl, fun i hi => ?_⟩
    rw [List.length_drop] at hi
    obtain ⟨u, h1, h2⟩ := hr (k + i) (by omega)
    refine ⟨u, ?_, ?_⟩
    · rw [show o + k + i = o + (k + i) by omega]; exact h1
    · rw [List.getElem_drop]; exact h2
end
/-- ... of blocks below H alone -/
def XLt {α : Type} (H : Nat) (X : World → List Nat → Value → α → Prop) : World → List Nat → Value → α → Prop := fun w fp v x => X w fp v x ∧ ∀ k ∈ fp, k < H
instance loc_XLt {α : Type} {H : Nat} {X : World → List Nat → Value → α → Prop} [Loc X] : Loc (XLt H X) := ⟨fun hk h => ⟨Loc.loc hk h.1, h.2⟩, fun h => Loc.lt h.1, fun h => Loc.cell h.1⟩
instance shows_XLt {α : Type} {H : Nat} {X : World → List Nat → Value → α → Prop} {E : World → Value → α → Prop} [Shows X E] : Shows (XLt H X) E := ⟨fun h => Shows.shows h.1⟩
theorem XAll.below {α : Type} {H : Nat} {X : World → List Nat → Value → α → Prop} {w : World} : ∀ {fs : List (List Nat)} {cs : List Value} {xs : List α}, (∀ k ∈ fs.flatten, k < H) → XAll X w fs cs xs → XAll (XLt H X) w fs cs xs
  | [], [], [], _, _ => trivial
  | f :: fs, c :: cs, x :: xs, hk, h => ⟨⟨h.1, fun k hm => hk k (by simp [hm])⟩, XAll.below (fun k hm => hk k (by simp only [List.flatten_cons, List.mem_append]; exact .inr hm)) h.2⟩
  | [], _ :: _, _, _, h => h.elim
  | [], [], _ :: _, _, h => h.elim
  | _ :: _, [], _, _, h => h.elim
  | _ :: _, _ :: _, [], _, h => h.elim
theorem XAll.over {α : Type} {H : Nat} {X : World → List Nat → Value → α → Prop} {w : World} : ∀ {fs : List (List Nat)} {cs : List Value} {xs : List α}, XAll (XLt H X) w fs cs xs → XAll X w fs cs xs ∧ ∀ k ∈ fs.flatten, k < H
  | [], [], [], _ => ⟨trivial, fun _ h => by cases h⟩
  | f :: fs, c :: cs, x :: xs, h => ⟨⟨h.1.1, (XAll.over h.2).1⟩, fun k hm => by
    simp only [List.flatten_cons, List.mem_append] at hm
    exact hm.elim (h.1.2 k) ((XAll.over h.2).2 k)⟩
  | [], _ :: _, _, h => h.elim
  | [], [], _ :: _, h => h.elim
  | _ :: _, [], _, h => h.elim
  | _ :: _, _ :: _, [], h => h.elim
/-- a block that is neither below H nor the slice's own may change -/
theorem Owned.wroteLt {α : Type} {H lo b : Nat} {e : TypeId} {X : World → List Nat → Value → α → Prop} [Loc X] {w w' : World} {v : Value} {xs : List α} (h : Owned lo (XSl e (XLt H X)) w v xs) (K : ∀ k, lo ≤ k → k ≠ b → w'.heap[k]? = w.heap[k]?) (hb : H ≤ b) (hv : v.ownBlock ≠ some b) : Owned lo (XSl e X) w' v xs := by
  obtain ⟨fp, h1, h2, cs, fps, h3, rfl, h5⟩ := h
  obtain ⟨h6, h7⟩ := h5.over
  exact ⟨_, h1, h2, cs, fps, ownsRow_loc (fun k e => K k (h2 k (by simp [e])) fun e' => hv (by rw [e, e'])) h3, rfl, h6.loc fun k hk => K k (h2 k (List.mem_append_right _ hk)) (by have := h7 k hk; omega)⟩
section
variable {α : Type} {E : World → Value → α → Prop} {X : World → List Nat → Value → α → Prop} {w w' w0 : World} {lo hi m b c i : Nat} {v u : Value} {xs ys : List α} {q : α} {e t ty : TypeId}
theorem Above.dropS {F : World → Value → α → Prop} {k n c c' o : Nat} (h : Above lo (ESl F) w (.slice (some ⟨b, o, none⟩) n c) xs) (hk : k ≤ n) : Above lo (ESl F) w (.slice (some ⟨b, o + k, none⟩) (n - k) c') (xs.drop k) := fun w1 h1 h2 => (h w1 h1 h2).dropS hk
theorem Moves.ne {α' : Type} {X' : World → List Nat → Value → α' → Prop} {xs' : List α'} {w1 : World} {v' : Value} {hi b : Nat} (h : Moves w v w' v') (h1 : OwnedB lo hi (XSl e X') w1 v xs') (h2 : hi ≤ b) (h3 : b < w.heap.size) : v'.ownBlock ≠ some b := fun e => by
  rcases h.2 with h4 | ⟨g, h4, h5⟩
  · have := own_rng h1 (h4 ▸ e); omega
  · rw [h4] at e; cases e; omega
/-- an older row comes to an own slice -/
theorem Owned.appR [Loc X] {P : Program} {z : Value} {i : TypeInfo} (ht : P.underlying t = some (.slice e)) (hi : P.info? e = some i) (hz : i.zero = some z) (hs : i.size = 1) (hby : i.bytes ≤ 64) (hz1 : isCell z = true)
    {hi' : Nat} (h : OwnedB m hi' (XSl e X) w v xs) (a : Addr) (n c : Nat) (news : List Value) (fu : List (List Nat)) (hl : news.length = n) (hnews : ∀ j u, news[j]? = some u → w.cell? (a.add j) = some u)
    (hx : XAll X w fu news ys) (hnd : fu.flatten.Nodup) (hlf : ∀ k ∈ fu.flatten, lo ≤ k ∧ k < m)
    (hbig : xs.length + n ≤ 1099511627776) (hlo : lo ≤ m) (hmh : m ≤ hi') (hlw : lo ≤ w.heap.size) :
    ∃ v' w', (Builtin.append_ #[t, t] ty #[v, .slice (some a) n c]).run P w = .ok v' w' ∧ Owned lo (XSl e (XLt hi' X)) w' v' (xs ++ ys) ∧ w.grownBy w' v.ownBlock ∧
      (v'.ownBlock = v.ownBlock ∨ ∃ g, v'.ownBlock = some g ∧ w.heap.size ≤ g) := by
  obtain ⟨fp, hn, hB, hX⟩ := h
  have hge : ∀ k ∈ fp, lo ≤ k := fun k hk => Nat.le_trans hlo (hB k hk).1
  have hX' := hX
  have hdis' : ∀ k ∈ fu.flatten, k ∉ fp := fun k hk hm => by have := (hlf k hk).2; have := (hB k hm).1; omega
  obtain ⟨cs, fps, hr, rfl, hA⟩ := hX
  have hys := hx.len
  obtain ⟨v', w', h1, h2, h3, h4⟩ := run_app (P := P) (ty := ty) ht hi hz hs hby hz1 hr a n c news hl hnews hx.cells (by omega) (Nat.zero_le _)
  refine ⟨v', w', h1, ?_, h3, h4⟩
  have hlt := Loc.lt hX'
  have hltu := hx.lt
  have nin : ∀ k ∈ fps.flatten, some k ≠ v.ownBlock := by
    intro k hk e
    have h5 := (List.nodup_append.1 hn).2.2
    exact h5 k (by rw [← e]; simp) k hk rfl
  have ninu : ∀ k ∈ fu.flatten, some k ≠ v.ownBlock := by
    intro k hk e
    exact hdis' k hk (by rw [← e]; simp)
  refine ⟨v'.ownBlock.toList ++ (fps ++ fu).flatten, ?_, ?_, cs ++ news, fps ++ fu, ?_, rfl, ?_⟩
  · rw [List.flatten_append]
    rw [List.nodup_append] at hn
    have base : (fps.flatten ++ fu.flatten).Nodup := List.nodup_append.2 ⟨hn.2.1, hnd, fun a ha b hb hab => hdis' b hb (by subst hab; exact List.mem_append_right _ ha)⟩
    rcases h4 with h4 | ⟨g, h4, hg⟩
    · rw [h4]
      refine List.nodup_append.2 ⟨hn.1, base, fun a ha b hb hab => ?_⟩
      subst hab
      rcases List.mem_append.1 hb with hb | hb
      · exact hn.2.2 a ha a hb rfl
      · exact hdis' a hb (List.mem_append_left _ ha)
    · rw [h4]
      refine List.nodup_append.2 ⟨by simp, base, fun a ha b hb hab => ?_⟩
      subst hab
      simp at ha
      subst ha
      rcases List.mem_append.1 hb with hb | hb
      · have := hlt a (List.mem_append_right _ hb); omega
      · have := hltu a hb; omega
  · intro k hk
    rw [List.flatten_append] at hk
    rcases List.mem_append.1 hk with hk | hk
    · rcases h4 with h4 | ⟨g, h4, hg⟩
      · rw [h4] at hk; exact hge k (List.mem_append_left _ hk)
      · rw [h4] at hk; simp at hk; omega
    · rcases List.mem_append.1 hk with hk | hk
      · exact hge k (List.mem_append_right _ hk)
      · exact (hlf k hk).1
  · have : (xs ++ ys).length = xs.length + n := by rw [List.length_append]; omega
    rw [this]; exact h2
  · refine XAll.below (fun k hk => ?_) (XAll.append (hA.loc fun k hk => ?_) (hx.loc fun k hk => ?_))
    · rw [List.flatten_append] at hk
      rcases List.mem_append.1 hk with hk | hk
      · exact (hB k (List.mem_append_right _ hk)).2
      · have := (hlf k hk).2; omega
    · exact h3.block k (hlt k (List.mem_append_right _ hk)) (nin k hk)
    · exact h3.block k (hltu k hk) (ninu k hk)
variable {P : Program} {n : Nat} {N : Env → World → Prop} {ρ : Env} {all : Array Oper} {rest : List Oper} {d : Nat} {pos : String} {after : Array Edge} {g : Option (Nat × Bool)} {x s : Operand} {z : Value}
theorem Wo_app1r [Loc X] (hw : wantedE all ⟨some d, .call { callee := .builtin .append, args := #[s, x], argTypes := #[t, t] }, ty, pos, after, g⟩ ρ = true) (hel : El P t e z)
    (hv : evalE ρ s = v) (hx : evalE ρ x = .slice (some ⟨b, 0, none⟩) 1 c) (hB : Blk w b [u]) {hi : Nat} (h : OwnedB m hi (XSl e X) w v xs) (hu : OwnedB lo m X w u q)
    (hbig : xs.length + 1 ≤ 1099511627776) (hlo : lo ≤ m ∧ m ≤ hi) (hlw : lo ≤ w.heap.size) (h0 : Ext w0 w) (hl0 : w0.heap.size ≤ lo)
    (hk : ∀ v' w', Owned lo (XSl e (XLt hi X)) w' v' (xs ++ [q]) → Ext w0 w' → Moves w v w' v' → Wops P n all rest N (upd ρ d v') w') :
    Wops P n all (⟨some d, .call { callee := .builtin .append, args := #[s, x], argTypes := #[t, t] }, ty, pos, after, g⟩ :: rest) N ρ w := by
  obtain ⟨i, hi', hz, hs, hby⟩ := hel.info
  obtain ⟨fu, hn, hge, hX⟩ := hu
  have hcell : w.cell? ⟨b, 0, none⟩ = some u := hB.cell rfl
  have h' := h
  obtain ⟨v', w', h1, h2, h3, h4⟩ := Owned.appR (lo := lo) (P := P) (ty := ty) (ys := [q]) hel.und hi' hz hs hby hel.zero h ⟨b, 0, none⟩ 1 c [u] [fu] rfl (fun j u' hj => by
    cases j with
    | zero => simp at hj; subst hj; simpa [Addr.add] using hcell
    | succ j => simp at hj) ⟨hX, trivial⟩ (by simpa using hn) (by simp only [List.flatten_cons, List.flatten_nil, List.append_nil]; intro k hk; exact hge k hk) hbig hlo.1 hlo.2 hlw
  refine Wo_run (v := v') (w' := w') hw ?_ (hk v' w' h2 ((Only.grownBy (fp := v.ownBlock.toList) h3 (fun k hk => by simp [hk])).ext h0 (fun k hk => ?_)) ⟨h3, h4⟩)
  · simp only [execOp, resolve, invoke, builtin, Sem.run_bind, Sem.run_pure, Result.andThen_ok, List.map_toArray, List.map_cons, List.map_nil, hv, hx, h1]
  · have : v.ownBlock = some k := by simpa using hk
    have := own_rng h' this
    omega
end
end Go.Hs
namespace Go.Proofs.YtgphoihilheoeaaGreatDoor
open Go.Hs
set_option maxRecDepth 10000
set_option maxHeartbeats 4000000
set_option linter.unusedVariables false
set_option linter.unusedSimpArgs false

end Go.Proofs.YtgphoihilheoeaaGreatDoor
set_option linter.unusedVariables false
set_option linter.unusedSimpArgs false
namespace Go.Hs
open Classical
section
variable {p q g : List (List Int)} {a b i j n m : Nat} {ms : List Nat}
/-- arrows of a row, place by place -/
theorem mem_arr' {r : List Int} (hi : i < p.length) (hr : p[i] = r) : j ∈ arr p i ↔ ∃ hj : j < r.length, r[j] = 1 := by
  unfold arr
  rw [getD_lt hi, hr, mem_arrR]
  constructor
  · rintro ⟨h1, h2⟩; exact ⟨h1, by rw [getD_lt h1] at h2; exact h2⟩
  · rintro ⟨h1, h2⟩; exact ⟨h1, by rw [getD_lt h1]; exact h2⟩
/-- both as one -/
def bes (p q : List (List Int)) : List (List Int) := (p.map fun r => r ++ List.replicate q.length 0) ++ q.map fun r => List.replicate p.length 0 ++ r
theorem bes_len : (bes p q).length = p.length + q.length := by simp [bes]
theorem bes_fst (hi : i < p.length) : (bes p q)[i]'(by rw [bes_len]; omega) = p[i] ++ List.replicate q.length 0 := by
  unfold bes
  rw [List.getElem_append_left (by simpa using hi)]
  simp
theorem bes_snd (hi : i < q.length) : (bes p q)[p.length + i]'(by rw [bes_len]; omega) = List.replicate p.length 0 ++ q[i] := by
  unfold bes
  rw [List.getElem_append_right (by simp)]
  simp
theorem bes_gr (hp : Gr p) (hq : Gr q) (h : p.length + q.length ≤ 11) : Gr (bes p q) := by
  refine ⟨by rw [bes_len]; have := hp.1; omega, by rw [bes_len]; exact h, fun r hr => ?_⟩
  rw [bes_len]
  rcases List.mem_append.1 hr with hr | hr
  · obtain ⟨r', h1, rfl⟩ := List.mem_map.1 hr
    obtain ⟨h2, h3⟩ := hp.2.2 r' h1
    refine ⟨by simp [h2], fun x hx => ?_⟩
    rcases List.mem_append.1 hx with hx | hx
    · exact h3 x hx
    · exact .inl (List.eq_of_mem_replicate hx)
  · obtain ⟨r', h1, rfl⟩ := List.mem_map.1 hr
    obtain ⟨h2, h3⟩ := hq.2.2 r' h1
    refine ⟨by simp [h2], fun x hx => ?_⟩
    rcases List.mem_append.1 hx with hx | hx
    · exact .inl (List.eq_of_mem_replicate hx)
    · exact h3 x hx
theorem arr_bes1 (hp : Gr p) (hi : i < p.length) : j ∈ arr (bes p q) i ↔ j ∈ arr p i := by
  rw [mem_arr' (by rw [bes_len]; omega) (bes_fst hi), mem_arr' hi rfl]
  constructor
  · rintro ⟨h1, h2⟩
    by_cases hj : j < p[i].length
    · exact ⟨hj, by rw [List.getElem_append_left hj] at h2; exact h2⟩
    · rw [List.getElem_append_right (by omega)] at h2
      simp at h2
  · rintro ⟨h1, h2⟩
    exact ⟨by simp; omega, by rw [List.getElem_append_left h1]; exact h2⟩
theorem arr_bes2 (hq : Gr q) (hi : i < q.length) : j ∈ arr (bes p q) (p.length + i) ↔ ∃ k ∈ arr q i, j = p.length + k := by
  rw [mem_arr' (by rw [bes_len]; omega) (bes_snd hi)]
  constructor
  · rintro ⟨h1, h2⟩
    by_cases hj : j < p.length
    · rw [List.getElem_append_left (by simpa using hj)] at h2
      simp at h2
    · rw [List.getElem_append_right (by simp; omega)] at h2
      simp only [List.length_replicate] at h2
      simp only [List.length_append, List.length_replicate] at h1
      exact ⟨j - p.length, (mem_arr' hi rfl).2 ⟨by omega, h2⟩, by omega⟩
  · rintro ⟨k, hk, rfl⟩
    obtain ⟨h1, h2⟩ := (mem_arr' hi rfl).1 hk
    refine ⟨by simp; omega, ?_⟩
    rw [List.getElem_append_right (by simp)]
    simpa using h2
/-- a node ahead, with arrows to these -/
def put (g : List (List Int)) (ms : List Nat) : List (List Int) := (0 :: (List.range g.length).map fun j => b01 (ms.contains j)) :: g.map fun r => 0 :: r
theorem put_len : (put g ms).length = g.length + 1 := by simp [put]
theorem put_gr (hg : Gr g) (h : g.length ≤ 10) : Gr (put g ms) := by
  refine ⟨by rw [put_len]; omega, by rw [put_len]; omega, fun r hr => ?_⟩
  rw [put_len]
  rcases List.mem_cons.1 hr with rfl | hr
  · refine ⟨by simp, fun x hx => ?_⟩
    rcases List.mem_cons.1 hx with rfl | hx
    · exact .inl rfl
    · obtain ⟨j, _, rfl⟩ := List.mem_map.1 hx
      unfold b01; split <;> simp
  · obtain ⟨r', h1, rfl⟩ := List.mem_map.1 hr
    obtain ⟨h2, h3⟩ := hg.2.2 r' h1
    refine ⟨by simp [h2], fun x hx => ?_⟩
    rcases List.mem_cons.1 hx with rfl | hx
    · exact .inl rfl
    · exact h3 x hx
/-- the least picture of the set of these, if it has not too many nodes -/
noncomputable def putV (g : List (List Int)) (ms : List Nat) : Option (List (List Int)) := if (lst (put g ms) 0).length ≤ 5 then some (lst (put g ms) 0) else none
theorem putV_some {c : List (List Int)} (hg : Gr g) (h : g.length ≤ 10) (hc : putV g ms = some c) : LeastP c ∧ Bis (put g ms) 0 c 0 := by
  have h0 : 0 < (put g ms).length := by rw [put_len]; omega
  unfold putV at hc
  split at hc
  · rename_i h5
    cases hc
    exact ⟨LeastP.lst (put_gr hg h) h0 h5, lst_bis (put_gr hg h) h0⟩
  · cases hc
noncomputable def pairV (p : List (List Int)) (a : Nat) (q : List (List Int)) (b : Nat) : Option (List (List Int)) := putV (bes p q) [a, p.length + b]
noncomputable def togV (p : List (List Int)) (a : Nat) (q : List (List Int)) (b : Nat) : Option (List (List Int)) := putV (bes p q) (arr (bes p q) a ++ arr (bes p q) (p.length + b))
noncomputable def wosV (p : List (List Int)) (a : Nat) (q : List (List Int)) (b : Nat) : Option (List (List Int)) := putV p ((arr p a).filter fun v => !decide (Bis p v q b))
theorem Pic.bes5 (hp : Pic p) (hq : Pic q) : Gr (bes p q) ∧ (bes p q).length ≤ 10 := by
  have h1 := hp.2.1
  have h2 := hq.2.1
  exact ⟨bes_gr hp.gr hq.gr (by omega), by rw [bes_len]; omega⟩
theorem pairV_some {c : List (List Int)} (hp : Pic p) (hq : Pic q) (h : pairV p a q b = some c) : LeastP c := (putV_some (hp.bes5 hq).1 (hp.bes5 hq).2 h).1
theorem togV_some {c : List (List Int)} (hp : Pic p) (hq : Pic q) (h : togV p a q b = some c) : LeastP c := (putV_some (hp.bes5 hq).1 (hp.bes5 hq).2 h).1
theorem wosV_some {c : List (List Int)} (hp : Pic p) (h : wosV p a q b = some c) : LeastP c := (putV_some hp.gr (by have := hp.2.1; omega) h).1
end
end Go.Hs
set_option linter.unusedVariables false
set_option linter.unusedSimpArgs false
namespace Go.Hs
section
variable {p q g : List (List Int)} {a b n k x : Nat} {L ms ms' : List Nat}
theorem put_congr (h : ∀ j, j ∈ ms ↔ j ∈ ms') : put g ms = put g ms' := by
  unfold put
  congr 1
  congr 1
  refine List.map_congr_left fun j _ => ?_
  congr 1
  rw [Bool.eq_iff_iff, List.contains_iff_mem, List.contains_iff_mem, h]
theorem bes_nil : bes p [] = p := by
  unfold bes
  simp
/-- the first row, as far as it is laid -/
def ro (g : Nat) (ms : List Nat) : List Int := 0 :: (List.range g).map fun j => b01 (ms.contains j)
theorem ro_len {g : Nat} : (ro g ms).length = g + 1 := by simp [ro]
theorem ro_nil {g : Nat} : ro g [] = List.replicate (g + 1) 0 := by
  unfold ro
  rw [List.replicate_succ]
  congr 1
  apply List.ext_getElem (by simp)
  intro i h1 h2
  simp [b01]
theorem ro_step {g : Nat} (hx : x < g) : (ro g ms).set (x + 1) 1 = ro g (ms ++ [x]) := by
  unfold ro
  rw [List.set_cons_succ]
  congr 1
  apply List.ext_getElem (by simp)
  intro i h1 h2
  have hi : i < g := by simpa using h2
  rw [List.getElem_set]
  simp only [List.getElem_map, List.getElem_range]
  by_cases e : x = i
  · subst e
    have : (ms ++ [x]).contains x = true := by simp
    rw [if_pos rfl, this]; rfl
  · have : (ms ++ [x]).contains i = ms.contains i := by
      rw [Bool.eq_iff_iff]; simp; intro h; exact absurd h.symm e
    rw [if_neg e, this]
theorem put_eq : put g ms = ro g.length ms :: g.map fun r => 0 :: r := rfl
/-- kinds found by walking on -/
structure Wlk (p : List (List Int)) (L : List Nat) : Prop where
  nd : (L.map (knd p)).Nodup
  hd : L.head? = some 0
  rc : ∀ x ∈ L, Rch p 0 x
theorem Wlk.zero : Wlk p [0] := ⟨by simp, rfl, fun x hx => by rw [List.mem_singleton.1 hx]; exact .refl 0⟩
theorem Wlk.step (h : Wlk p L) {x j : Nat} (hx : x ∈ L) (hj : j ∈ arr p x) (hn : knd p j ∉ L.map (knd p)) : Wlk p (L ++ [j]) := by
  refine ⟨?_, ?_, fun y hy => ?_⟩
  · rw [List.map_append, List.nodup_append]
    refine ⟨h.nd, by simp, fun y hy z hz e => ?_⟩
    simp only [List.map_cons, List.map_nil, List.mem_singleton] at hz
    subst hz; subst e; exact hn hy
  · rw [List.head?_append, h.hd]; rfl
  · rcases List.mem_append.1 hy with hy | hy
    · exact h.rc y hy
    · rw [List.mem_singleton.1 hy]; exact (h.rc x hx).step hj
theorem Wlk.lt (hp : Gr p) (h : Wlk p L) (hx : x ∈ L) : x < p.length := (h.rc x hx).lt hp hp.1
theorem Wlk.len (hp : Gr p) (h : Wlk p L) : L.length ≤ p.length := by
  have := nodup_len h.nd (n := p.length) fun j hj => by
    obtain ⟨y, hy, rfl⟩ := List.mem_map.1 hj
    exact knd_lt (h.lt hp hy)
  simpa using this
theorem Wlk.kds (hp : Gr p) (h : Wlk p L) (hc : ∀ x ∈ L, ∀ j ∈ arr p x, knd p j ∈ L.map (knd p)) : Kds p 0 (L.map (knd p)) := by
  have h0 : 0 ∈ L := by
    have := h.hd
    cases L with
    | nil => cases this
    | cons y l => simp at this; simp [this]
  have key : ∀ y, Rch p 0 y → y < p.length ∧ knd p y ∈ L.map (knd p) := by
    intro y hy
    induction hy with
    | refl => exact ⟨hp.1, List.mem_map.2 ⟨0, h0, rfl⟩⟩
    | step hr hj ih =>
      obtain ⟨hk, hm⟩ := ih
      obtain ⟨x, hx, e⟩ := List.mem_map.1 hm
      have hb := (knd_bis hp (h.lt hp hx) hk).1 e
      obtain ⟨j', hj', hb'⟩ := hb.snd _ hj
      have hl := arr_lt hp hk hj
      refine ⟨hl, ?_⟩
      rw [← (knd_bis hp (arr_lt hp (h.lt hp hx) hj') hl).2 hb']
      exact hc x hx j' hj'
  refine ⟨h.nd, by rw [List.head?_map, h.hd]; rfl, fun x => ⟨fun hx => ?_, ?_⟩⟩
  · obtain ⟨y, hy, rfl⟩ := List.mem_map.1 hx
    exact ⟨y, h.rc y hy, rfl⟩
  · rintro ⟨y, hy, rfl⟩
    exact (key y hy).2
end
end Go.Hs
set_option linter.unusedVariables false
set_option linter.unusedSimpArgs false
namespace Go.Hs
open Classical
structure Deed where
  kind : Int
  text : List UInt8
  node : Int
deriving DecidableEq
def sSingle : List UInt8 := [115, 105, 110, 103, 108, 101]
def sBack : List UInt8 := [98, 97, 99, 107]
def sInto : List UInt8 := [105, 110, 116, 111, 32]
def sAdd : List UInt8 := [97, 100, 100, 32]
def sDrop : List UInt8 := [100, 114, 111, 112, 32]
section
variable {p q : List (List Int)} {a b : Deed} {s l : List UInt8}
/-- the text of a deed -/
noncomputable def dtV (a : Deed) : List UInt8 :=
  if a.kind = 0 ∧ a.text = [] ∧ a.node = 0 then sSingle
  else if a.kind = 4 ∧ a.text = [] ∧ a.node = 0 then sBack
  else if a.kind = 3 ∧ a.text = [] ∧ 0 ≤ a.node ∧ a.node ≤ 9 then sInto ++ [dig a.node.toNat]
  else if a.node = 0 ∧ (rdP a.text).isSome then (if a.kind = 1 then sAdd ++ a.text else if a.kind = 2 then sDrop ++ a.text else [])
  else []
theorem dtV_single : dtV ⟨0, [], 0⟩ = sSingle := if_pos ⟨rfl, rfl, rfl⟩
theorem dtV_back : dtV ⟨4, [], 0⟩ = sBack := by
  unfold dtV
  rw [if_neg (by simp), if_pos ⟨rfl, rfl, rfl⟩]
theorem dtV_into {d : Nat} (h : d ≤ 9) : dtV ⟨3, [], (d : Int)⟩ = sInto ++ [dig d] := by
  unfold dtV
  rw [if_neg (by simp), if_neg (by simp), if_pos ⟨rfl, rfl, Int.natCast_nonneg _, by simp only; omega⟩]
  rfl
theorem dtV_add (hp : Pic p) : dtV ⟨1, txt p, 0⟩ = sAdd ++ txt p := by
  unfold dtV
  rw [if_neg (by simp), if_neg (by simp), if_neg (by simp), if_pos ⟨rfl, by rw [rdP_txt hp]; rfl⟩, if_pos rfl]
theorem dtV_drop (hp : Pic p) : dtV ⟨2, txt p, 0⟩ = sDrop ++ txt p := by
  unfold dtV
  rw [if_neg (by simp), if_neg (by simp), if_neg (by simp), if_pos ⟨rfl, by rw [rdP_txt hp]; rfl⟩, if_neg (by simp), if_pos rfl]
/-- the deeds that have a text -/
inductive Told : Deed → Prop
  | single : Told ⟨0, [], 0⟩
  | back : Told ⟨4, [], 0⟩
  | into (d : Nat) (h : d ≤ 9) : Told ⟨3, [], (d : Int)⟩
  | add (p : List (List Int)) (h : Pic p) : Told ⟨1, txt p, 0⟩
  | drop (p : List (List Int)) (h : Pic p) : Told ⟨2, txt p, 0⟩
theorem Told.ne (h : Told a) : dtV a ≠ [] := by
  cases h with
  | single => rw [dtV_single]; simp [sSingle]
  | back => rw [dtV_back]; simp [sBack]
  | into d h => rw [dtV_into h]; simp
  | add p h => rw [dtV_add h]; simp [sAdd]
  | drop p h => rw [dtV_drop h]; simp [sDrop]
end
end Go.Hs
set_option linter.unusedVariables false
set_option linter.unusedSimpArgs false
namespace Go.Hs
open Classical
structure Dsk where
  now : List (List Int)
  past : List (List (List Int))
def DkOk (d : Dsk) : Prop := LeastP d.now ∧ d.past.length ≤ 8 ∧ ∀ p ∈ d.past, LeastP p
section
variable {p q : List (List Int)} {a b : Deed} {d e : Dsk} {l l' : List Deed}
/-- what a deed makes of a set -/
noncomputable def madeV (p : List (List Int)) (a : Deed) : Option (List (List Int)) :=
  if a.kind = 0 ∧ a.text = [] ∧ a.node = 0 then pairV p 0 p 0
  else if a.kind = 1 ∧ a.node = 0 then (rdP a.text).bind fun q => (pairV q 0 q 0).bind fun s => togV p 0 s 0
  else if a.kind = 2 ∧ a.node = 0 then (rdP a.text).bind fun q => wosV p 0 q 0
  else if a.kind = 3 ∧ a.text = [] ∧ 0 ≤ a.node ∧ a.node < p.length ∧ bit p 0 a.node.toNat = 1 then some (lst p a.node.toNat)
  else none
/-- the last eight -/
def last8 (l : List (List (List Int))) : List (List (List Int)) := if l.length > 8 then l.drop 1 else l
/-- the set that comes, if a deed can be done that is none of going back -/
noncomputable def nextV (p : List (List Int)) (a : Deed) : Option (List (List Int)) := match madeV p a with
  | some c => if c = p then none else some c
  | none => none
def isBack (d : Dsk) (a : Deed) : Prop := a = ⟨4, [], 0⟩ ∧ d.past ≠ []
noncomputable def doV (d : Dsk) (a : Deed) : Dsk × Bool :=
  if isBack d a then (⟨d.past.getLastD [], d.past.dropLast⟩, true)
  else match nextV d.now a with
    | some c => (⟨c, last8 (d.past ++ [d.now])⟩, true)
    | none => (d, false)
theorem madeV_least {c : List (List Int)} (hp : Pic p) (h : madeV p a = some c) : LeastP c := by
  unfold madeV at h
  split at h
  · exact pairV_some hp hp h
  split at h
  · simp only [Option.bind_eq_some_iff] at h
    obtain ⟨q, h1, s, h2, h3⟩ := h
    have hq := (rdP_some h1).1
    exact togV_some hp (pairV_some hq hq h2).1 h3
  split at h
  · simp only [Option.bind_eq_some_iff] at h
    obtain ⟨q, h1, h3⟩ := h
    exact wosV_some hp h3
  split at h
  · rename_i h4
    rw [← Option.some.inj h]
    have h5 : a.node.toNat < p.length := by omega
    exact LeastP.lst hp.gr h5 (Nat.le_trans (lst_le hp.gr h5) hp.2.1)
  · cases h
theorem nextV_some {c : List (List Int)} (h : nextV p a = some c) : madeV p a = some c ∧ c ≠ p := by
  unfold nextV at h
  split at h
  · rename_i x hx
    split at h
    · cases h
    · rename_i hne
      rw [hx, ← Option.some.inj h]
      exact ⟨rfl, hne⟩
  · cases h
theorem last8_len (l : List (List (List Int))) (h : l.length ≤ 9) : (last8 l).length ≤ 8 := by
  unfold last8; split
  · simp; omega
  · omega
theorem last8_mem {l : List (List (List Int))} (h : p ∈ last8 l) : p ∈ l := by
  unfold last8 at h; split at h
  · exact List.mem_of_mem_drop h
  · exact h
theorem doV_ok (h : DkOk d) : DkOk (doV d a).1 := by
  unfold doV
  split
  · rename_i hb
    refine ⟨?_, by simp; have := h.2.1; omega, fun p hp => h.2.2 p (List.dropLast_subset _ hp)⟩
    refine h.2.2 _ ?_
    rw [List.getLastD_eq_getLast?, List.getLast?_eq_some_getLast hb.2]
    exact List.getLast_mem hb.2
  · split
    · rename_i c hc
      refine ⟨madeV_least h.1.1 (nextV_some hc).1, last8_len _ (by simp; exact h.2.1), fun p hp => ?_⟩
      rcases List.mem_append.1 (last8_mem hp) with hp | hp
      · exact h.2.2 p hp
      · simp only [List.mem_singleton] at hp; subst hp; exact h.1
    · exact h
end
end Go.Hs
