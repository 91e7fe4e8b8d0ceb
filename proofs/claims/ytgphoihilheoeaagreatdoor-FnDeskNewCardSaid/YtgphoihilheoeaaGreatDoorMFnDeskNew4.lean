/- Lemmas for FnDeskNew. -/
import Derived.Test.YtgphoihilheoeaaGreatDoorMFnDeskNew3
import Derived.Test.YtgphoihilheoeaaGreatDoorProg
set_option linter.unusedVariables false
set_option linter.unusedSimpArgs false
namespace Go.Hs
/-- these numbers laid over a row from a place on -/
def setMany (r : List Int) (o : Nat) : List Int → List Int
  | [] => r
  | x :: xs => setMany (r.set o x) (o + 1) xs
theorem setMany_eq : ∀ (xs : List Int) (r : List Int) (o : Nat), o + xs.length ≤ r.length → setMany r o xs = r.take o ++ xs ++ r.drop (o + xs.length)
  | [], r, o, _ => by simp [setMany]
  | x :: xs, r, o, h => by
    simp only [List.length_cons] at h
    unfold setMany
    rw [setMany_eq xs _ _ (by simp; omega)]
    have ho : o < r.length := by omega
    have h1 : (r.set o x).take (o + 1) = r.take o ++ [x] := by
      rw [List.take_succ_eq_append_getElem (by simpa using ho), List.getElem_set_self, List.take_set_of_le (Nat.le_refl _)]
    have h2 : (r.set o x).drop (o + 1 + xs.length) = r.drop (o + (x :: xs).length) := by
      rw [List.drop_set_of_lt (by omega)]
      congr 1
      simp only [List.length_cons]; omega
    rw [h1, h2]
    simp
section
variable {P : Program} {lo br m cr i o : Nat} {v : Value} {e e2 : TypeId}
theorem store_row : ∀ (xs : List Int) (i0 : Nat) (w : World) (p : List (List Int)) (hi : i < p.length), Owned lo (XSl e (XSl e2 XInt)) w v p → RowAt w v i br m cr → o + i0 + xs.length ≤ p[i].length →
    ∃ w', (storeCells ⟨br, o, none⟩ (xs.map (Value.int .i64)) i0).run P w = .ok () w' ∧ Owned lo (XSl e (XSl e2 XInt)) w' v (p.set i (setMany p[i] (o + i0) xs)) ∧ RowAt w' v i br m cr ∧ Only [br] w w' ∧ (∀ k, k ≠ br → w'.heap[k]? = w.heap[k]?) ∧ w'.heap.size = w.heap.size
  | [], i0, w, p, hi, h, hR, _ => by
    refine ⟨w, by simp [storeCells], ?_, hR, Only.refl, fun _ _ => rfl, rfl⟩
    rw [show p.set i (setMany p[i] (o + i0) []) = p by simp [setMany]]
    exact h
  | x :: xs, i0, w, p, hi, h, hR, hl => by
    simp only [List.length_cons] at hl
    obtain ⟨h1, hlo, u, hc, hf⟩ := h.setRow (q := x) (j := o + i0) hi hR (by omega)
    have hR1 : RowAt (w.setCell ⟨br, o + i0, none⟩ (.int .i64 x)) v i br m cr := hR.of_heap fun k hk => heap_setCell_other _ hk
    have hil : i < (p.set i (p[i].set (o + i0) x)).length := by rw [List.length_set]; exact hi
    have hrl : (p.set i (p[i].set (o + i0) x))[i] = p[i].set (o + i0) x := by rw [List.getElem_set_self]
    obtain ⟨w', k1, k2, k3, k4, k5, k6⟩ := store_row xs (i0 + 1) _ _ hil h1 hR1 (by rw [hrl, List.length_set]; omega)
    refine ⟨w', ?_, ?_, k3, (Only.setCell (by simp)).trans k4, fun k hk => (k5 k hk).trans (heap_setCell_other _ hk), k6.trans (size_setCell _ _)⟩
    · have k0 := run_store_cell (P := P) (w := w) (ad := ⟨br, o + i0, none⟩) (v := .int .i64 x) rfl hc hf
      have ea : (⟨br, o, none⟩ : Addr).add i0 = ⟨br, o + i0, none⟩ := add_mk br o i0
      simp [storeCells, ea, k0, k1]
    · rw [hrl, List.set_set] at k2
      exact k2
theorem load_ints {w : World} {b o : Nat} : ∀ (xs : List Int) (i0 : Nat) (acc : Array Value), (∀ j (h : j < xs.length), w.cell? ⟨b, o + (i0 + j), none⟩ = some (.int .i64 xs[j])) →
    (loadCellsFrom ⟨b, o, none⟩ i0 xs.length acc).run P w = .ok (acc ++ (xs.map (Value.int .i64)).toArray) w
  | [], i0, acc, _ => by simp [loadCellsFrom]
  | x :: xs, i0, acc, h => by
    have h0 := h 0 (by simp)
    have ea : (⟨b, o, none⟩ : Addr).add i0 = ⟨b, o + i0, none⟩ := add_mk b o i0
    have ih := load_ints xs (i0 + 1) (acc.push (.int .i64 x)) fun j hj => by
      have := h (j + 1) (by simpa using hj)
      rw [show i0 + 1 + j = i0 + (j + 1) by omega]
      simpa using this
    simp only [Nat.add_zero, List.getElem_cons_zero] at h0
    simp [loadCellsFrom, ea, h0, ih]
end
section
variable {P : Program} {n : Nat} {N : Env → World → Prop} {ρ : Env} {w w0 : World} {all : Array Oper} {rest : List Oper} {d : Nat} {ty t t2 el e e2 : TypeId} {pos : String} {after : Array Edge} {g : Option (Nat × Bool)} {x y : Operand} {v u : Value} {lo hi' br m cr i o dl dc : Nat} {xs : List Int} {p : List (List Int)}
/-- copy(row[o:], xs) in own rows -/
theorem Wo_cpy (hw : wantedE all ⟨some d, .call { callee := .builtin .copy, args := #[x, y], argTypes := #[t, t2] }, ty, pos, after, g⟩ ρ = true) (ht : P.underlying t = some (.slice el)) (hs : ∀ w, (sizeOf el).run P w = .ok 1 w)
    (hx : evalE ρ x = .slice (some ⟨br, o, none⟩) dl dc) (hy : evalE ρ y = u) (hI : Ints w u xs) (h : OwnedB lo hi' (XSl e (XSl e2 XInt)) w v p) (hR : RowAt w v i br m cr) (hi : i < p.length) (hj : o + xs.length ≤ p[i].length) (hdl : xs.length ≤ dl)
    (hk : ∀ w1, Owned lo (XSl e (XSl e2 XInt)) w1 v (p.set i (setMany p[i] o xs)) → RowAt w1 v i br m cr → Only [br] w w1 → (∀ k, k ≠ br → w1.heap[k]? = w.heap[k]?) → w1.heap.size = w.heap.size → Wops P n all rest N (upd ρ d (.int .i64 (xs.length : Int))) w1) :
    Wops P n all (⟨some d, .call { callee := .builtin .copy, args := #[x, y], argTypes := #[t, t2] }, ty, pos, after, g⟩ :: rest) N ρ w := by
  obtain ⟨a, c, rfl, h1, h2⟩ := hI
  obtain ⟨w', k1, k2, k3, k4, k5, k6⟩ := store_row (P := P) (o := o) xs 0 w p hi h.o hR (by omega)
  refine Wo_run (w' := w') hw ?_ (hk w' k2 k3 k4 k5 k6)
  have hmin : Nat.min xs.length dl = xs.length := Nat.min_eq_left hdl
  have hl : (Builtin.copy_ #[t, t2] ty #[.slice (some ⟨br, o, none⟩) dl dc, .slice a xs.length c]).run P w = .ok (.int .i64 (xs.length : Int)) w' := by
    rcases h2 with rfl | ⟨b, o', rfl, hc⟩
    · simp only [List.map_nil] at k1
      cases a with
      | none => simp [Builtin.copy_, Builtin.lenOf, Builtin.firstCells, run_und ht, hs, k1, goInt]
      | some a => simp [Builtin.copy_, Builtin.lenOf, Builtin.firstCells, run_und ht, hs, k1, goInt, loadCells, loadCellsFrom]
    · have hld := load_ints (P := P) (w := w) (b := b) (o := o') xs 0 #[] fun j hj => by
        obtain ⟨u, h3, h4⟩ := hc j hj
        rw [Nat.zero_add, h3, h4]
      simp [Builtin.copy_, Builtin.lenOf, Builtin.firstCells, run_und ht, hs, hmin, loadCells, hld, k1, goInt]
  simp [execOp, resolve, invoke, builtin, hx, hy, hl]
end
end Go.Hs
namespace Go.Proofs.YtgphoihilheoeaaGreatDoor
open Go.Hs
set_option maxRecDepth 10000
set_option maxHeartbeats 4000000
set_option linter.unusedVariables false
set_option linter.unusedSimpArgs false
/-- the rows ahead of i are laid -/
def besQ (p q : List (List Int)) (i : Nat) : List (List Int) := (bes p q).take i ++ List.replicate (p.length + q.length - i) (List.replicate (p.length + q.length) 0)
theorem besQ_len {p q : List (List Int)} {i : Nat} (hi : i ≤ p.length + q.length) : (besQ p q i).length = p.length + q.length := by
  unfold besQ
  rw [List.length_append, List.length_take, bes_len, List.length_replicate]
  omega
theorem besQ_at {p q : List (List Int)} {i : Nat} (hi : i < p.length + q.length) : (besQ p q i)[i]'(by rw [besQ_len (by omega)]; exact hi) = List.replicate (p.length + q.length) 0 := by
  have hl : ((bes p q).take i).length = i := by rw [List.length_take, bes_len]; omega
  unfold besQ
  rw [List.getElem_append_right (by omega)]
  simp
theorem besQ_set {p q : List (List Int)} {i : Nat} (hi : i < p.length + q.length) (r : List Int) (hr : (bes p q)[i]'(by rw [bes_len]; exact hi) = r) : (besQ p q i).set i r = besQ p q (i + 1) := by
  have := set_fill' (bes p q) (p.length + q.length) i bes_len hi (List.replicate (p.length + q.length) 0) r (by rw [List.getElem?_eq_getElem (by rw [bes_len]; exact hi), hr])
  exact this
theorem bes_row1 {p q : List (List Int)} {i : Nat} (hp : Gr p) (hi : i < p.length) : (bes p q)[i]'(by rw [bes_len]; omega) = setMany (List.replicate (p.length + q.length) 0) 0 p[i] := by
  have hl := hp.row hi
  rw [bes_fst hi, setMany_eq _ _ _ (by simp; omega)]
  simp only [List.take_zero, List.nil_append, Nat.zero_add, List.drop_replicate]
  rw [hl, Nat.add_sub_cancel_left]
theorem bes_row2 {p q : List (List Int)} {i : Nat} (hq : Gr q) (hi : i < q.length) : (bes p q)[p.length + i]'(by rw [bes_len]; omega) = setMany (List.replicate (p.length + q.length) 0) p.length q[i] := by
  have hl := hq.row hi
  rw [bes_snd hi, setMany_eq _ _ _ (by simp; omega)]
  rw [List.take_replicate, List.drop_replicate, hl, Nat.min_eq_left (by omega), Nat.sub_self]
  simp

theorem beside_ok (w : World) (v u : Value) (p q : List (List Int)) (h : ESl Ints w v p) (h' : ESl Ints w u q) (hp : Pic p) (hq : Pic q) : Does Tryz.prog 59 [v, u] w (RetO w XR (bes p q)) := by
  have hp5 := hp.2.1
  have hq5 := hq.2.1
  have hp1 := hp.1
  have hq1 := hq.1
  have hle := h.le
  have hle' := h'.le
  have hem : ∀ (z : Int), z = ((p.length + q.length : Nat) : Int) → ∀ w, Does Tryz.prog 73 [.int .i64 z] w (RetO w XR (besQ p q 0)) := fun z e w => by
    subst e
    exact emptyPicture_ok w _ (by omega)
  refine fn_of_W1 Tryz.func59 rfl Tryz.results59 Tryz.ntmps59 rfl ?_
  have hl0 := besQ_len (p := p) (q := q) (i := 0) (by omega)
  have stop2 : True := trivial
  focus
    refine W_seq ?_; refine W_region rfl ?_; refine Wo rfl (opv_assign (v := .slice _ _ _) rfl) ?_; refine Wo_nil ?_; refine W_seq ?_; refine W_region rfl ?_; refine Wo rfl (opv_move (v := v) rfl) ?_
    refine Wo rfl (opv_len Tryz.underlying22 rfl h) ?_; refine Wo rfl (opv_move (v := u) rfl) ?_; refine Wo rfl (opv_len Tryz.underlying22 rfl h') ?_; refine Wo rfl (opv_add rfl rfl (by omega)) ?_
    refine Wo_call rfl (opc1 (a := .int _ _) Tryz.call73 rfl) (hem _ (by omega) _) ?_; rintro u1 w1 ⟨E1, hO1⟩; have hs1 := E1.size; refine Wo rfl (opv_assign (v := u1) rfl) ?_; refine Wo_nil ?_; refine W_seq ?_; refine W_seq ?_
  clear stop2
  obtain ⟨ub, uc, rfl, _⟩ := hO1.lit (by omega)
  focus
    have szE1 := E1.size; refine W_region rfl ?_; refine Wo rfl (opv_move (v := v) rfl) ?_; refine Wo rfl (opv_len Tryz.underlying22 rfl h) ?_; refine Wo rfl (opv_move (v := .int _ _) rfl) ?_; refine Wo_nil ?_; refine W_block ?_
  refine W_loop [6, 7, 18, 19, 20, 21, 22, 23, 24, 25, 26, 27, 28, 29] (fun (i : Nat) => [(18, .int .i64 (i : Int))]) (fun i w' => Ext w w' ∧ i ≤ p.length ∧ Owned w.heap.size XR w' (.slice (some ⟨ub, 0, none⟩) (besQ p q 0).length uc) (besQ p q i)) (fun x => p.length - x) 0 (by repeat (first | exact trivial | refine And.intro rfl ?_)) ?_ ?_
  · exact ⟨by assumption, Nat.zero_le _, hO1⟩
  clear hO1
  rintro i ρj w2 ⟨E2, hi, hO1⟩
  by_cases hil : i < p.length
  · have hli := besQ_len (p := p) (q := q) (i := i) (by omega)
    have hat := besQ_at (p := p) (q := q) (i := i) (by omega)
    have hrl : (besQ p q i)[i].length = p.length + q.length := by rw [hat]; simp
    have hpr := hp.row hil
    obtain ⟨br, cr, hR, _, _⟩ := hO1.rowAt (i := i) (by omega) (by omega)
    focus
      have szE2 := E2.size; have szE1 := E1.size; refine W_seq ?_; refine W_region rfl ?_; refine Wo rfl (opv_lss rfl rfl) ?_; refine Wo_nil ?_; refine W_seq ?_; refine W_cond_dec rfl (fun h1 => ?_) (fun h1 => ?_); refine W_skip ?_
      refine W_seq ?_; refine W_block ?_; refine W_seq ?_; refine W_region rfl ?_; refine Wo rfl (opv_move (v := .int _ _) rfl) ?_
      refine Wo_get Tryz.underlying22 Tryz.sizeOf58 Tryz.isAgg58 rfl (fun _ => rfl) rfl h E2 rfl (by first | omega | (simp <;> omega)) ?_; rintro _ u1 hu1; refine Wo rfl (opv_assign (v := .int _ _) rfl) ?_
      refine Wo rfl (opv_assign (v := u1) rfl) ?_; refine Wo_nil ?_; refine W_region rfl ?_; refine Wo rfl (opv_move (v := .slice _ _ _) rfl) ?_; refine Wo rfl (opv_move (v := .int _ _) rfl) ?_
      refine Wo_rowAt Tryz.underlying22 Tryz.sizeOf58 Tryz.isAgg58 rfl (fun _ => rfl) rfl ⟨_, _, rfl⟩ rfl hR (by first | omega | (simp <;> omega)) ?_; rintro _; refine Wo rfl (opv_move (v := u1) rfl) ?_
      refine Wo_cpy rfl Tryz.underlying58 Tryz.sizeOf3 rfl rfl (Mono.mono E2 hu1) hO1.toB hR (by first | omega | (simp <;> omega)) (by first | omega | (simp <;> omega)) (by first | omega | (simp <;> omega)) ?_; rintro w3 hO1 hR On1 K1 hz1
      have E3 := On1.ext1 E2 (by omega); have hs2 := On1.size; refine Wo_nil ?_; refine W_region rfl ?_; refine Wo rfl (opv_add rfl rfl (by omega)) ?_; refine Wo rfl (opv_move (v := .int _ _) rfl) ?_; refine Wo_nil ?_; rotate_left
      (exfalso; omega)
    refine ⟨i + 1, by repeat (first | exact trivial | refine And.intro rfl ?_), by repeat (first | with_reducible exact Same.refl | refine Same.upd rfl ?_ | refine Same.upds rfl ?_ | refine Same.mix rfl ?_), ⟨by assumption, by omega, (congrArg (Owned _ _ _ _) ?_).mp hO1⟩, by omega⟩
    refine besQ_set (by omega) _ ?_
    rw [bes_row1 hp.gr hil, hat]
  · obtain rfl : i = p.length := by omega
    focus
      have szE2 := E2.size; have szE1 := E1.size; refine W_seq ?_; refine W_region rfl ?_; refine Wo rfl (opv_lss rfl rfl) ?_; refine Wo_nil ?_; refine W_seq ?_; refine W_cond_dec rfl (fun h1 => ?_) (fun h1 => ?_); (exfalso; omega)
      refine W_exit ?_; refine exitX_same ?_; refine W_seq ?_; refine W_seq ?_; refine W_region rfl ?_; refine Wo rfl (opv_move (v := u) rfl) ?_; refine Wo rfl (opv_len Tryz.underlying22 rfl h') ?_
      refine Wo rfl (opv_move (v := .int _ _) rfl) ?_; refine Wo_nil ?_; refine W_block ?_
    refine W_loop [8, 9, 32, 33, 34, 35, 36, 37, 38, 39, 40, 41, 42, 43, 44, 45, 46, 47, 48, 49] (fun (i : Nat) => [(32, .int .i64 (i : Int))]) (fun i w' => Ext w w' ∧ i ≤ q.length ∧ Owned w.heap.size XR w' (.slice (some ⟨ub, 0, none⟩) (besQ p q 0).length uc) (besQ p q (p.length + i))) (fun x => q.length - x) 0 (by repeat (first | exact trivial | refine And.intro rfl ?_)) ?_ ?_
    · exact ⟨by assumption, Nat.zero_le _, hO1⟩
    clear hO1
    rintro i ρk w3 ⟨E3, hi, hO1⟩
    by_cases hil : i < q.length
    · have hli := besQ_len (p := p) (q := q) (i := p.length + i) (by omega)
      have hat := besQ_at (p := p) (q := q) (i := p.length + i) (by omega)
      have hrl : (besQ p q (p.length + i))[p.length + i].length = p.length + q.length := by rw [hat]; simp
      have hqr := hq.row hil
      obtain ⟨br, cr, hR, _, _⟩ := hO1.rowAt (i := p.length + i) (by omega) (by omega)
      obtain ⟨_, hRO⟩ := hO1.toB.rowOwn hR (by omega)
      obtain ⟨_, _, _, e, hcap⟩ := hRO.capOk
      cases e
      clear hRO
      focus
        have szE3 := E3.size; have szE2 := E2.size; have szE1 := E1.size; refine W_seq ?_; refine W_region rfl ?_; refine Wo rfl (opv_lss rfl rfl) ?_; refine Wo_nil ?_; refine W_seq ?_; refine W_cond_dec rfl (fun h2 => ?_) (fun h2 => ?_)
        refine W_skip ?_; refine W_seq ?_; refine W_block ?_; refine W_seq ?_; refine W_region rfl ?_; refine Wo rfl (opv_move (v := .int _ _) rfl) ?_
        refine Wo_get Tryz.underlying22 Tryz.sizeOf58 Tryz.isAgg58 rfl (fun _ => rfl) rfl h' E3 rfl (by first | omega | (simp <;> omega)) ?_; rintro _ u1 hu1; refine Wo rfl (opv_assign (v := .int _ _) rfl) ?_
        refine Wo rfl (opv_assign (v := u1) rfl) ?_; refine Wo_nil ?_; refine W_region rfl ?_; refine Wo rfl (opv_move (v := .slice _ _ _) rfl) ?_; refine Wo rfl (opv_move (v := v) rfl) ?_; refine Wo rfl (opv_len Tryz.underlying22 rfl h) ?_
        refine Wo rfl (opv_move (v := .int _ _) rfl) ?_; refine Wo rfl (opv_add rfl rfl (by omega)) ?_
        refine Wo_rowAt Tryz.underlying22 Tryz.sizeOf58 Tryz.isAgg58 rfl (fun _ => rfl) rfl ⟨_, _, rfl⟩ rfl hR (by first | omega | (simp <;> omega)) ?_; rintro _; refine Wo rfl (opv_move (v := v) rfl) ?_
        refine Wo rfl (opv_len Tryz.underlying22 rfl h) ?_; refine Wo rfl (opv_slice_sl_lo Tryz.underlying58 Tryz.sizeOf3 rfl rfl (by omega)) ?_; refine Wo rfl (opv_move (v := u1) rfl) ?_
        refine Wo_cpy rfl Tryz.underlying58 Tryz.sizeOf3 rfl rfl (Mono.mono E3 hu1) hO1.toB hR (by first | omega | (simp <;> omega)) (by first | omega | (simp <;> omega)) (by first | omega | (simp <;> omega)) ?_; rintro w4 hO1 hR On1 K1 hz1
        have E4 := On1.ext1 E3 (by omega); have hs2 := On1.size; refine Wo_nil ?_; refine W_region rfl ?_; refine Wo rfl (opv_add rfl rfl (by omega)) ?_; refine Wo rfl (opv_move (v := .int _ _) rfl) ?_; refine Wo_nil ?_; rotate_left
        (exfalso; omega)
      refine ⟨i + 1, by repeat (first | exact trivial | refine And.intro rfl ?_), by repeat (first | with_reducible exact Same.refl | refine Same.upd rfl ?_ | refine Same.upds rfl ?_ | refine Same.mix rfl ?_), ⟨by assumption, by omega, (congrArg (Owned _ _ _ _) ?_).mp hO1⟩, by omega⟩
      refine besQ_set (by omega) _ ?_
      rw [bes_row2 hq.gr hil, hat, Nat.zero_add, Int.toNat_natCast]
    · obtain rfl : i = q.length := by omega
      focus
        have szE3 := E3.size; have szE2 := E2.size; have szE1 := E1.size; refine W_seq ?_; refine W_region rfl ?_; refine Wo rfl (opv_lss rfl rfl) ?_; refine Wo_nil ?_; refine W_seq ?_; refine W_cond_dec rfl (fun h2 => ?_) (fun h2 => ?_)
        (exfalso; omega); refine W_exit ?_; refine exitX_same ?_; refine W_seq ?_; refine W_region rfl ?_; refine Wo rfl (opv_move (v := .slice _ _ _) rfl) ?_; refine Wo rfl (opv_assign (v := .slice _ _ _) rfl) ?_; refine Wo_nil ?_
        refine W_ret ?_; refine ⟨E3, (congrArg (Owned _ _ _ _) ?_).mp (hO1.toB.o.mono (by omega))⟩
      have := bes_len (p := p) (q := q)
      unfold besQ
      rw [List.take_of_length_le (by omega), Nat.sub_self]
      simp

open Classical in
theorem sameSet_ok (w : World) (v u : Value) (p q : List (List Int)) (h : ESl Ints w v p) (h' : ESl Ints w u q) (hp : Pic p) (hq : Pic q) (a b : Int) (ha : 0 ≤ a ∧ a < p.length) (hb : 0 ≤ b ∧ b < q.length) : Does Tryz.prog 35 [v, .int .i64 a, u, .int .i64 b] w (Ret w (.bool (decide (Bis p a.toNat q b.toNat)))) := by
  have hp5 := hp.2.1
  have hq5 := hq.2.1
  have hle := h.le
  have hle' := h'.le
  have hB := hp.bes5 hq
  have hbl := bes_len (p := p) (q := q)
  have k1 : ∀ (w : World) (v u : Value), ESl Ints w v p → ESl Ints w u q → Does Tryz.prog 59 [v, u] w (RetO w XR (bes p q)) := fun w v u h h' => beside_ok w v u p q h h' hp hq
  have k2 : ∀ (w : World) (v : Value), ESl Ints w v (bes p q) → Does Tryz.prog 60 [v, .int .i64 ((bes p q).length : Int)] w (RetO w XR (matV (bes p q) (bsm (bes p q) (bes p q).length))) := fun w v h => leftAfter_ok w v _ h hB.1 _ (by omega)
  have hml := matV_len (p := bes p q) (bsm (bes p q) (bes p q).length)
  have hmr := matV_rlen (p := bes p q) (S := bsm (bes p q) (bes p q).length) (a := a.toNat) (by omega)
  have hma := matV_at (p := bes p q) (S := bsm (bes p q) (bes p q).length) (a := a.toNat) (b := p.length + b.toNat) (by omega) (by omega)
  have he := bes_eqv hp.gr hq.gr (a := a.toNat) (b := b.toNat) (by omega) (by omega) (by omega)
  refine fn_of_W1 Tryz.func35 rfl Tryz.results35 Tryz.ntmps35 rfl ?_
  focus
    refine W_seq ?_; refine W_region rfl ?_; refine Wo rfl (opv_assign (v := .bool _) rfl) ?_; refine Wo_nil ?_; refine W_seq ?_; refine W_region rfl ?_; refine Wo rfl (opv_move (v := v) rfl) ?_; refine Wo rfl (opv_move (v := u) rfl) ?_
    refine Wo_call rfl (opc2 (a := v) (b := u) Tryz.call59 rfl rfl) (k1 _ _ _ (h) (h')) ?_; rintro u1 w1 ⟨E1, hO1⟩; have hs1 := E1.size; refine Wo rfl (opv_assign (v := u1) rfl) ?_; refine Wo_nil ?_; refine W_seq ?_
    refine W_region rfl ?_; refine Wo rfl (opv_move (v := u1) rfl) ?_; refine Wo rfl (opv_move (v := u1) rfl) ?_; refine Wo rfl (opv_len Tryz.underlying22 rfl (Owned.read hO1)) ?_
    refine Wo_call rfl (opc2 (a := u1) (b := .int _ _) Tryz.call60 rfl rfl) (k2 _ _ ((Owned.read hO1))) ?_; rintro u2 w2 ⟨E2, hO2⟩; have hs2 := E2.size; refine Wo rfl (opv_move (v := .int _ _) rfl) ?_
    refine Wo_get_z Tryz.underlying22 Tryz.sizeOf58 Tryz.isAgg58 rfl (fun _ => rfl) rfl (Owned.read hO2) (Ext.refl _) rfl (by first | omega | (simp <;> omega)) ?_; rintro _ u3 hu1; refine Wo rfl (opv_move (v := v) rfl) ?_
    refine Wo rfl (opv_len Tryz.underlying22 rfl h) ?_; refine Wo rfl (opv_move (v := .int _ _) rfl) ?_; refine Wo rfl (opv_add rfl rfl (by omega)) ?_
    refine Wo_get_z Tryz.underlying58 Tryz.sizeOf3 Tryz.isAgg3 rfl (fun _ => rfl) rfl hu1 (Ext.refl _) rfl (by first | omega | (simp <;> omega)) ?_; rintro _ _ rfl; refine Wo rfl (opv_eql rfl rfl) ?_
    refine Wo rfl (opv_assign (v := .bool _) rfl) ?_; refine Wo_nil ?_; refine W_ret ?_; refine at_ret (v := .bool _) rfl ?_; refine ⟨congrArg Value.bool ?_, (E1.trans E2)⟩
  rw [decide_eq_decide, ← he]
  have e : ((p.length : Int) + b).toNat = p.length + b.toNat := by omega
  simp only [e, hma, b01_one]
  rfl
open Classical in
noncomputable def ssetV (p : List (List Int)) (a : Int) (q : List (List Int)) (b : Int) : Bool := decide (Nod p a ∧ Nod q b ∧ Bis p a.toNat q b.toNat)

open Classical in
theorem impl_SameSet_ok (w : World) (v u : Value) (p q : List (List Int)) (h : ESl Ints w v p) (h' : ESl Ints w u q) (a b : Int) : Does Tryz.prog 17 [v, .int .i64 a, u, .int .i64 b] w (Ret w (.bool (ssetV p a q b))) := by
  have hn : ∀ (x : Bool), decide (Nod p a) = x → ∀ (w : World) (v : Value), ESl Ints w v p → Does Tryz.prog 29 [v, .int .i64 a] w (Ret w (.bool x)) := fun x e w v h => e ▸ hasNode_ok w v p h a
  have hn' : ∀ (x : Bool), decide (Nod q b) = x → ∀ (w : World) (v : Value), ESl Ints w v q → Does Tryz.prog 29 [v, .int .i64 b] w (Ret w (.bool x)) := fun x e w v h => e ▸ hasNode_ok w v q h b
  by_cases h1 : Nod p a
  · have k1 := hn true (decide_eq_true h1)
    by_cases h2 : Nod q b
    · have k2 := hn' true (decide_eq_true h2)
      have k3 : ∀ (w : World) (v u : Value), ESl Ints w v p → ESl Ints w u q → Does Tryz.prog 35 [v, .int .i64 a, u, .int .i64 b] w (Ret w (.bool (ssetV p a q b))) := fun w v u h h' => by
        have := sameSet_ok w v u p q h h' h1.1 h2.1 a b h1.2 h2.2
        rw [show ssetV p a q b = decide (Bis p a.toNat q b.toNat) from decide_eq_decide.2 ⟨fun h => h.2.2, fun h => ⟨h1, h2, h⟩⟩]
        exact this
      clear hn hn'
      refine fn_of_W1 Tryz.func17 rfl Tryz.results17 Tryz.ntmps17 rfl ?_
      focus
        refine W_seq ?_; refine W_region rfl ?_; refine Wo rfl (opv_assign (v := .bool _) rfl) ?_; refine Wo_nil ?_; refine W_seq ?_; refine W_region rfl ?_; refine Wo rfl (opv_move (v := v) rfl) ?_
        refine Wo rfl (opv_move (v := .int _ _) rfl) ?_; refine Wo_call rfl (opc2 (a := v) (b := .int _ _) Tryz.call29 rfl rfl) (k1 _ _ (h)) ?_; rintro _ w1 ⟨rfl, E1⟩; have hs1 := E1.size; refine Wo rfl (opv_move (v := .bool _) rfl) ?_
        refine Wo rfl (opv_move (v := u) rfl) ?_; refine Wo rfl (opv_move (v := .int _ _) rfl) ?_; refine Wo_call rfl (opc2 (a := u) (b := .int _ _) Tryz.call29 rfl rfl) (k2 _ _ ((Mono.mono E1 h'))) ?_; rintro _ w2 ⟨rfl, E2⟩
        have hs2 := E2.size; refine Wo rfl (opv_pick_t (v := .bool _) rfl rfl) ?_; refine Wo rfl (opv_move (v := .bool _) rfl) ?_; refine Wo rfl (opv_move (v := v) rfl) ?_; refine Wo rfl (opv_move (v := .int _ _) rfl) ?_
        refine Wo rfl (opv_move (v := u) rfl) ?_; refine Wo rfl (opv_move (v := .int _ _) rfl) ?_
        refine Wo_call rfl (opc4 (a := v) (b := .int _ _) (c := u) (d := .int _ _) Tryz.call35 rfl rfl rfl rfl) (k3 _ _ _ ((Mono.mono (E1.trans E2) h)) ((Mono.mono (E1.trans E2) h'))) ?_; rintro _ w3 ⟨rfl, E3⟩; have hs3 := E3.size
        refine Wo rfl (opv_pick_t (v := .bool _) rfl rfl) ?_; refine Wo rfl (opv_assign (v := .bool _) rfl) ?_; refine Wo_nil ?_; refine W_ret ?_; exact ⟨rfl, ((E1.trans E2).trans E3)⟩
    · have k2 := hn' false (decide_eq_false h2)
      have e : ssetV p a q b = false := decide_eq_false fun h => h2 h.2.1
      rw [e]
      clear hn hn'
      refine fn_of_W1 Tryz.func17 rfl Tryz.results17 Tryz.ntmps17 rfl ?_
      focus
        refine W_seq ?_; refine W_region rfl ?_; refine Wo rfl (opv_assign (v := .bool _) rfl) ?_; refine Wo_nil ?_; refine W_seq ?_; refine W_region rfl ?_; refine Wo rfl (opv_move (v := v) rfl) ?_
        refine Wo rfl (opv_move (v := .int _ _) rfl) ?_; refine Wo_call rfl (opc2 (a := v) (b := .int _ _) Tryz.call29 rfl rfl) (k1 _ _ (h)) ?_; rintro _ w1 ⟨rfl, E1⟩; have hs1 := E1.size; refine Wo rfl (opv_move (v := .bool _) rfl) ?_
        refine Wo rfl (opv_move (v := u) rfl) ?_; refine Wo rfl (opv_move (v := .int _ _) rfl) ?_; refine Wo_call rfl (opc2 (a := u) (b := .int _ _) Tryz.call29 rfl rfl) (k2 _ _ ((Mono.mono E1 h'))) ?_; rintro _ w2 ⟨rfl, E2⟩
        have hs2 := E2.size; refine Wo rfl (opv_pick_t (v := .bool _) rfl rfl) ?_; refine Wo rfl (opv_move (v := .bool _) rfl) ?_; refine Wo_skip rfl ?_; refine Wo_skip rfl ?_; refine Wo_skip rfl ?_; refine Wo_skip rfl ?_
        refine Wo_skip rfl ?_; refine Wo rfl (opv_pick_f (v := .bool _) rfl rfl) ?_; refine Wo rfl (opv_assign (v := .bool _) rfl) ?_; refine Wo_nil ?_; refine W_ret ?_; exact ⟨rfl, (E1.trans E2)⟩
  · have k1 := hn false (decide_eq_false h1)
    have e : ssetV p a q b = false := decide_eq_false fun h => h1 h.1
    rw [e]
    clear hn hn'
    refine fn_of_W1 Tryz.func17 rfl Tryz.results17 Tryz.ntmps17 rfl ?_
    focus
      refine W_seq ?_; refine W_region rfl ?_; refine Wo rfl (opv_assign (v := .bool _) rfl) ?_; refine Wo_nil ?_; refine W_seq ?_; refine W_region rfl ?_; refine Wo rfl (opv_move (v := v) rfl) ?_
      refine Wo rfl (opv_move (v := .int _ _) rfl) ?_; refine Wo_call rfl (opc2 (a := v) (b := .int _ _) Tryz.call29 rfl rfl) (k1 _ _ (h)) ?_; rintro _ w1 ⟨rfl, E1⟩; have hs1 := E1.size; refine Wo rfl (opv_move (v := .bool _) rfl) ?_
      refine Wo_skip rfl ?_; refine Wo_skip rfl ?_; refine Wo_skip rfl ?_; refine Wo rfl (opv_pick_f (v := .bool _) rfl rfl) ?_; refine Wo rfl (opv_move (v := .bool _) rfl) ?_; refine Wo_skip rfl ?_; refine Wo_skip rfl ?_
      refine Wo_skip rfl ?_; refine Wo_skip rfl ?_; refine Wo_skip rfl ?_; refine Wo rfl (opv_pick_f (v := .bool _) rfl rfl) ?_; refine Wo rfl (opv_assign (v := .bool _) rfl) ?_; refine Wo_nil ?_; refine W_ret ?_; exact ⟨rfl, E1⟩

end Go.Proofs.YtgphoihilheoeaaGreatDoor
namespace Go.Proofs.YtgphoihilheoeaaGreatDoor
open Go.Hs
set_option maxRecDepth 10000
set_option maxHeartbeats 4000000
set_option linter.unusedVariables false

theorem pick_ok {w0 : World} (w : World) {br m : Nat} (n : Int) (hr : Rdr w0 w br m) (hm : m ≤ 1000000000) :
    Does Tryz.prog 46 [.pointer (some ⟨br, 0, none⟩), .int .i64 n] w (RetD w0 w br (m + 1) (fun x : Nat => .int .i64 (x : Int)) (fun x _ => 1 ≤ n → (x : Int) < n)) := by
  obtain ⟨E0, hge, hlt, vb, bs, p, hb, hlen, hB, hp⟩ := hr
  have hbs := hb.le
  refine fn_of_W1 Tryz.func46 rfl Tryz.results46 Tryz.ntmps46 rfl ?_
  have hG : w.grownBy w (some br) := grownBy_refl _ _
  have hp1 : (p : Int) + 1 - 1 = p := by omega
  rcases Nat.eq_zero_or_pos bs.length with h0 | h0
  · have e0 : bs = [] := List.eq_nil_of_length_eq_zero h0
    focus
      have szE0 := E0.size; refine W_seq ?_; refine W_region rfl ?_; refine Wo rfl (opv_assign (v := .int _ _) rfl) ?_; refine Wo_nil ?_; refine W_seq ?_; refine W_region rfl ?_; refine Wo rfl (opv_move (v := .pointer _) rfl) ?_
      refine Wo rfl (opv_move (v := .pointer _) rfl) ?_; refine Wo rfl (opv_nilCheck rfl) ?_; refine Wo rfl (opv_fieldAddr Tryz.underlying66 rfl rfl Tryz.sizeOf3 rfl) ?_
      refine Wo (v := .int _ _) rfl (opv_load Tryz.isAgg3 rfl (hB.cell rfl)) ?_; refine Wo rfl (opv_add rfl rfl (by omega)) ?_; refine Wo rfl (opv_nilCheck rfl) ?_
      refine Wo rfl (opv_fieldAddr Tryz.underlying66 rfl rfl Tryz.sizeOf3 rfl) ?_; refine Wo_st (v := .int _ _) rfl Tryz.sizeOf3 rfl rfl rfl hB (by simp) (by omega) E0 ?_; rintro w1 E1 hB K1 hz1; simp only [List.set] at hB
      have hG := grownBy_wrote hG E0 E1 K1 hz1 (by first | exact .inr rfl | omega); refine Wo_nil ?_; refine W_seq ?_; refine W_seq ?_; refine W_region rfl ?_; refine Wo rfl (opv_move (v := .int _ _) rfl) ?_
      refine Wo rfl (opv_lss rfl rfl) ?_; refine Wo_split_dec rfl (opv_move (v := .bool _) rfl) (fun h1 => ?_) (fun h1 => ?_); refine Wo_skip rfl ?_; refine Wo_skip rfl ?_; refine Wo_skip rfl ?_; refine Wo_skip rfl ?_
      refine Wo_skip rfl ?_; refine Wo_skip rfl ?_; refine Wo rfl (opv_pick_t (v := .bool _) rfl rfl) ?_; refine Wo_nil ?_; refine W_cond_true rfl ?_; refine W_seq ?_; refine W_region rfl ?_
      refine Wo rfl (opv_assign (v := .int _ _) rfl) ?_; refine Wo_nil ?_; refine W_ret ?_; refine at_ret (v := .int _ _) rfl ?_; rotate_left; refine Wo rfl (opv_move (v := .pointer _) rfl) ?_; refine Wo rfl (opv_nilCheck rfl) ?_
      refine Wo rfl (opv_fieldAddr Tryz.underlying66 rfl rfl Tryz.sizeOf32 rfl) ?_; refine Wo (v := vb) rfl (opv_load Tryz.isAgg32 rfl (hB.cell rfl)) ?_; refine Wo rfl (opv_len Tryz.underlying32 rfl hb) ?_
      refine Wo rfl (opv_eql rfl rfl) ?_; refine Wo rfl (opv_pick_f (v := .bool _) rfl rfl) ?_; refine Wo_nil ?_; refine W_cond_dec rfl (fun h2 => ?_) (fun h2 => ?_); refine W_seq ?_; refine W_region rfl ?_
      refine Wo rfl (opv_assign (v := .int _ _) rfl) ?_; refine Wo_nil ?_; refine W_ret ?_; refine at_ret (v := .int _ _) rfl ?_; rotate_left; (exfalso; omega)
    all_goals exact ⟨0, rfl, hG, ⟨by assumption, hge, hB.lt, vb, bs, p + 1, hb, hlen, hB, by omega⟩, fun h => by omega⟩
  have hL : (0 : Int) < (bs.length : Int) := by omega
  have hm1 := Int.emod_lt_of_pos (p : Int) hL
  have hm2 := Int.emod_nonneg (p : Int) (show (bs.length : Int) ≠ 0 by omega)
  have hm3 := Int.emod_lt_of_pos ((p : Int) * 7 + 3) hL
  have hm4 := Int.emod_nonneg ((p : Int) * 7 + 3) (show (bs.length : Int) ≠ 0 by omega)
  have hm5 : (p : Int) / (bs.length : Int) ≤ p := Int.ediv_le_self _ (by omega)
  have hm6 : 0 ≤ (p : Int) / (bs.length : Int) := Int.ediv_nonneg (by omega) (by omega)
  have hm1 := Int.emod_lt_of_pos ((p : Int) + 1 - 1) hL
  have hm2 := Int.emod_nonneg ((p : Int) + 1 - 1) (show (bs.length : Int) ≠ 0 by omega)
  have hm3 := Int.emod_lt_of_pos (((p : Int) + 1 - 1) * 7 + 3) hL
  have hm4 := Int.emod_nonneg (((p : Int) + 1 - 1) * 7 + 3) (show (bs.length : Int) ≠ 0 by omega)
  have hm5 : ((p : Int) + 1 - 1) / (bs.length : Int) ≤ p := by rw [hp1]; exact hm5
  have hm6 : 0 ≤ ((p : Int) + 1 - 1) / (bs.length : Int) := by rw [hp1]; exact hm6
  focus
    have szE0 := E0.size; refine W_seq ?_; refine W_region rfl ?_; refine Wo rfl (opv_assign (v := .int _ _) rfl) ?_; refine Wo_nil ?_; refine W_seq ?_; refine W_region rfl ?_; refine Wo rfl (opv_move (v := .pointer _) rfl) ?_
    refine Wo rfl (opv_move (v := .pointer _) rfl) ?_; refine Wo rfl (opv_nilCheck rfl) ?_; refine Wo rfl (opv_fieldAddr Tryz.underlying66 rfl rfl Tryz.sizeOf3 rfl) ?_
    refine Wo (v := .int _ _) rfl (opv_load Tryz.isAgg3 rfl (hB.cell rfl)) ?_; refine Wo rfl (opv_add rfl rfl (by omega)) ?_; refine Wo rfl (opv_nilCheck rfl) ?_
    refine Wo rfl (opv_fieldAddr Tryz.underlying66 rfl rfl Tryz.sizeOf3 rfl) ?_; refine Wo_st (v := .int _ _) rfl Tryz.sizeOf3 rfl rfl rfl hB (by simp) (by omega) E0 ?_; rintro w1 E1 hB K1 hz1; simp only [List.set] at hB
    have hG := grownBy_wrote hG E0 E1 K1 hz1 (by first | exact .inr rfl | omega); refine Wo_nil ?_; refine W_seq ?_; refine W_seq ?_; refine W_region rfl ?_; refine Wo rfl (opv_move (v := .int _ _) rfl) ?_
    refine Wo rfl (opv_lss rfl rfl) ?_; refine Wo_split_dec rfl (opv_move (v := .bool _) rfl) (fun h1 => ?_) (fun h1 => ?_); refine Wo_skip rfl ?_; refine Wo_skip rfl ?_; refine Wo_skip rfl ?_; refine Wo_skip rfl ?_
    refine Wo_skip rfl ?_; refine Wo_skip rfl ?_; refine Wo rfl (opv_pick_t (v := .bool _) rfl rfl) ?_; refine Wo_nil ?_; refine W_cond_true rfl ?_; refine W_seq ?_; refine W_region rfl ?_
    refine Wo rfl (opv_assign (v := .int _ _) rfl) ?_; refine Wo_nil ?_; refine W_ret ?_; refine at_ret (v := .int _ _) rfl ?_; rotate_left; refine Wo rfl (opv_move (v := .pointer _) rfl) ?_; refine Wo rfl (opv_nilCheck rfl) ?_
    refine Wo rfl (opv_fieldAddr Tryz.underlying66 rfl rfl Tryz.sizeOf32 rfl) ?_; refine Wo (v := vb) rfl (opv_load Tryz.isAgg32 rfl (hB.cell rfl)) ?_; refine Wo rfl (opv_len Tryz.underlying32 rfl hb) ?_
    refine Wo rfl (opv_eql rfl rfl) ?_; refine Wo rfl (opv_pick_f (v := .bool _) rfl rfl) ?_; refine Wo_nil ?_; refine W_cond_dec rfl (fun h2 => ?_) (fun h2 => ?_); (exfalso; omega); refine W_skip ?_; refine W_seq ?_
    refine W_region rfl ?_; refine Wo rfl (opv_move (v := .pointer _) rfl) ?_; refine Wo rfl (opv_nilCheck rfl) ?_; refine Wo rfl (opv_fieldAddr Tryz.underlying66 rfl rfl Tryz.sizeOf3 rfl) ?_
    refine Wo (v := .int _ _) rfl (opv_load Tryz.isAgg3 rfl (hB.cell rfl)) ?_; refine Wo rfl (opv_sub rfl rfl (by omega)) ?_; refine Wo rfl (opv_assign (v := .int _ _) rfl) ?_; refine Wo_nil ?_; refine W_seq ?_; refine W_seq ?_
    refine W_region rfl ?_; refine Wo rfl (opv_move (v := .int _ _) rfl) ?_; refine Wo rfl (opv_move (v := .pointer _) rfl) ?_; refine Wo rfl (opv_nilCheck rfl) ?_
    refine Wo rfl (opv_fieldAddr Tryz.underlying66 rfl rfl Tryz.sizeOf32 rfl) ?_; refine Wo (v := vb) rfl (opv_load Tryz.isAgg32 rfl (hB.cell rfl)) ?_; refine Wo rfl (opv_len Tryz.underlying32 rfl hb) ?_
    refine Wo rfl (opv_lss rfl rfl) ?_; refine Wo_nil ?_; refine W_cond_dec rfl (fun h3 => ?_) (fun h3 => ?_); refine W_seq ?_; refine W_region rfl ?_; refine Wo rfl (opv_move (v := .pointer _) rfl) ?_
    refine Wo rfl (opv_nilCheck rfl) ?_; refine Wo rfl (opv_fieldAddr Tryz.underlying66 rfl rfl Tryz.sizeOf32 rfl) ?_; refine Wo (v := vb) rfl (opv_load Tryz.isAgg32 rfl (hB.cell rfl)) ?_; refine Wo rfl (opv_move (v := .int _ _) rfl) ?_
    refine Wo_getB_z Tryz.underlying32 Tryz.sizeOf5 Tryz.isAgg5 rfl (fun _ => rfl) rfl hb E1 rfl (by first | omega | (simp <;> omega)) ?_; rintro _ n1 hn1 hn1'
    refine Wo rfl (opv_conv_int Tryz.underlying5 Tryz.underlying3 rfl (by omega)) ?_; refine Wo rfl (opv_move (v := .int _ _) rfl) ?_; refine Wo rfl (opv_rem rfl rfl (by omega)) ?_; refine Wo rfl (opv_assign (v := .int _ _) rfl) ?_
    refine Wo_nil ?_; refine W_ret ?_; refine at_ret (v := .int _ _) rfl ?_; rotate_left; refine W_skip ?_; refine W_seq ?_; refine W_draw mixed (by kernel_rfl) rfl ?_; refine Wq_o rfl (fun _ _ => opv_move (v := .pointer _) rfl) ?_
    refine Wq_o rfl (fun _ _ => opv_nilCheck rfl) ?_; refine Wq_o rfl (fun _ _ => opv_fieldAddr Tryz.underlying66 rfl rfl Tryz.sizeOf32 rfl) ?_
    refine Wq_o (v := vb) rfl (fun w' hw' => opv_load Tryz.isAgg32 rfl ((hB.ext hw').cell rfl)) ?_; refine Wq_o rfl (fun _ _ => opv_move (v := .int _ _) rfl) ?_; refine Wq_o rfl (fun _ _ => opv_move (v := .pointer _) rfl) ?_
    refine Wq_o rfl (fun _ _ => opv_nilCheck rfl) ?_; refine Wq_o rfl (fun _ _ => opv_fieldAddr Tryz.underlying66 rfl rfl Tryz.sizeOf32 rfl) ?_
    refine Wq_o (v := vb) rfl (fun w' hw' => opv_load Tryz.isAgg32 rfl ((hB.ext hw').cell rfl)) ?_; refine Wq_o rfl (fun _ _ => opv_len Tryz.underlying32 rfl hb) ?_; refine Wq_o rfl (fun _ _ => opv_rem rfl rfl (by omega)) ?_
    refine Wq_getB_z Tryz.underlying32 Tryz.sizeOf5 Tryz.isAgg5 rfl (fun _ => rfl) rfl hb E1 rfl (by first | omega | (simp <;> omega)) ?_; rintro _ n1 hn1 hn1'
    refine Wq_o rfl (fun _ _ => opv_conv_int Tryz.underlying5 Tryz.underlying3 rfl (by omega)) ?_; refine Wq_o rfl (fun _ _ => opv_mul rfl rfl (by omega)) ?_; refine Wq_o rfl (fun _ _ => opv_move (v := .pointer _) rfl) ?_
    refine Wq_o rfl (fun _ _ => opv_nilCheck rfl) ?_; refine Wq_o rfl (fun _ _ => opv_fieldAddr Tryz.underlying66 rfl rfl Tryz.sizeOf32 rfl) ?_
    refine Wq_o (v := vb) rfl (fun w' hw' => opv_load Tryz.isAgg32 rfl ((hB.ext hw').cell rfl)) ?_; refine Wq_o rfl (fun _ _ => opv_move (v := .int _ _) rfl) ?_; refine Wq_o rfl (fun _ _ => opv_mul rfl rfl (by omega)) ?_
    refine Wq_o rfl (fun _ _ => opv_add rfl rfl (by omega)) ?_; refine Wq_o rfl (fun _ _ => opv_move (v := .pointer _) rfl) ?_; refine Wq_o rfl (fun _ _ => opv_nilCheck rfl) ?_
    refine Wq_o rfl (fun _ _ => opv_fieldAddr Tryz.underlying66 rfl rfl Tryz.sizeOf32 rfl) ?_; refine Wq_o (v := vb) rfl (fun w' hw' => opv_load Tryz.isAgg32 rfl ((hB.ext hw').cell rfl)) ?_
    refine Wq_o rfl (fun _ _ => opv_len Tryz.underlying32 rfl hb) ?_; refine Wq_o rfl (fun _ _ => opv_rem rfl rfl (by omega)) ?_
    refine Wq_getB_z Tryz.underlying32 Tryz.sizeOf5 Tryz.isAgg5 rfl (fun _ => rfl) rfl hb E1 rfl (by first | omega | (simp <;> omega)) ?_; rintro _ n2 hn2 hn2'
    refine Wq_o rfl (fun _ _ => opv_conv_int Tryz.underlying5 Tryz.underlying3 rfl (by omega)) ?_; refine Wq_o rfl (fun _ _ => opv_mul rfl rfl (by omega)) ?_; refine Wq_o rfl (fun _ _ => opv_add rfl rfl (by omega)) ?_
    refine Wq_o rfl (fun _ _ => opv_move (v := .int _ _) rfl) ?_; refine Wq_o rfl (fun _ _ => opv_mul rfl rfl (by omega)) ?_; refine Wq_o rfl (fun _ _ => opv_add rfl rfl (by omega)) ?_
    refine Wq_o rfl (fun _ _ => opv_move (v := .int _ _) rfl) ?_; refine Wq_o rfl (fun _ _ => opv_move (v := .pointer _) rfl) ?_; refine Wq_o rfl (fun _ _ => opv_nilCheck rfl) ?_
    refine Wq_o rfl (fun _ _ => opv_fieldAddr Tryz.underlying66 rfl rfl Tryz.sizeOf32 rfl) ?_; refine Wq_o (v := vb) rfl (fun w' hw' => opv_load Tryz.isAgg32 rfl ((hB.ext hw').cell rfl)) ?_
    refine Wq_o rfl (fun _ _ => opv_len Tryz.underlying32 rfl hb) ?_; refine Wq_o rfl (fun _ _ => opv_quo rfl rfl (by omega)) ?_; refine Wq_o rfl (fun _ _ => opv_mul rfl rfl (by omega)) ?_
    refine Wq_o rfl (fun _ _ => opv_add rfl rfl (by omega)) ?_; refine Wq_o rfl (fun _ _ => opv_assign (v := .int _ _) rfl) ?_; refine Wq_nil (fun w2 E2 => ?_); have hG := grownBy_ext hG E2; have hs1 := E2.size; refine W_seq ?_
    refine W_region rfl ?_; refine Wo rfl (opv_move (v := .int _ _) rfl) ?_; refine Wo rfl (opv_move (v := .int _ _) rfl) ?_; refine Wo rfl (opv_quo rfl rfl (by omega)) ?_; refine Wo rfl (opv_xor rfl rfl (by omega)) ?_
    refine Wo rfl (opv_assign (v := .int _ _) rfl) ?_; refine Wo_nil ?_; refine W_seq ?_; refine W_region rfl ?_; refine Wo rfl (opv_move (v := .int _ _) rfl) ?_; refine Wo rfl (opv_move (v := .int _ _) rfl) ?_
    refine Wo rfl (opv_rem rfl rfl (by omega)) ?_; refine Wo rfl (opv_assign (v := .int _ _) rfl) ?_; refine Wo_nil ?_; refine W_ret ?_; refine at_ret (v := .int _ _) rfl ?_; rotate_left
  · exact ⟨0, rfl, hG, ⟨by assumption, hge, hB.lt, vb, bs, p + 1, hb, hlen, hB, by omega⟩, fun h => by omega⟩
  · have e := Int.emod_nonneg (n1 : Int) (show n ≠ 0 by omega)
    refine ⟨((n1 : Int) % n).toNat, by simp only [Int.toNat_of_nonneg e], hG, ⟨by assumption, hge, hB.lt, vb, bs, p + 1, hb, hlen, hB, by omega⟩, fun h => ?_⟩
    simp only [Int.toNat_of_nonneg e]
    exact Int.emod_lt_of_pos _ (by omega)
  · refine at_ret (v := .int .i64 _) rfl ?_
    generalize hz : ((((n1 * 131 : Int) + n2 * 1117 + ((p : Int) + 1 - 1) * 29 + ((p : Int) + 1 - 1) / (bs.length : Int) * 53).toNat ^^^ (((n1 * 131 : Int) + n2 * 1117 + ((p : Int) + 1 - 1) * 29 + ((p : Int) + 1 - 1) / (bs.length : Int) * 53) / 64).toNat : Nat) : Int) = z
    have hz0 : 0 ≤ z := by rw [← hz]; omega
    have hB := hB.ext (show Ext w1 w2 by assumption)
    have e := Int.emod_nonneg z (show n ≠ 0 by omega)
    refine ⟨(z % n).toNat, by simp only [Int.toNat_of_nonneg e], hG, ⟨E1.trans (by assumption), hge, hB.lt, vb, bs, p + 1, hb, hlen, hB, by omega⟩, fun h => ?_⟩
    simp only [Int.toNat_of_nonneg e]
    exact Int.emod_lt_of_pos _ (by omega)

theorem odd_ok {w0 : World} (w : World) {br m : Nat} (n : Int) (hr : Rdr w0 w br m) (hm : m ≤ 1000000000) (hn : -1000000 ≤ n ∧ n ≤ 1000000) :
    Does Tryz.prog 64 [.pointer (some ⟨br, 0, none⟩), .int .i64 n] w (RetD w0 w br (m + 1) Value.bool (fun _ _ => True)) := by
  refine fn_of_W1 Tryz.func64 rfl Tryz.results64 Tryz.ntmps64 rfl ?_
  have hG : w.grownBy w (some br) := grownBy_refl _ _
  focus
    refine W_seq ?_; refine W_region rfl ?_; refine Wo rfl (opv_assign (v := .bool _) rfl) ?_; refine Wo_nil ?_; refine W_seq ?_; refine W_region rfl ?_; refine Wo rfl (opv_move (v := .int _ _) rfl) ?_
    refine Wo rfl (opv_gtr rfl rfl) ?_; refine Wo_split_dec rfl (opv_move (v := .bool _) rfl) (fun h1 => ?_) (fun h1 => ?_); refine Wo rfl (opv_move (v := .pointer _) rfl) ?_; refine Wo rfl (opv_move (v := .int _ _) rfl) ?_
    refine Wo_call rfl (opc2 (a := .pointer _) (b := .int _ _) Tryz.call46 rfl rfl) (pick_ok _ _ (by assumption) (by assumption)) ?_; rintro _ w1 ⟨y1, rfl, E1, hr1, hy1⟩; (try dsimp only at hy1); have hlhr1 := hr1.lt
    have Ehr1 := hr1.old; have hG := grownBy_trans hG E1; have hs1 := E1.size; refine Wo rfl (opv_move (v := .int _ _) rfl) ?_; refine Wo rfl (opv_sub rfl rfl (by omega)) ?_; refine Wo rfl (opv_eql rfl rfl) ?_
    refine Wo rfl (opv_pick_t (v := .bool _) rfl rfl) ?_; refine Wo rfl (opv_assign (v := .bool _) rfl) ?_; refine Wo_nil ?_; refine W_ret ?_; refine at_ret (v := .bool _) rfl ?_; rotate_left; refine Wo_skip rfl ?_
    refine Wo_skip rfl ?_; refine Wo_skip rfl ?_; refine Wo_skip rfl ?_; refine Wo_skip rfl ?_; refine Wo_skip rfl ?_; refine Wo rfl (opv_pick_f (v := .bool _) rfl rfl) ?_; refine Wo rfl (opv_assign (v := .bool _) rfl) ?_
    refine Wo_nil ?_; refine W_ret ?_; refine at_ret (v := .bool _) rfl ?_; rotate_left
  all_goals first | exact ⟨_, rfl, hG, hr1, trivial⟩ | exact ⟨_, rfl, hG, hr.le (by omega), trivial⟩


theorem flat66 : Flat Tryz.prog 66 [.slice none 0 0, .int .i64 0] := ⟨_, Tryz.underlying66, fun _ => by kernel_rfl, fun _ => by kernel_rfl⟩
theorem open_ok (w : World) (v : Value) (xs : List UInt8) (h : Bytes w v xs) (hc : CapOk v) :
    Does Tryz.prog 28 [v] w (RetX w (fun br : Nat => .pointer (some ⟨br, 0, none⟩)) (fun br w' => Rdr w w' br 0)) := by
  refine fn_of_W1 Tryz.func28 rfl Tryz.results28 Tryz.ntmps28 rfl ?_
  have hl := h.le
  obtain ⟨a, c, rfl, hR⟩ := id h
  obtain ⟨a', l', c', e, hcap⟩ := hc
  cases e
  by_cases h2 : 2000 < xs.length
  · obtain ⟨b, o, u, rfl, _⟩ := hR.at (show 0 < xs.length by omega)
    have hT := h.take (cap' := c) 2000 (by omega)
    focus
      refine W_seq ?_; refine W_region rfl ?_; refine Wo rfl (opv_assign (v := .pointer _) rfl) ?_; refine Wo_nil ?_; refine W_seq ?_; refine W_seq ?_; refine W_region rfl ?_; refine Wo rfl (opv_move (v := .slice _ _ _) rfl) ?_
      refine Wo rfl (opv_len Tryz.underlying32 rfl h) ?_; refine Wo rfl (opv_gtr rfl rfl) ?_; refine Wo_nil ?_; refine W_cond_dec rfl (fun h1 => ?_) (fun h1 => ?_); refine W_region rfl ?_
      refine Wo rfl (opv_move (v := .slice _ _ _) rfl) ?_; refine Wo rfl (opv_slice_sl_hi Tryz.underlying32 Tryz.sizeOf5 rfl rfl (by omega)) ?_; refine Wo rfl (opv_assign (v := .slice _ _ _) rfl) ?_; refine Wo_nil ?_; refine W_seq ?_
      refine W_region rfl ?_; refine Wo rfl (opv_move (v := .slice _ _ _) rfl) ?_; refine Wo rfl (opv_build (ps := [(0, .slice _ _ _)]) (cs := [_, _]) flat66 rfl rfl) ?_; refine Wo_box rfl rfl rfl ?_; rintro b1 w1 hb1 E1 hB1
      have hlb1 := hB1.lt; have hs1 := E1.size; refine Wo rfl (opv_assign (v := .pointer _) rfl) ?_; refine Wo_nil ?_; refine W_ret ?_; refine at_ret (v := .pointer _) rfl ?_; refine ⟨E1, _, rfl, ?_⟩; (try dsimp only); rotate_left
      (exfalso; omega)
    all_goals exact ⟨by assumption, by assumption, by assumption, _, _, 0, hT, by simp; omega, by assumption, by omega⟩
  · focus
      refine W_seq ?_; refine W_region rfl ?_; refine Wo rfl (opv_assign (v := .pointer _) rfl) ?_; refine Wo_nil ?_; refine W_seq ?_; refine W_seq ?_; refine W_region rfl ?_; refine Wo rfl (opv_move (v := .slice _ _ _) rfl) ?_
      refine Wo rfl (opv_len Tryz.underlying32 rfl h) ?_; refine Wo rfl (opv_gtr rfl rfl) ?_; refine Wo_nil ?_; refine W_cond_dec rfl (fun h1 => ?_) (fun h1 => ?_); (exfalso; omega); refine W_skip ?_; refine W_seq ?_
      refine W_region rfl ?_; refine Wo rfl (opv_move (v := .slice _ _ _) rfl) ?_; refine Wo rfl (opv_build (ps := [(0, .slice _ _ _)]) (cs := [_, _]) flat66 rfl rfl) ?_; refine Wo_box rfl rfl rfl ?_; rintro b1 w1 hb1 E1 hB1
      have hlb1 := hB1.lt; have hs1 := E1.size; refine Wo rfl (opv_assign (v := .pointer _) rfl) ?_; refine Wo_nil ?_; refine W_ret ?_; refine at_ret (v := .pointer _) rfl ?_; refine ⟨E1, _, rfl, ?_⟩; (try dsimp only)
    all_goals exact ⟨by assumption, by assumption, by assumption, _, _, 0, h, by omega, by assumption, by omega⟩
end Go.Proofs.YtgphoihilheoeaaGreatDoor
namespace Go.Proofs.YtgphoihilheoeaaGreatDoor
open Go.Hs
set_option maxRecDepth 10000
set_option maxHeartbeats 4000000
set_option linter.unusedVariables false
set_option linter.unusedSimpArgs false

theorem isCode_ok (n : Int) (w : World) : Does Tryz.prog 58 [.int .i64 n] w (Ret w (.bool (decide (0 ≤ n ∧ n ≤ 65535)))) := by
  refine fn_of_W1 Tryz.func58 rfl Tryz.results58 Tryz.ntmps58 rfl ?_
  focus
    refine W_seq ?_; refine W_region rfl ?_; refine Wo rfl (opv_assign (v := .bool _) rfl) ?_; refine Wo_nil ?_; refine W_seq ?_; refine W_region rfl ?_; refine Wo rfl (opv_move (v := .int _ _) rfl) ?_
    refine Wo rfl (opv_geq rfl rfl) ?_; refine Wo_split_dec rfl (opv_move (v := .bool _) rfl) (fun h1 => ?_) (fun h1 => ?_); refine Wo rfl (opv_move (v := .int _ _) rfl) ?_; refine Wo rfl (opv_leq rfl rfl) ?_
    refine Wo rfl (opv_pick_t (v := .bool _) rfl rfl) ?_; refine Wo rfl (opv_assign (v := .bool _) rfl) ?_; refine Wo_nil ?_; refine W_ret ?_; refine at_ret (v := .bool _) rfl ?_; refine ⟨congrArg Value.bool ?_, (Ext.refl _)⟩
    rotate_left; refine Wo_skip rfl ?_; refine Wo_skip rfl ?_; refine Wo rfl (opv_pick_f (v := .bool _) rfl rfl) ?_; refine Wo rfl (opv_assign (v := .bool _) rfl) ?_; refine Wo_nil ?_; refine W_ret ?_
    refine at_ret (v := .bool _) rfl ?_; refine ⟨congrArg Value.bool ?_, (Ext.refl _)⟩; rotate_left
  · exact decide_eq_decide.2 (by omega)
  · exact (decide_eq_false (by omega)).symm

def hasC (n m : Int) : Bool := decide (0 ≤ n ∧ n ≤ 65535 ∧ 0 ≤ m ∧ m ≤ 15) && n.toNat.testBit m.toNat
theorem and_one (x : Nat) (k : Nat) : (((x >>> k) &&& 1 : Nat) : Int) = 1 ↔ x.testBit k = true := by
  rw [Nat.testBit_eq_decide_div_mod_eq, Nat.and_one_is_mod, Nat.shiftRight_eq_div_pow, decide_eq_true_iff]
  generalize x / 2 ^ k = q
  omega
theorem Has_ok (n m : Int) (w : World) : Does Tryz.prog 34 [.int .i64 n, .int .i64 m] w (Ret w (.bool (hasC n m))) := by
  refine fn_of_W1 Tryz.func34 rfl Tryz.results34 Tryz.ntmps34 rfl ?_
  focus
    refine W_seq ?_; refine W_region rfl ?_; refine Wo rfl (opv_assign (v := .bool _) rfl) ?_; refine Wo_nil ?_; refine W_seq ?_; refine W_region rfl ?_; refine Wo rfl (opv_move (v := .int _ _) rfl) ?_
    refine Wo_call rfl (opc1 (a := .int _ _) Tryz.call58 rfl) (isCode_ok _ _) ?_; rintro _ w1 ⟨rfl, E1⟩; have hs1 := E1.size; refine Wo_split_dec rfl (opv_move (v := .bool _) rfl) (fun h1 => ?_) (fun h1 => ?_)
    refine Wo rfl (opv_move (v := .int _ _) rfl) ?_; refine Wo_call rfl (opc1 (a := .int _ _) Tryz.call58 rfl) (isCode_ok _ _) ?_; rintro _ w2 ⟨rfl, E2⟩; have hs2 := E2.size; refine Wo rfl (opv_pick_t (v := .bool _) rfl rfl) ?_
    refine Wo_split_dec rfl (opv_move (v := .bool _) rfl) (fun h2 => ?_) (fun h2 => ?_); refine Wo rfl (opv_move (v := .int _ _) rfl) ?_; refine Wo rfl (opv_leq rfl rfl) ?_; refine Wo rfl (opv_pick_t (v := .bool _) rfl rfl) ?_
    refine Wo_split_dec rfl (opv_move (v := .bool _) rfl) (fun h3 => ?_) (fun h3 => ?_); refine Wo rfl (opv_move (v := .int _ _) rfl) ?_; refine Wo rfl (opv_move (v := .int _ _) rfl) ?_; refine Wo rfl (opv_shr rfl rfl (by omega)) ?_
    refine Wo rfl (opv_and rfl rfl ⟨Int.natCast_nonneg _, by omega⟩) ?_; refine Wo rfl (opv_eql rfl rfl) ?_; refine Wo rfl (opv_pick_t (v := .bool _) rfl rfl) ?_; refine Wo rfl (opv_assign (v := .bool _) rfl) ?_; refine Wo_nil ?_
    refine W_ret ?_; refine at_ret (v := .bool _) rfl ?_; refine ⟨congrArg Value.bool ?_, (E1.trans E2)⟩; rotate_left; refine Wo_skip rfl ?_; refine Wo_skip rfl ?_; refine Wo_skip rfl ?_; refine Wo_skip rfl ?_; refine Wo_skip rfl ?_
    refine Wo rfl (opv_pick_f (v := .bool _) rfl rfl) ?_; refine Wo rfl (opv_assign (v := .bool _) rfl) ?_; refine Wo_nil ?_; refine W_ret ?_; refine at_ret (v := .bool _) rfl ?_; refine ⟨congrArg Value.bool ?_, (E1.trans E2)⟩
    rotate_left; refine Wo_skip rfl ?_; refine Wo_skip rfl ?_; refine Wo rfl (opv_pick_f (v := .bool _) rfl rfl) ?_; refine Wo rfl (opv_move (v := .bool _) rfl) ?_; refine Wo_skip rfl ?_; refine Wo_skip rfl ?_; refine Wo_skip rfl ?_
    refine Wo_skip rfl ?_; refine Wo_skip rfl ?_; refine Wo rfl (opv_pick_f (v := .bool _) rfl rfl) ?_; refine Wo rfl (opv_assign (v := .bool _) rfl) ?_; refine Wo_nil ?_; refine W_ret ?_; refine at_ret (v := .bool _) rfl ?_
    refine ⟨congrArg Value.bool ?_, (E1.trans E2)⟩; rotate_left; refine Wo_skip rfl ?_; refine Wo_skip rfl ?_; refine Wo rfl (opv_pick_f (v := .bool _) rfl rfl) ?_; refine Wo rfl (opv_move (v := .bool _) rfl) ?_; refine Wo_skip rfl ?_
    refine Wo_skip rfl ?_; refine Wo rfl (opv_pick_f (v := .bool _) rfl rfl) ?_; refine Wo rfl (opv_move (v := .bool _) rfl) ?_; refine Wo_skip rfl ?_; refine Wo_skip rfl ?_; refine Wo_skip rfl ?_; refine Wo_skip rfl ?_
    refine Wo_skip rfl ?_; refine Wo rfl (opv_pick_f (v := .bool _) rfl rfl) ?_; refine Wo rfl (opv_assign (v := .bool _) rfl) ?_; refine Wo_nil ?_; refine W_ret ?_; refine at_ret (v := .bool _) rfl ?_
    refine ⟨congrArg Value.bool ?_, E1⟩; rotate_left
  · have hn : 0 ≤ n ∧ n ≤ 65535 ∧ 0 ≤ m ∧ m ≤ 15 := by omega
    unfold hasC
    rw [decide_eq_true hn, Bool.true_and, Bool.eq_iff_iff, decide_eq_true_iff]
    exact and_one _ _
  all_goals
    have hn : ¬ (0 ≤ n ∧ n ≤ 65535 ∧ 0 ≤ m ∧ m ≤ 15) := by omega
    unfold hasC
    rw [decide_eq_false hn]; rfl

theorem alive_ok (w : World) : Does Tryz.prog 16 [] w (Ret w (.bool true)) := by
  have h1 : ∀ w, Does Tryz.prog 34 [.int .i64 5, .int .i64 2] w (Ret w (.bool true)) := fun w => by
    have := Has_ok 5 2 w
    have e : hasC 5 2 = true := by decide
    rw [e] at this; exact this
  have h2 : ∀ w, Does Tryz.prog 34 [.int .i64 5, .int .i64 1] w (Ret w (.bool false)) := fun w => by
    have := Has_ok 5 1 w
    have e : hasC 5 1 = false := by decide
    rw [e] at this; exact this
  refine fn_of_W1 Tryz.func16 rfl Tryz.results16 Tryz.ntmps16 rfl ?_
  focus
    refine W_seq ?_; refine W_region rfl ?_; refine Wo rfl (opv_assign (v := .bool _) rfl) ?_; refine Wo_nil ?_; refine W_seq ?_; refine W_region rfl ?_
    refine Wo_call rfl (opc2 (a := .int _ _) (b := .int _ _) Tryz.call34 rfl rfl) (h1 _) ?_; rintro _ w1 ⟨rfl, E1⟩; have hs1 := E1.size; refine Wo rfl (opv_move (v := .bool _) rfl) ?_
    refine Wo_call rfl (opc2 (a := .int _ _) (b := .int _ _) Tryz.call34 rfl rfl) (h2 _) ?_; rintro _ w2 ⟨rfl, E2⟩; have hs2 := E2.size; refine Wo rfl (opv_not rfl) ?_; refine Wo rfl (opv_pick_t (v := .bool _) rfl rfl) ?_
    refine Wo rfl (opv_assign (v := .bool _) rfl) ?_; refine Wo_nil ?_; refine W_ret ?_; exact ⟨rfl, (E1.trans E2)⟩

end Go.Proofs.YtgphoihilheoeaaGreatDoor
namespace Go.Proofs.YtgphoihilheoeaaGreatDoor
open Go.Hs
set_option maxRecDepth 10000
set_option maxHeartbeats 4000000
set_option linter.unusedVariables false
set_option linter.unusedSimpArgs false

theorem Picture_ok {w0 : World} (w : World) {br m : Nat} (n : Int) (hr : Rdr w0 w br m) (hm : m ≤ 100000000) (hn : 0 ≤ n ∧ n ≤ 1000) :
    Does Tryz.prog 45 [.pointer (some ⟨br, 0, none⟩), .int .i64 n] w (RetDO w0 w br (m + 60) XR (fun p => p.length ≤ 5 ∧ ∀ r ∈ p, r.length ≤ 6)) := by
  refine fn_of_W1 Tryz.func45 rfl Tryz.results45 Tryz.ntmps45 rfl ?_
  have hG : w.grownBy w (some br) := grownBy_refl _ _
  have hlr := hr.lt
  have hgr := hr.ge
  have E0 := hr.old
  focus
    have szE0 := E0.size; refine W_seq ?_; refine W_region rfl ?_; refine Wo rfl (opv_assign (v := .slice _ _ _) rfl) ?_; refine Wo_nil ?_; refine W_seq ?_; refine W_region rfl ?_; refine Wo rfl (opv_move (v := .pointer _) rfl) ?_
    refine Wo_call rfl (opc2 (a := .pointer _) (b := .int _ _) Tryz.call46 rfl rfl) (pick_ok _ _ (by assumption) (by omega)) ?_; rintro _ w1 ⟨y1, rfl, E1, hr1, hy1⟩; (try dsimp only at hy1); have hlhr1 := hr1.lt; have Ehr1 := hr1.old
    have hG := grownBy_trans hG E1; have hs1 := E1.size; refine Wo rfl (opv_add rfl rfl (by omega)) ?_; refine Wo rfl (opv_assign (v := .int _ _) rfl) ?_; refine Wo_nil ?_; refine W_seq ?_; refine W_region rfl ?_
    refine Wo_lit0 (XSl 3 XInt) rfl el22 Tryz.sizeOf58 ?_; rintro b1 w2 hb1 b1lt E2 hO1; have hr1 := hr1.ext E2; have hG := grownBy_ext hG E2; have hs2 := E2.size; refine Wo rfl (opv_assign (v := .slice _ _ _) rfl) ?_; refine Wo_nil ?_
    refine W_seq ?_; refine W_region rfl ?_; refine Wo rfl (opv_move (v := .pointer _) rfl) ?_; refine Wo_call rfl (opc2 (a := .pointer _) (b := .int _ _) Tryz.call46 rfl rfl) (pick_ok _ _ (by assumption) (by omega)) ?_
    rintro _ w3 ⟨y2, rfl, E3, hr2, hy2⟩; (try dsimp only at hy2); have hlhr2 := hr2.lt; have Ehr2 := hr2.old; have hO1 := hO1.toB.grown E3 (by omega); have hG := grownBy_trans hG E3; have hs3 := E3.size
    refine Wo rfl (opv_assign (v := .int _ _) rfl) ?_; refine Wo_nil ?_; refine W_seq ?_; refine W_seq ?_; refine W_region rfl ?_; refine Wo rfl (opv_assign (v := .int _ _) rfl) ?_; refine Wo_nil ?_; refine W_block ?_
  have hy1' := hy1 (by omega)
  have hn5 : (1 + (y1 : Int)).toNat = 1 + y1 := by omega
  refine W_loop [6, 8, 9, 10, 17, 18, 19, 20, 21, 22, 23, 24, 25, 26, 27, 28, 29, 30, 31, 32, 33, 34, 35, 36, 37, 38, 39, 40, 41, 42, 43, 44, 45, 46, 47, 48, 49, 50, 51, 52, 53, 54, 55, 56, 57, 58, 59, 60, 61, 62] (fun (k, u, rows) => [(8, .int .i64 (k : Nat)), (6, u)]) (fun (k, u, rows) w' => w.grownBy w' (some br) ∧ Rdr w0 w' br (m + 2 + 6 * k) ∧ k ≤ 1 + y1 ∧ Owned w.heap.size XR w' u rows ∧ rows.length = k ∧ ∀ r ∈ rows, r.length = 1 + y1) (fun x => 1 + y1 - x.1) (0, .slice (some ⟨b1, 0, none⟩) 0 0, []) (by repeat (first | exact trivial | refine And.intro rfl ?_)) ?_ ?_
  · exact ⟨hG, hr2, Nat.zero_le _, hO1.o.mono (by omega), rfl, by simp⟩
  rintro ⟨k, u, rows⟩ ρj w4 ⟨hG4, hr4, hk, hO4, hrl, hrr⟩
  have E4 := hr4.old
  have hg4 := hG4.size
  by_cases hlt : k < 1 + y1
  · focus
      have szE4 := E4.size; have szEhr2 := Ehr2.size; have szE2 := E2.size; have szEhr1 := Ehr1.size; have szE0 := E0.size; refine W_seq ?_; refine W_seq ?_; refine W_region rfl ?_; refine Wo rfl (opv_move (v := .int _ _) rfl) ?_
      refine Wo rfl (opv_move (v := .int _ _) rfl) ?_; refine Wo rfl (opv_lss rfl rfl) ?_; refine Wo_nil ?_; refine W_cond_dec rfl (fun h1 => ?_) (fun h1 => ?_); refine W_skip ?_; refine W_seq ?_; refine W_block ?_; refine W_seq ?_
      refine W_region rfl ?_; refine Wo rfl (opv_move (v := .int _ _) rfl) ?_; refine Wo_makeI rfl el58 (int_z (by omega) rfl) (by omega) ?_; rintro b2 w5 hb2 b2lt E5 hO2; have hG4 := grownBy_ext hG4 E5; have hr4 := hr4.ext E5
      have hs4 := E5.size; refine Wo rfl (opv_assign (v := .slice _ _ _) rfl) ?_; refine Wo_nil ?_; refine W_seq ?_; refine W_seq ?_; refine W_region rfl ?_; refine Wo rfl (opv_assign (v := .int _ _) rfl) ?_; refine Wo_nil ?_
      refine W_block ?_; rotate_left; (exfalso; omega)
    refine W_loop [10, 24, 25, 26, 27, 28, 29, 30, 31, 32, 33, 34, 35, 36, 37, 38, 39, 40, 41, 42, 43, 44, 45] (fun (j, row) => [(10, .int .i64 (j : Nat))]) (fun (j, row) w' => w.grownBy w' (some br) ∧ Rdr w0 w' br (m + 2 + 6 * k + j) ∧ j ≤ 1 + y1 ∧ OwnedB w.heap.size w4.heap.size XR w' u rows ∧ Owned w4.heap.size XI w' (.slice (some ⟨b2, 0, none⟩) (1 + (y1 : Int)).toNat (1 + (y1 : Int)).toNat) row ∧ row.length = 1 + y1) (fun x => 1 + y1 - x.1) (0, List.replicate (1 + (y1 : Int)).toNat 0) (by repeat (first | exact trivial | refine And.intro rfl ?_)) ?_ ?_
    · exact ⟨hG4, hr4, Nat.zero_le _, hO4.toB.ext E5, hO2, by simp; omega⟩
    rintro ⟨j, row⟩ ρi w6 ⟨hG6, hr6, hj, hO6, hR6, hrow⟩
    have E6 := hr6.old
    have hg6 := hG6.size
    have hb6 := hR6.lt_own (k := b2) rfl
    have hs6 : w4.heap.size ≤ w6.heap.size := by omega
    by_cases hjl : j < 1 + y1
    · focus
        have szE6 := E6.size; have szE5 := E5.size; have szE4 := E4.size; have szEhr2 := Ehr2.size; have szE2 := E2.size; have szEhr1 := Ehr1.size; have szE0 := E0.size; refine W_seq ?_; refine W_seq ?_; refine W_region rfl ?_
        refine Wo rfl (opv_move (v := .int _ _) rfl) ?_; refine Wo rfl (opv_move (v := .int _ _) rfl) ?_; refine Wo rfl (opv_lss rfl rfl) ?_; refine Wo_nil ?_; refine W_cond_dec rfl (fun h2 => ?_) (fun h2 => ?_); refine W_skip ?_
        refine W_seq ?_; refine W_block ?_; refine W_seq ?_; refine W_region rfl ?_; refine Wo rfl (opv_move (v := .int _ _) rfl) ?_; refine Wo rfl (opv_eql rfl rfl) ?_
        refine Wo_split_dec rfl (opv_move (v := .bool _) rfl) (fun h3 => ?_) (fun h3 => ?_); refine Wo rfl (opv_move (v := .int _ _) rfl) ?_; refine Wo rfl (opv_move (v := .int _ _) rfl) ?_; refine Wo rfl (opv_gtr rfl rfl) ?_
        refine Wo rfl (opv_pick_t (v := .bool _) rfl rfl) ?_; refine Wo_split_dec rfl (opv_move (v := .bool _) rfl) (fun h4 => ?_) (fun h4 => ?_); refine Wo_skip rfl ?_; refine Wo_skip rfl ?_
        refine Wo rfl (opv_pick_t (v := .bool _) rfl rfl) ?_; refine Wo_nil ?_; refine W_cond_true rfl ?_; refine W_region rfl ?_; refine Wo rfl (opv_move (v := .slice _ _ _) rfl) ?_; refine Wo rfl (opv_move (v := .int _ _) rfl) ?_
        refine Wo rfl (opv_move (v := .pointer _) rfl) ?_; refine Wo_call rfl (opc2 (a := .pointer _) (b := .int _ _) Tryz.call46 rfl rfl) (pick_ok _ _ (by assumption) (by omega)) ?_; rintro _ w7 ⟨y3, rfl, E7, hr3, hy3⟩
        (try dsimp only at hy3); have hlhr3 := hr3.lt; have Ehr3 := hr3.old; have hG6 := grownBy_trans hG6 E7; have hO6 := hO6.grown E7 (by omega); have hR6 := hR6.toB.grown E7 (by omega); have hs5 := E7.size
        refine Wo rfl (opv_quo rfl rfl (by omega)) ?_; refine Wo rfl (opv_indexAddr Tryz.underlying58 Tryz.sizeOf3 rfl rfl (by omega)) ?_
        refine Wo_set rfl Tryz.sizeOf3 rfl rfl hR6 (by first | omega | (simp <;> omega)) Owned.int (Nat.le_refl _) (by omega) ?_; rintro w8 hR6 On1 K1 hz1; have E8 := On1.ext1 Ehr3 (by omega); have hr3 := hr3.wrote E8 (K1 _ (by omega)) hz1
        have hG6 := grownBy_wrote hG6 Ehr3 E8 K1 hz1 (by first | exact .inr rfl | omega); have hO6 := hO6.wrote K1 (by omega); have hs7 := On1.size; refine Wo_nil ?_; refine W_region rfl ?_; refine Wo rfl (opv_move (v := .int _ _) rfl) ?_
        refine Wo rfl (opv_add rfl rfl (by omega)) ?_; refine Wo rfl (opv_assign (v := .int _ _) rfl) ?_; refine Wo_nil ?_; rotate_left; refine Wo rfl (opv_move (v := .int _ _) rfl) ?_; refine Wo rfl (opv_gtr rfl rfl) ?_
        refine Wo rfl (opv_pick_f (v := .bool _) rfl rfl) ?_; refine Wo_nil ?_; refine W_cond_dec rfl (fun h5 => ?_) (fun h5 => ?_); (exfalso; omega); refine W_skip ?_; refine W_region rfl ?_; refine Wo rfl (opv_move (v := .int _ _) rfl) ?_
        refine Wo rfl (opv_add rfl rfl (by omega)) ?_; refine Wo rfl (opv_assign (v := .int _ _) rfl) ?_; refine Wo_nil ?_; rotate_left; refine Wo_skip rfl ?_; refine Wo_skip rfl ?_; refine Wo_skip rfl ?_
        refine Wo rfl (opv_pick_f (v := .bool _) rfl rfl) ?_; refine Wo rfl (opv_move (v := .bool _) rfl) ?_; refine Wo rfl (opv_move (v := .int _ _) rfl) ?_; refine Wo rfl (opv_gtr rfl rfl) ?_
        refine Wo rfl (opv_pick_f (v := .bool _) rfl rfl) ?_; refine Wo_nil ?_; refine W_cond_dec rfl (fun h4 => ?_) (fun h4 => ?_); refine W_region rfl ?_; refine Wo rfl (opv_move (v := .slice _ _ _) rfl) ?_
        refine Wo rfl (opv_move (v := .int _ _) rfl) ?_; refine Wo rfl (opv_move (v := .pointer _) rfl) ?_; refine Wo_call rfl (opc2 (a := .pointer _) (b := .int _ _) Tryz.call46 rfl rfl) (pick_ok _ _ (by assumption) (by omega)) ?_
        rintro _ w7 ⟨y3, rfl, E7, hr3, hy3⟩; (try dsimp only at hy3); have hlhr3 := hr3.lt; have Ehr3 := hr3.old; have hG6 := grownBy_trans hG6 E7; have hO6 := hO6.grown E7 (by omega); have hR6 := hR6.toB.grown E7 (by omega)
        have hs5 := E7.size; refine Wo rfl (opv_quo rfl rfl (by omega)) ?_; refine Wo rfl (opv_indexAddr Tryz.underlying58 Tryz.sizeOf3 rfl rfl (by omega)) ?_
        refine Wo_set rfl Tryz.sizeOf3 rfl rfl hR6 (by first | omega | (simp <;> omega)) Owned.int (Nat.le_refl _) (by omega) ?_; rintro w8 hR6 On1 K1 hz1; have E8 := On1.ext1 Ehr3 (by omega); have hr3 := hr3.wrote E8 (K1 _ (by omega)) hz1
        have hG6 := grownBy_wrote hG6 Ehr3 E8 K1 hz1 (by first | exact .inr rfl | omega); have hO6 := hO6.wrote K1 (by omega); have hs7 := On1.size; refine Wo_nil ?_; refine W_region rfl ?_; refine Wo rfl (opv_move (v := .int _ _) rfl) ?_
        refine Wo rfl (opv_add rfl rfl (by omega)) ?_; refine Wo rfl (opv_assign (v := .int _ _) rfl) ?_; refine Wo_nil ?_; rotate_left; (exfalso; omega); (exfalso; omega)
      · refine ⟨((j + 1, row.set j ((y3 : Int) / 2))), by repeat (first | exact trivial | refine And.intro rfl ?_), by repeat (first | with_reducible exact Same.refl | refine Same.upd rfl ?_ | refine Same.upds rfl ?_ | refine Same.mix rfl ?_), ?_, ?_⟩
        · exact ⟨by assumption, Rdr.le (by assumption) (by omega), by omega, by assumption, by assumption, by simp [hrow]⟩
        · simp only; omega
      · refine ⟨((j + 1, row)), by repeat (first | exact trivial | refine And.intro rfl ?_), by repeat (first | with_reducible exact Same.refl | refine Same.upd rfl ?_ | refine Same.upds rfl ?_ | refine Same.mix rfl ?_), ?_, ?_⟩
        · exact ⟨by assumption, Rdr.le (by assumption) (by omega), by omega, by assumption, by assumption, hrow⟩
        · simp only; omega
      · refine ⟨((j + 1, row.set j ((y3 : Int) / 2))), by repeat (first | exact trivial | refine And.intro rfl ?_), by repeat (first | with_reducible exact Same.refl | refine Same.upd rfl ?_ | refine Same.upds rfl ?_ | refine Same.mix rfl ?_), ?_, ?_⟩
        · exact ⟨by assumption, Rdr.le (by assumption) (by omega), by omega, by assumption, by assumption, by simp [hrow]⟩
        · simp only; omega
    · obtain rfl : j = 1 + y1 := by omega
      have hrs : ∀ (rw' : List Int), rw'.length = 1 + y1 → ∀ r ∈ rows ++ [rw'], r.length = 1 + y1 := by
        intro rw' h9 r hr9
        rcases List.mem_append.1 hr9 with h | h
        · exact hrr r h
        · rw [List.mem_singleton.1 h]; exact h9
      focus
        have szE6 := E6.size; have szE5 := E5.size; have szE4 := E4.size; have szEhr2 := Ehr2.size; have szE2 := E2.size; have szEhr1 := Ehr1.size; have szE0 := E0.size; refine W_seq ?_; refine W_seq ?_; refine W_region rfl ?_
        refine Wo rfl (opv_move (v := .int _ _) rfl) ?_; refine Wo rfl (opv_move (v := .int _ _) rfl) ?_; refine Wo rfl (opv_lss rfl rfl) ?_; refine Wo_nil ?_; refine W_cond_dec rfl (fun h2 => ?_) (fun h2 => ?_); (exfalso; omega)
        refine W_exit ?_; refine exitX_same ?_; refine W_seq ?_; refine W_seq ?_; refine W_region rfl ?_; refine Wo rfl (opv_move (v := .int _ _) rfl) ?_; refine Wo rfl (opv_add rfl rfl (by omega)) ?_
        refine Wo rfl (opv_move (v := .int _ _) rfl) ?_; refine Wo rfl (opv_lss rfl rfl) ?_; refine Wo_split_dec rfl (opv_move (v := .bool _) rfl) (fun h3 => ?_) (fun h3 => ?_); refine Wo rfl (opv_move (v := .pointer _) rfl) ?_
        refine Wo_call rfl (opc2 (a := .pointer _) (b := .int _ _) Tryz.call46 rfl rfl) (pick_ok _ _ (by assumption) (by omega)) ?_; rintro _ w7 ⟨y3, rfl, E7, hr3, hy3⟩; (try dsimp only at hy3); have hlhr3 := hr3.lt; have Ehr3 := hr3.old
        have hG6 := grownBy_trans hG6 E7; have hO6 := hO6.grown E7 (by omega); have hR6 := hR6.toB.grown E7 (by omega); have hs5 := E7.size; refine Wo rfl (opv_gtr rfl rfl) ?_; refine Wo rfl (opv_pick_t (v := .bool _) rfl rfl) ?_
        refine Wo_nil ?_; refine W_cond_dec rfl (fun h4 => ?_) (fun h4 => ?_); refine W_region rfl ?_; refine Wo rfl (opv_move (v := .slice _ _ _) rfl) ?_; refine Wo rfl (opv_move (v := .int _ _) rfl) ?_
        refine Wo rfl (opv_add rfl rfl (by omega)) ?_; refine Wo rfl (opv_indexAddr_z Tryz.underlying58 Tryz.sizeOf3 rfl rfl (by omega)) ?_
        refine Wo_set rfl Tryz.sizeOf3 rfl rfl hR6 (by first | omega | (simp <;> omega)) Owned.int (Nat.le_refl _) (by omega) ?_; rintro w8 hR6 On1 K1 hz1; have E8 := On1.ext1 Ehr3 (by omega); have hr3 := hr3.wrote E8 (K1 _ (by omega)) hz1
        have hG6 := grownBy_wrote hG6 Ehr3 E8 K1 hz1 (by first | exact .inr rfl | omega); have hO6 := hO6.wrote K1 (by omega); have hs7 := On1.size; refine Wo_nil ?_; refine W_region rfl ?_; refine Wo rfl (opv_move (v := u) rfl) ?_
        refine Wo rfl (opv_move (v := .slice _ _ _) rfl) ?_; refine Wo_buildSlice (ps := [(0, .slice _ _ _)]) (cs := [_]) rfl Tryz.underlying22 Tryz.sizeOf58 Tryz.zeroValue58 rfl rfl rfl rfl ?_; rintro b3 w9 hb3 E9 hB1; have hlb3 := hB1.lt
        have hr3 := hr3.ext E9; have hG6 := grownBy_ext hG6 E9; have hs8 := E9.size
        refine Wo_app1 rfl el22 rfl rfl hB1 (hO6.ext E9) (hR6.toB.ext E9).o (by omega) (by first | omega | (simp <;> omega)) (by omega) (by omega) (E8.trans E9) (by omega) ?_; have hT1 := (hO6.ext E9); rintro v1 w10 hO6 E10 M1
        have hR6 := (hR6.toB.ext E9).moves M1 hT1 (by omega); have hB1 := hB1.moves M1 hT1 (by omega); have hr3 := hr3.moves E10 M1 hT1 (by omega); have hG6 := grownBy_moves hG6 M1 hT1 (by omega); have hs9 := E10.size
        refine Wo rfl (opv_assign (v := v1) rfl) ?_; refine Wo_nil ?_; refine W_region rfl ?_; refine Wo rfl (opv_move (v := .int _ _) rfl) ?_; refine Wo rfl (opv_add rfl rfl (by omega)) ?_; refine Wo rfl (opv_assign (v := .int _ _) rfl) ?_
        refine Wo_nil ?_; rotate_left; refine W_skip ?_; refine W_region rfl ?_; refine Wo rfl (opv_move (v := u) rfl) ?_; refine Wo rfl (opv_move (v := .slice _ _ _) rfl) ?_
        refine Wo_buildSlice (ps := [(0, .slice _ _ _)]) (cs := [_]) rfl Tryz.underlying22 Tryz.sizeOf58 Tryz.zeroValue58 rfl rfl rfl rfl ?_; rintro b3 w8 hb3 E8 hB1; have hlb3 := hB1.lt; have hr3 := hr3.ext E8
        have hG6 := grownBy_ext hG6 E8; have hs7 := E8.size; refine Wo_app1 rfl el22 rfl rfl hB1 (hO6.ext E8) (hR6.ext E8).o (by omega) (by first | omega | (simp <;> omega)) (by omega) (by omega) (Ehr3.trans E8) (by omega) ?_
        have hT1 := (hO6.ext E8); rintro v1 w9 hO6 E9 M1; have hR6 := (hR6.ext E8).moves M1 hT1 (by omega); have hB1 := hB1.moves M1 hT1 (by omega); have hr3 := hr3.moves E9 M1 hT1 (by omega); have hG6 := grownBy_moves hG6 M1 hT1 (by omega)
        have hs8 := E9.size; refine Wo rfl (opv_assign (v := v1) rfl) ?_; refine Wo_nil ?_; refine W_region rfl ?_; refine Wo rfl (opv_move (v := .int _ _) rfl) ?_; refine Wo rfl (opv_add rfl rfl (by omega)) ?_
        refine Wo rfl (opv_assign (v := .int _ _) rfl) ?_; refine Wo_nil ?_; rotate_left; refine Wo_skip rfl ?_; refine Wo_skip rfl ?_; refine Wo_skip rfl ?_; refine Wo rfl (opv_pick_f (v := .bool _) rfl rfl) ?_; refine Wo_nil ?_
        refine W_cond_false rfl ?_; refine W_skip ?_; refine W_region rfl ?_; refine Wo rfl (opv_move (v := u) rfl) ?_; refine Wo rfl (opv_move (v := .slice _ _ _) rfl) ?_
        refine Wo_buildSlice (ps := [(0, .slice _ _ _)]) (cs := [_]) rfl Tryz.underlying22 Tryz.sizeOf58 Tryz.zeroValue58 rfl rfl rfl rfl ?_; rintro b3 w7 hb3 E7 hB1; have hlb3 := hB1.lt; have hG6 := grownBy_ext hG6 E7
        have hr6 := hr6.ext E7; have hs5 := E7.size; refine Wo_app1 rfl el22 rfl rfl hB1 (hO6.ext E7) (hR6.toB.ext E7).o (by omega) (by first | omega | (simp <;> omega)) (by omega) (by omega) (E6.trans E7) (by omega) ?_
        have hT1 := (hO6.ext E7); rintro v1 w8 hO6 E8 M1; have hR6 := (hR6.toB.ext E7).moves M1 hT1 (by omega); have hB1 := hB1.moves M1 hT1 (by omega); have hG6 := grownBy_moves hG6 M1 hT1 (by omega)
        have hr6 := hr6.moves E8 M1 hT1 (by omega); have hs7 := E8.size; refine Wo rfl (opv_assign (v := v1) rfl) ?_; refine Wo_nil ?_; refine W_region rfl ?_; refine Wo rfl (opv_move (v := .int _ _) rfl) ?_
        refine Wo rfl (opv_add rfl rfl (by omega)) ?_; refine Wo rfl (opv_assign (v := .int _ _) rfl) ?_; refine Wo_nil ?_; rotate_left
      · refine ⟨((k + 1, v1, rows ++ [row.set ((k : Int) + 1).toNat 1])), by repeat (first | exact trivial | refine And.intro rfl ?_), by repeat (first | with_reducible exact Same.refl | refine Same.upd rfl ?_ | refine Same.upds rfl ?_ | refine Same.mix rfl ?_), ?_, ?_⟩
        · exact ⟨by assumption, Rdr.le (by assumption) (by omega), by omega, by assumption, by simp [hrl], hrs _ (by simp [hrow])⟩
        · simp only; omega
      · refine ⟨((k + 1, v1, rows ++ [row])), by repeat (first | exact trivial | refine And.intro rfl ?_), by repeat (first | with_reducible exact Same.refl | refine Same.upd rfl ?_ | refine Same.upds rfl ?_ | refine Same.mix rfl ?_), ?_, ?_⟩
        · exact ⟨by assumption, Rdr.le (by assumption) (by omega), by omega, by assumption, by simp [hrl], hrs _ hrow⟩
        · simp only; omega
      · refine ⟨((k + 1, v1, rows ++ [row])), by repeat (first | exact trivial | refine And.intro rfl ?_), by repeat (first | with_reducible exact Same.refl | refine Same.upd rfl ?_ | refine Same.upds rfl ?_ | refine Same.mix rfl ?_), ?_, ?_⟩
        · exact ⟨by assumption, Rdr.le (by assumption) (by omega), by omega, by assumption, by simp [hrl], hrs _ hrow⟩
        · simp only; omega
  · obtain rfl : k = 1 + y1 := by omega
    obtain ⟨ub, uc, rfl, _⟩ := hO4.lit (by omega)
    have hub := hO4.lt_own (k := ub) rfl
    have hrow := hrr rows[0] (List.getElem_mem (by omega))
    obtain ⟨brw, crw, hRow, hbw1, hbw2⟩ := hO4.rowAt (i := 0) (by omega) (by omega)
    focus
      have szE4 := E4.size; have szEhr2 := Ehr2.size; have szE2 := E2.size; have szEhr1 := Ehr1.size; have szE0 := E0.size; refine W_seq ?_; refine W_seq ?_; refine W_region rfl ?_; refine Wo rfl (opv_move (v := .int _ _) rfl) ?_
      refine Wo rfl (opv_move (v := .int _ _) rfl) ?_; refine Wo rfl (opv_lss rfl rfl) ?_; refine Wo_nil ?_; refine W_cond_dec rfl (fun h1 => ?_) (fun h1 => ?_); (exfalso; omega); refine W_exit ?_; refine exitX_same ?_; refine W_seq ?_
      refine W_seq ?_; refine W_region rfl ?_; refine Wo rfl (opv_move (v := .pointer _) rfl) ?_; refine Wo rfl (opv_move (v := .int _ _) rfl) ?_
      refine Wo_call rfl (opc2 (a := .pointer _) (b := .int _ _) Tryz.call64 rfl rfl) (odd_ok _ _ (by assumption) (by omega) (by omega)) ?_; rintro _ w5 ⟨y3, rfl, E5, hr3, hy3⟩; (try dsimp only at hy3); have hlhr3 := hr3.lt
      have Ehr3 := hr3.old; have hG4 := grownBy_trans hG4 E5; have hO4 := hO4.toB.grown E5 (by omega); have hRow := hRow.grown E5 (by simp [Value.ownBlock]; omega); have hs4 := E5.size; refine Wo_nil ?_
      refine W_cond rfl (fun h2 => ?_) (fun h2 => ?_); refine W_seq ?_; refine W_region rfl ?_; refine Wo rfl (opv_move (v := .pointer _) rfl) ?_
      refine Wo_call rfl (opc2 (a := .pointer _) (b := .int _ _) Tryz.call46 rfl rfl) (pick_ok _ _ (by assumption) (by omega)) ?_; rintro _ w6 ⟨y4, rfl, E6, hr5, hy4⟩; (try dsimp only at hy4); have hlhr5 := hr5.lt; have Ehr5 := hr5.old
      have hG4 := grownBy_trans hG4 E6; have hO4 := hO4.grown E6 (by omega); have hRow := hRow.grown E6 (by simp [Value.ownBlock]; omega); have hs5 := E6.size; refine Wo_nil ?_; refine W_block ?_; refine W_seq ?_; refine W_region rfl ?_
      refine Wo rfl (opv_eql rfl rfl) ?_; refine Wo rfl (opv_assign (v := .bool _) rfl) ?_; refine Wo_nil ?_; refine W_cond_dec rfl (fun h3 => ?_) (fun h3 => ?_); refine W_seq ?_; refine W_region rfl ?_
      refine Wo_lit0 (XSl 3 XInt) rfl el22 Tryz.sizeOf58 ?_; rintro b2 w7 hb2 b2lt E7 hO2; have hr5 := hr5.ext E7; have hG4 := grownBy_ext hG4 E7; have hs6 := E7.size; refine Wo rfl (opv_assign (v := .slice _ _ _) rfl) ?_
      refine Wo_nil ?_; refine W_ret ?_; refine at_ret (v := .slice _ _ _) rfl ?_; rotate_left; refine W_seq ?_; refine W_region rfl ?_; refine Wo rfl (opv_eql rfl rfl) ?_; refine Wo rfl (opv_assign (v := .bool _) rfl) ?_
      refine Wo_nil ?_; refine W_cond_dec rfl (fun h4 => ?_) (fun h4 => ?_); refine W_region rfl ?_; refine Wo rfl (opv_move (v := .slice _ _ _) rfl) ?_
      refine Wo_rowAt Tryz.underlying22 Tryz.sizeOf58 Tryz.isAgg58 rfl (fun _ => rfl) rfl ⟨_, _, rfl⟩ rfl hRow (by first | omega | (simp <;> omega)) ?_; rintro _
      refine Wo rfl (opv_indexAddr (k := 0) Tryz.underlying58 Tryz.sizeOf3 rfl rfl (by omega)) ?_; refine Wo_gset rfl Tryz.sizeOf3 rfl rfl hO4 hRow (by first | omega | (simp <;> omega)) (by first | omega | (simp <;> omega)) ?_
      rintro w7 hO4 hRow On1 K1 hz1; have E7 := On1.ext1 Ehr5 (by omega); have hr5 := hr5.wrote E7 (K1 _ (by omega)) hz1; have hG4 := grownBy_wrote hG4 Ehr5 E7 K1 hz1 (by first | exact .inr rfl | omega); have hs6 := On1.size
      refine Wo_nil ?_; refine W_seq ?_; refine W_region rfl ?_; refine Wo rfl (opv_move (v := .slice _ _ _) rfl) ?_; refine Wo rfl (opv_assign (v := .slice _ _ _) rfl) ?_; refine Wo_nil ?_; refine W_ret ?_
      refine at_ret (v := .slice _ _ _) rfl ?_; rotate_left; refine W_region rfl ?_; refine Wo rfl (opv_move (v := .slice _ _ _) rfl) ?_; refine Wo rfl (opv_move (v := .slice _ _ _) rfl) ?_
      refine Wo_rowAt Tryz.underlying22 Tryz.sizeOf58 Tryz.isAgg58 rfl (fun _ => rfl) rfl ⟨_, _, rfl⟩ rfl hRow (by first | omega | (simp <;> omega)) ?_; rintro _
      refine Wo_buildSlice (ps := [(0, .int _ _)]) (cs := [_]) rfl Tryz.underlying58 Tryz.sizeOf3 Tryz.zeroValue3 rfl rfl rfl rfl ?_; rintro b2 w7 hb2 E7 hB1; have hlb2 := hB1.lt; have hr5 := hr5.ext E7; have hG4 := grownBy_ext hG4 E7
      have hs6 := E7.size; rotate_left; refine W_skip ?_; refine W_seq ?_; refine W_region rfl ?_; refine Wo rfl (opv_move (v := .slice _ _ _) rfl) ?_; refine Wo rfl (opv_assign (v := .slice _ _ _) rfl) ?_; refine Wo_nil ?_
      refine W_ret ?_; refine at_ret (v := .slice _ _ _) rfl ?_; rotate_left
    · exact ⟨by assumption, Rdr.le (by assumption) (by omega), [], Owned.mono (by assumption) (by omega), by simp⟩
    · refine ⟨by assumption, Rdr.le (by assumption) (by omega), _, by assumption, by simp; omega, fun r hr9 => ?_⟩
      rcases List.mem_or_eq_of_mem_set hr9 with h | h
      · have := hrr r h; omega
      · rw [h]; simp; omega
    · have hO7 := hO4.ext (show Ext w6 w7 by assumption)
      have hR7 := hRow.ext (show Ext w6 w7 by assumption)
      obtain ⟨hme, hRO⟩ := hO7.rowOwn hR7 (by omega)
      focus
        have szE7 := E7.size; have szEhr5 := Ehr5.size; have szEhr3 := Ehr3.size; have szE4 := E4.size; have szEhr2 := Ehr2.size; have szE2 := E2.size; have szEhr1 := Ehr1.size; have szE0 := E0.size
        refine Wo_app1 rfl el58 rfl rfl hB1 hRO Owned.int (Nat.le_refl _) (by first | omega | (simp <;> omega)) (by omega) (by omega) (Ehr5.trans E7) (by omega) ?_; have hT1 := hRO; rintro v1 w8 hRO E8 M1
        have hB1 := hB1.moves M1 hT1 (by omega); have hr5 := hr5.moves E8 M1 hT1 (by omega); have hG4 := grownBy_moves hG4 M1 hT1 (by omega); have hs7 := E8.size
        refine Wo rfl (opv_indexAddr (k := 0) Tryz.underlying22 Tryz.sizeOf58 rfl rfl (by omega)) ?_
      obtain ⟨q1, q2, ⟨q3, q4⟩, q5⟩ := hO7.rowBack hR7 (by omega) (show Moves w7 (.slice (some ⟨brw, 0, none⟩) rows[0].length crw) w8 v1 from M1) hRO (by omega)
      refine Wo_store (w' := w8.setCell ⟨ub, 0, none⟩ v1) rfl (ops_store Tryz.sizeOf58 rfl rfl q2 q4 q5) ?_
      have E9 : Ext w0 (w8.setCell ⟨ub, 0, none⟩ v1) := E8.setCell (by simp only; omega) v1
      have hr9 := hr5.wrote E9 (Hs.heap_setCell_other v1 (show br ≠ ub by omega)) (size_setCell _ _)
      have hG9 := grownBy_wrote (b := ub) hG4 E8 E9 (fun k hk => Hs.heap_setCell_other v1 hk) (size_setCell _ _) (.inl hub.1)
      generalize w8.setCell ⟨ub, 0, none⟩ v1 = w9 at q1 hr9 hG9 E9
      focus
        have szE9 := E9.size; have szE8 := E8.size; have szE7 := E7.size; have szEhr5 := Ehr5.size; have szEhr3 := Ehr3.size; have szE4 := E4.size; have szEhr2 := Ehr2.size; have szE2 := E2.size; have szEhr1 := Ehr1.size
        have szE0 := E0.size; refine Wo_nil ?_; refine W_seq ?_; refine W_region rfl ?_; refine Wo rfl (opv_move (v := .slice _ _ _) rfl) ?_; refine Wo rfl (opv_assign (v := .slice _ _ _) rfl) ?_; refine Wo_nil ?_; refine W_ret ?_
        refine at_ret (v := .slice _ _ _) rfl ?_
      refine ⟨hG9, hr9.le (by omega), _, q1, by simp; omega, fun r hr' => ?_⟩
      rcases List.mem_or_eq_of_mem_set hr' with h | h
      · have := hrr r h; omega
      · rw [h]; simp; omega
    · refine ⟨by assumption, Rdr.le (by assumption) (by omega), _, OwnedB.o (by assumption), by omega, fun r hr9 => ?_⟩
      have := hrr r hr9; omega

end Go.Proofs.YtgphoihilheoeaaGreatDoor
namespace Go.Proofs.YtgphoihilheoeaaGreatDoor
open Go.Hs
set_option maxRecDepth 10000
set_option maxHeartbeats 4000000
set_option linter.unusedVariables false
set_option linter.unusedSimpArgs false

theorem Node_ok {w0 : World} (w : World) {br m : Nat} (n : Int) (hr : Rdr w0 w br m) (hm : m ≤ 10000000) (hn : 0 ≤ n ∧ n ≤ 1000) :
    Does Tryz.prog 27 [.pointer (some ⟨br, 0, none⟩), .int .i64 n] w (RetDT w0 w br (m + 63) XR (fun p z => p.length ≤ 5 ∧ (∀ r ∈ p, r.length ≤ 6) ∧ -1000 ≤ z ∧ z ≤ 1000)) := by
  refine fn_of_W2 Tryz.func27 rfl Tryz.results27 Tryz.ntmps27 rfl ?_
  have hG : w.grownBy w (some br) := grownBy_refl _ _
  have hlr := hr.lt
  have hgr := hr.ge
  have E0 := hr.old
  focus
    have szE0 := E0.size; refine W_seq ?_; refine W_region rfl ?_; refine Wo rfl (opv_assign (v := .slice _ _ _) rfl) ?_; refine Wo rfl (opv_assign (v := .int _ _) rfl) ?_; refine Wo_nil ?_; refine W_seq ?_; refine W_region rfl ?_
    refine Wo rfl (opv_move (v := .pointer _) rfl) ?_; refine Wo rfl (opv_move (v := .int _ _) rfl) ?_
    refine Wo_call rfl (opc2 (a := .pointer _) (b := .int _ _) Tryz.call45 rfl rfl) (Picture_ok _ _ (by assumption) (by omega) (by assumption)) ?_; rintro u1 w1 ⟨E1, hr1, x1, hO1, hy1⟩; (try dsimp only at hy1); have hlhr1 := hr1.lt
    have Ehr1 := hr1.old; have hG := grownBy_trans hG E1; have hs1 := E1.size; refine Wo rfl (opv_assign (v := u1) rfl) ?_; refine Wo_nil ?_; refine W_seq ?_; refine W_region rfl ?_; refine Wo rfl (opv_move (v := u1) rfl) ?_
    refine Wo rfl (opv_move (v := .pointer _) rfl) ?_; refine Wo rfl (opv_move (v := u1) rfl) ?_; refine Wo rfl (opv_len Tryz.underlying22 rfl (Owned.read hO1)) ?_; refine Wo rfl (opv_max rfl rfl) ?_
    refine Wo_call rfl (opc2 (a := .pointer _) (b := .int _ _) Tryz.call46 rfl rfl) (pick_ok _ _ (by assumption) (by omega)) ?_; rintro _ w2 ⟨y1, rfl, E2, hr2, hy2⟩; (try dsimp only at hy2); have hlhr2 := hr2.lt; have Ehr2 := hr2.old
    have hO1 := hO1.toB.grown E2 (by omega); have hG := grownBy_trans hG E2; have hs2 := E2.size; refine Wo rfl (opv_move (v := .pointer _) rfl) ?_
    refine Wo_call rfl (opc2 (a := .pointer _) (b := .int _ _) Tryz.call46 rfl rfl) (pick_ok _ _ (by assumption) (by omega)) ?_; rintro _ w3 ⟨y2, rfl, E3, hr3, hy3⟩; (try dsimp only at hy3); have hlhr3 := hr3.lt; have Ehr3 := hr3.old
    have hO1 := hO1.grown E3 (by omega); have hG := grownBy_trans hG E3; have hs3 := E3.size; refine Wo rfl (opv_quo rfl rfl (by omega)) ?_; refine Wo rfl (opv_mul rfl rfl (by omega)) ?_; refine Wo rfl (opv_add rfl rfl (by omega)) ?_
    refine Wo rfl (opv_move (v := .pointer _) rfl) ?_; refine Wo_call rfl (opc2 (a := .pointer _) (b := .int _ _) Tryz.call46 rfl rfl) (pick_ok _ _ (by assumption) (by omega)) ?_; rintro _ w4 ⟨y3, rfl, E4, hr4, hy4⟩
    (try dsimp only at hy4); have hlhr4 := hr4.lt; have Ehr4 := hr4.old; have hO1 := hO1.grown E4 (by omega); have hG := grownBy_trans hG E4; have hs4 := E4.size; refine Wo rfl (opv_quo rfl rfl (by omega)) ?_
    refine Wo rfl (opv_mul rfl rfl (by omega)) ?_; refine Wo rfl (opv_sub rfl rfl (by omega)) ?_; refine Wo rfl (opv_assign (v := u1) rfl) ?_; refine Wo rfl (opv_assign (v := .int _ _) rfl) ?_; refine Wo_nil ?_; refine W_ret ?_
    refine at_ret (v := .tuple #[u1, .int _ _]) rfl ?_
  exact ⟨_, _, _, rfl, by assumption, Rdr.le (by assumption) (by omega), OwnedB.o (by assumption), by omega, hy1.2, by omega, by omega⟩

end Go.Proofs.YtgphoihilheoeaaGreatDoor
namespace Go.Proofs.YtgphoihilheoeaaGreatDoor
open Go.Hs
set_option maxRecDepth 10000
set_option maxHeartbeats 4000000
set_option linter.unusedVariables false
set_option linter.unusedSimpArgs false

theorem DrawDeskNew_ok (w : World) (v : Value) (xs : List UInt8) (h : Bytes w v xs) (hc : CapOk v) :
    Does Tryz.prog 11 [v] w (RetTN w XR (fun p z => p.length ≤ 5 ∧ (∀ r ∈ p, r.length ≤ 6) ∧ -1000 ≤ z ∧ z ≤ 1000)) := by
  refine fn_of_W2 Tryz.func11 rfl Tryz.results11 Tryz.ntmps11 rfl ?_
  have hle := h.le
  focus
    refine W_seq ?_; refine W_region rfl ?_; refine Wo rfl (opv_assign (v := .slice _ _ _) rfl) ?_; refine Wo rfl (opv_assign (v := .int _ _) rfl) ?_; refine Wo_nil ?_; refine W_seq ?_; refine W_region rfl ?_
    refine Wo rfl (opv_move (v := v) rfl) ?_; refine Wo_call rfl (opc1 (a := v) Tryz.call28 rfl) (open_ok _ _ _ (h) (by assumption)) ?_; rintro _ w1 ⟨E1, y1, rfl, hy1⟩; have hlhy1 := hy1.lt; have hghy1 := hy1.ge; have hs1 := E1.size
    refine Wo_call rfl (opc2 (a := .pointer _) (b := .int _ _) Tryz.call27 rfl rfl) (Node_ok _ _ (by assumption) (by omega) (by omega)) ?_; rintro _ w2 ⟨u1, z1, x1, rfl, E2, hr1, hO1, hy2⟩; (try dsimp only at hy2); have hlhr1 := hr1.lt
    have Ehr1 := hr1.old; have hs2 := E2.size; refine Wo rfl (opv_extract (v := u1) rfl rfl) ?_; refine Wo rfl (opv_extract (v := .int _ _) rfl rfl) ?_; refine Wo rfl (opv_assign (v := u1) rfl) ?_
    refine Wo rfl (opv_assign (v := .int _ _) rfl) ?_; refine Wo_nil ?_; refine W_ret ?_; refine at_ret (v := .tuple #[u1, .int _ _]) rfl ?_
  exact ⟨_, _, _, rfl, Ehr1, hO1.mono (by omega), hy2⟩

open Classical in
theorem FnDeskNew_walk (w : World) (v : Value) (xs : List UInt8) (h : Bytes w v xs) (hc : CapOk v) : Does Tryz.prog 4 [v] w (Ret w (.bool true)) := by
  have hle := h.le
  refine fn_of_W1 Tryz.func4 rfl Tryz.results4 Tryz.ntmps4 rfl ?_
  have stop4 : True := trivial
  focus
    refine W_seq ?_; refine W_region rfl ?_; refine Wo rfl (opv_assign (v := .bool _) rfl) ?_; refine Wo_nil ?_; refine W_seq ?_; refine W_seq ?_; refine W_region rfl ?_; refine Wo rfl (opv_move (v := v) rfl) ?_
    refine Wo rfl (opv_len Tryz.underlying32 rfl h) ?_; refine Wo rfl (opv_gtr rfl rfl) ?_; refine Wo_nil ?_; refine W_cond_dec rfl (fun h1 => ?_) (fun h1 => ?_); refine W_seq ?_; refine W_region rfl ?_
    refine Wo rfl (opv_assign (v := .bool _) rfl) ?_; refine Wo_nil ?_; refine W_ret ?_; exact ⟨rfl, (Ext.refl _)⟩; refine W_skip ?_; refine W_seq ?_; refine W_region rfl ?_; refine Wo rfl (opv_move (v := v) rfl) ?_
    refine Wo_call rfl (opc1 (a := v) Tryz.call11 rfl) (DrawDeskNew_ok _ _ _ (h) (by assumption)) ?_; rintro _ w1 ⟨u1, z1, x1, rfl, E1, hO1, hy1⟩; have hs1 := E1.size; refine Wo rfl (opv_move (v := .tuple _) rfl) ?_
    refine Wo rfl (opv_extract (v := u1) rfl rfl) ?_; refine Wo rfl (opv_extract (v := .int _ _) rfl rfl) ?_; refine Wo rfl (opv_assign (v := u1) rfl) ?_; refine Wo rfl (opv_assign (v := .int _ _) rfl) ?_; refine Wo_nil ?_
    refine W_seq ?_
  clear stop4
  have litown : True := trivial
  by_cases hz : Nod x1 z1
  · have hzl : z1.toNat < x1.length := by have := hz.2; omega
    obtain ⟨c, hc⟩ : ∃ c, c = lst x1 z1.toNat := ⟨_, rfl⟩
    have hL : LeastP c := by rw [hc]; exact LeastP.lst hz.1.gr hzl (Nat.le_trans (lst_le hz.1.gr hzl) hz.1.2.1)
    have k1 : ∀ (w : World) (v : Value), ESl Ints w v x1 → Does Tryz.prog 13 [v, .int .i64 z1] w (RetDkB w 22 58 3 c [] true) := fun w v h => by
      have := spec_DeskNew_ok w v x1 h z1; rwa [if_pos hz, decide_eq_true hz, ← hc] at this
    have k2 : ∀ (w : World) (v : Value), ESl Ints w v x1 → Does Tryz.prog 12 [v, .int .i64 z1] w (RetDkB w 22 58 3 c [] true) := fun w v h => by
      have := impl_DeskNew_ok w v x1 h z1; rwa [if_pos hz, decide_eq_true hz, ← hc] at this
    have k3 : ∀ (w : World) (v1 v2 t1 t2 : Value), ESl Ints w v1 c → ESl (ESl Ints) w v2 [] → ESl Ints w t1 c → ESl (ESl Ints) w t2 [] → Does Tryz.prog 14 [.agg #[v1, v2], .agg #[t1, t2]] w (Ret w (.bool true)) := fun w v1 v2 t1 t2 h1 h2 h3 h4 => by
      have := sameDesk_ok w v1 v2 t1 t2 c c [] [] h1 h2 h3 h4
      rwa [decide_eq_true ⟨rfl, rfl⟩] at this
    have k4 : ∀ (w : World) (v1 v2 : Value), ESl Ints w v1 c → ESl (ESl Ints) w v2 [] → Does Tryz.prog 9 [.agg #[v1, v2]] w (Ret w (.bool true)) := fun w v1 v2 h1 h2 => by
      have := impl_DeskOk_ok w v1 v2 ⟨c, []⟩ h1 h2
      rwa [decide_eq_true ⟨hL, by simp, fun p hp => by cases hp⟩] at this
    have k5 : ∀ (w : World) (v1 v2 : Value), ESl Ints w v1 c → ESl Ints w v2 x1 → Does Tryz.prog 17 [v1, .int .i64 0, v2, .int .i64 z1] w (Ret w (.bool true)) := fun w v1 v2 h1 h2 => by
      have := impl_SameSet_ok w v1 v2 c x1 h1 h2 0 z1
      rwa [show ssetV c 0 x1 z1 = true from decide_eq_true ⟨⟨hL.1, by decide, by have := hL.1.1; omega⟩, hz, by rw [hc]; exact (lst_bis hz.1.gr hzl).symm⟩] at this
    clear hc
    focus
      have szE1 := E1.size; refine W_region rfl ?_; refine Wo rfl (opv_move (v := u1) rfl) ?_; refine Wo rfl (opv_move (v := .int _ _) rfl) ?_
      refine Wo_call rfl (opc2 (a := u1) (b := .int _ _) Tryz.call12 rfl rfl) (k2 _ _ ((Owned.read hO1))) ?_; rintro _ w2 ⟨u2, q1, m1, rfl, E2, hO2, hQ1, hm1, hn1⟩; have icu2 := OwnedB.isC hO2; have cpu2 := OwnedB.capOk hO2
      have icq1 := OwnedB.isC (Owned.toB hQ1); have cpq1 := OwnedB.capOk (Owned.toB hQ1); have hs2 := E2.size; refine Wo rfl (opv_move (v := .tuple _) rfl) ?_; refine Wo rfl (opv_extract (v := .agg _) rfl rfl) ?_
      refine Wo rfl (opv_extract (v := .bool _) rfl rfl) ?_; refine Wo_alloc2 rfl flat28 ?_; rintro b1 w3 hb1 E3 hB1; have hlb1 := hB1.lt; have hs3 := E3.size
      refine Wo_st2 rfl Tryz.sizeOf28 rfl rfl (by first | rfl | assumption) (by first | rfl | assumption) hB1 (by omega) ((E1.trans E2).trans E3) ?_; rintro w4 E4 hB1 K1 hz1
      have E5 := (E2.trans E3).wroteAt ((E1.trans E2).trans E3) E4 K1 hz1 (by omega); have szE5 := E5.size; have E6 := E3.wroteAt ((E1.trans E2).trans E3) E4 K1 hz1 (by omega); have szE6 := E6.size
      have hO1 := (hO1.toB.ext (E2.trans E3)).wrote K1 (by omega); have hO2 := (hO2.ext E3).wrote K1 (by omega); have hQ1 := (hQ1.toB.ext E3).wrote K1 (by omega); refine Wo rfl (opv_assign (v := .bool _) rfl) ?_; refine Wo_nil ?_
      refine W_seq ?_; refine W_region rfl ?_; refine Wo rfl (opv_move (v := u1) rfl) ?_; refine Wo rfl (opv_move (v := .int _ _) rfl) ?_
      refine Wo_call rfl (opc2 (a := u1) (b := .int _ _) Tryz.call13 rfl rfl) (k1 _ _ ((OwnedB.read hO1))) ?_; rintro _ w5 ⟨u3, q2, m2, rfl, E7, hO3, hQ2, hm2, hn2⟩; have icu3 := OwnedB.isC hO3; have cpu3 := OwnedB.capOk hO3
      have icq2 := OwnedB.isC (Owned.toB hQ2); have cpq2 := OwnedB.capOk (Owned.toB hQ2); have hs4 := E7.size; refine Wo rfl (opv_move (v := .tuple _) rfl) ?_; refine Wo rfl (opv_extract (v := .agg _) rfl rfl) ?_
      refine Wo rfl (opv_extract (v := .bool _) rfl rfl) ?_; refine Wo_alloc2 rfl flat28 ?_; rintro b2 w6 hb2 E8 hB2; have hlb2 := hB2.lt; have hs5 := E8.size
      refine Wo_st2 rfl Tryz.sizeOf28 rfl rfl (by first | rfl | assumption) (by first | rfl | assumption) hB2 (by omega) ((E4.trans E7).trans E8) ?_; rintro w7 E9 hB2 K2 hz2
      have E10 := ((E5.trans E7).trans E8).wroteAt ((E4.trans E7).trans E8) E9 K2 hz2 (by omega); have szE10 := E10.size; have E11 := ((E6.trans E7).trans E8).wroteAt ((E4.trans E7).trans E8) E9 K2 hz2 (by omega); have szE11 := E11.size
      have E12 := (E7.trans E8).wroteAt ((E4.trans E7).trans E8) E9 K2 hz2 (by omega); have szE12 := E12.size; have E13 := E8.wroteAt ((E4.trans E7).trans E8) E9 K2 hz2 (by omega); have szE13 := E13.size
      have hB1 := (hB1.ext (E7.trans E8)).of_heap (K2 _ (by omega)); have hO1 := (hO1.ext (E7.trans E8)).wrote K2 (by omega); have hO2 := (hO2.ext (E7.trans E8)).wrote K2 (by omega); have hQ1 := (hQ1.ext (E7.trans E8)).wrote K2 (by omega)
      have hO3 := (hO3.ext E8).wrote K2 (by omega); have hQ2 := (hQ2.toB.ext E8).wrote K2 (by omega); refine Wo rfl (opv_assign (v := .bool _) rfl) ?_; refine Wo_nil ?_; refine W_seq ?_; refine W_seq ?_; refine W_region rfl ?_
      refine Wo (v := .agg _) rfl (opv_load2 Tryz.isAgg28 Tryz.sizeOf28 rfl hB1) ?_; refine Wo (v := .agg _) rfl (opv_load2 Tryz.isAgg28 Tryz.sizeOf28 rfl hB2) ?_
      refine Wo_call rfl (opc2 (a := .agg _) (b := .agg _) Tryz.call14 rfl rfl) (k3 _ _ _ _ _ ((OwnedB.read hO2)) ((OwnedB.read hQ1)) ((OwnedB.read hO3)) ((OwnedB.read hQ2))) ?_; rintro _ w8 ⟨rfl, E14⟩; have hs6 := E14.size
      refine Wo rfl (opv_not rfl) ?_; refine Wo_split rfl (opv_move (v := .bool _) rfl) (fun h2 => ?_) (fun h2 => ?_); contradiction; refine Wo rfl (opv_move (v := .bool _) rfl) ?_; refine Wo rfl (opv_move (v := .bool _) rfl) ?_
      refine Wo rfl (opv_neq_bool Tryz.underlying4 rfl rfl) ?_; refine Wo rfl (opv_pick_f (v := .bool _) rfl rfl) ?_; refine Wo_nil ?_; refine W_cond_ndec rfl (fun h3 => ?_) (fun h3 => ?_); contradiction; refine W_skip ?_; refine W_seq ?_
      refine W_seq ?_; refine W_region rfl ?_; refine Wo rfl (opv_move (v := .bool _) rfl) ?_; refine Wo rfl (opv_not rfl) ?_; refine Wo_nil ?_; refine W_cond rfl (fun h4 => ?_) (fun h4 => ?_); contradiction; refine W_skip ?_
      refine W_seq ?_; refine W_region rfl ?_; refine Wo (v := .agg _) rfl (opv_load2 Tryz.isAgg28 Tryz.sizeOf28 rfl (hB1.ext E14)) ?_
      refine Wo_call rfl (opc1 (a := .agg _) Tryz.call9 rfl) (k4 _ _ _ ((Mono.mono E14 (OwnedB.read hO2))) ((Mono.mono E14 (OwnedB.read hQ1)))) ?_; rintro _ w9 ⟨rfl, E15⟩; have hs7 := E15.size
      refine Wo rfl (opv_move (v := .bool _) rfl) ?_; refine Wo rfl (opv_fieldAddr Tryz.underlying28 rfl rfl Tryz.sizeOf22 rfl) ?_; refine Wo (v := u2) rfl (opv_load Tryz.isAgg22 rfl ((hB1.ext (E14.trans E15)).cell rfl)) ?_
      refine Wo rfl (opv_move (v := u1) rfl) ?_; refine Wo rfl (opv_move (v := .int _ _) rfl) ?_
      refine Wo_call rfl (opc4 (a := u2) (b := .int _ _) (c := u1) (d := .int _ _) Tryz.call17 rfl rfl rfl rfl) (k5 _ _ _ ((Mono.mono (E14.trans E15) (OwnedB.read hO2))) ((Mono.mono (E14.trans E15) (OwnedB.read hO1)))) ?_
      rintro _ w10 ⟨rfl, E16⟩; have hs8 := E16.size; refine Wo rfl (opv_pick_t (v := .bool _) rfl rfl) ?_; refine Wo rfl (opv_move (v := .bool _) rfl) ?_; refine Wo rfl (opv_fieldAddr Tryz.underlying28 rfl rfl Tryz.sizeOf23 rfl) ?_
      refine Wo (v := q1) rfl (opv_load Tryz.isAgg23 rfl ((hB1.ext ((E14.trans E15).trans E16)).cell rfl)) ?_; refine Wo rfl (opv_len Tryz.underlying23 rfl (OwnedB.read hQ1)) ?_; refine Wo rfl (opv_eql rfl rfl) ?_
      refine Wo rfl (opv_pick_t (v := .bool _) rfl rfl) ?_; refine Wo rfl (opv_assign (v := .bool _) rfl) ?_; refine Wo_nil ?_; refine W_ret ?_; exact ⟨rfl, (((E9.trans E14).trans E15).trans E16)⟩
  · have k1 : ∀ (w : World) (v : Value), ESl Ints w v x1 → Does Tryz.prog 13 [v, .int .i64 z1] w (RetDkB w 22 58 3 [] [] false) := fun w v h => by
      have := spec_DeskNew_ok w v x1 h z1; rwa [if_neg hz, decide_eq_false hz] at this
    have k2 : ∀ (w : World) (v : Value), ESl Ints w v x1 → Does Tryz.prog 12 [v, .int .i64 z1] w (RetDkB w 22 58 3 [] [] false) := fun w v h => by
      have := impl_DeskNew_ok w v x1 h z1; rwa [if_neg hz, decide_eq_false hz] at this
    have k3 : ∀ (w : World) (v1 v2 t1 t2 : Value), ESl Ints w v1 [] → ESl (ESl Ints) w v2 [] → ESl Ints w t1 [] → ESl (ESl Ints) w t2 [] → Does Tryz.prog 14 [.agg #[v1, v2], .agg #[t1, t2]] w (Ret w (.bool true)) := fun w v1 v2 t1 t2 h1 h2 h3 h4 => by
      have := sameDesk_ok w v1 v2 t1 t2 [] [] [] [] h1 h2 h3 h4
      rwa [decide_eq_true ⟨rfl, rfl⟩] at this
    have k4 : ∀ (w : World) (v1 v2 : Value), ESl Ints w v1 [] → ESl (ESl Ints) w v2 [] → Does Tryz.prog 15 [.agg #[v1, v2]] w (Ret w (.bool true)) := fun w v1 v2 h1 h2 => by
      have := noDesk_ok w v1 v2 [] [] h1 h2
      rwa [decide_eq_true ⟨rfl, rfl⟩] at this
    focus
      have szE1 := E1.size; refine W_region rfl ?_; refine Wo rfl (opv_move (v := u1) rfl) ?_; refine Wo rfl (opv_move (v := .int _ _) rfl) ?_
      refine Wo_call rfl (opc2 (a := u1) (b := .int _ _) Tryz.call12 rfl rfl) (k2 _ _ ((Owned.read hO1))) ?_; rintro _ w2 ⟨u2, q1, m1, rfl, E2, hO2, hQ1, hm1, hn1⟩; have icu2 := OwnedB.isC hO2; have cpu2 := OwnedB.capOk hO2
      have icq1 := OwnedB.isC (Owned.toB hQ1); have cpq1 := OwnedB.capOk (Owned.toB hQ1); have hs2 := E2.size; refine Wo rfl (opv_move (v := .tuple _) rfl) ?_; refine Wo rfl (opv_extract (v := .agg _) rfl rfl) ?_
      refine Wo rfl (opv_extract (v := .bool _) rfl rfl) ?_; refine Wo_alloc2 rfl flat28 ?_; rintro b1 w3 hb1 E3 hB1; have hlb1 := hB1.lt; have hs3 := E3.size
      refine Wo_st2 rfl Tryz.sizeOf28 rfl rfl (by first | rfl | assumption) (by first | rfl | assumption) hB1 (by omega) ((E1.trans E2).trans E3) ?_; rintro w4 E4 hB1 K1 hz1
      have E5 := (E2.trans E3).wroteAt ((E1.trans E2).trans E3) E4 K1 hz1 (by omega); have szE5 := E5.size; have E6 := E3.wroteAt ((E1.trans E2).trans E3) E4 K1 hz1 (by omega); have szE6 := E6.size
      have hO1 := (hO1.toB.ext (E2.trans E3)).wrote K1 (by omega); have hO2 := (hO2.ext E3).wrote K1 (by omega); have hQ1 := (hQ1.toB.ext E3).wrote K1 (by omega); refine Wo rfl (opv_assign (v := .bool _) rfl) ?_; refine Wo_nil ?_
      refine W_seq ?_; refine W_region rfl ?_; refine Wo rfl (opv_move (v := u1) rfl) ?_; refine Wo rfl (opv_move (v := .int _ _) rfl) ?_
      refine Wo_call rfl (opc2 (a := u1) (b := .int _ _) Tryz.call13 rfl rfl) (k1 _ _ ((OwnedB.read hO1))) ?_; rintro _ w5 ⟨u3, q2, m2, rfl, E7, hO3, hQ2, hm2, hn2⟩; have icu3 := OwnedB.isC hO3; have cpu3 := OwnedB.capOk hO3
      have icq2 := OwnedB.isC (Owned.toB hQ2); have cpq2 := OwnedB.capOk (Owned.toB hQ2); have hs4 := E7.size; refine Wo rfl (opv_move (v := .tuple _) rfl) ?_; refine Wo rfl (opv_extract (v := .agg _) rfl rfl) ?_
      refine Wo rfl (opv_extract (v := .bool _) rfl rfl) ?_; refine Wo_alloc2 rfl flat28 ?_; rintro b2 w6 hb2 E8 hB2; have hlb2 := hB2.lt; have hs5 := E8.size
      refine Wo_st2 rfl Tryz.sizeOf28 rfl rfl (by first | rfl | assumption) (by first | rfl | assumption) hB2 (by omega) ((E4.trans E7).trans E8) ?_; rintro w7 E9 hB2 K2 hz2
      have E10 := ((E5.trans E7).trans E8).wroteAt ((E4.trans E7).trans E8) E9 K2 hz2 (by omega); have szE10 := E10.size; have E11 := ((E6.trans E7).trans E8).wroteAt ((E4.trans E7).trans E8) E9 K2 hz2 (by omega); have szE11 := E11.size
      have E12 := (E7.trans E8).wroteAt ((E4.trans E7).trans E8) E9 K2 hz2 (by omega); have szE12 := E12.size; have E13 := E8.wroteAt ((E4.trans E7).trans E8) E9 K2 hz2 (by omega); have szE13 := E13.size
      have hB1 := (hB1.ext (E7.trans E8)).of_heap (K2 _ (by omega)); have hO1 := (hO1.ext (E7.trans E8)).wrote K2 (by omega); have hO2 := (hO2.ext (E7.trans E8)).wrote K2 (by omega); have hQ1 := (hQ1.ext (E7.trans E8)).wrote K2 (by omega)
      have hO3 := (hO3.ext E8).wrote K2 (by omega); have hQ2 := (hQ2.toB.ext E8).wrote K2 (by omega); refine Wo rfl (opv_assign (v := .bool _) rfl) ?_; refine Wo_nil ?_; refine W_seq ?_; refine W_seq ?_; refine W_region rfl ?_
      refine Wo (v := .agg _) rfl (opv_load2 Tryz.isAgg28 Tryz.sizeOf28 rfl hB1) ?_; refine Wo (v := .agg _) rfl (opv_load2 Tryz.isAgg28 Tryz.sizeOf28 rfl hB2) ?_
      refine Wo_call rfl (opc2 (a := .agg _) (b := .agg _) Tryz.call14 rfl rfl) (k3 _ _ _ _ _ ((OwnedB.read hO2)) ((OwnedB.read hQ1)) ((OwnedB.read hO3)) ((OwnedB.read hQ2))) ?_; rintro _ w8 ⟨rfl, E14⟩; have hs6 := E14.size
      refine Wo rfl (opv_not rfl) ?_; refine Wo_split rfl (opv_move (v := .bool _) rfl) (fun h2 => ?_) (fun h2 => ?_); contradiction; refine Wo rfl (opv_move (v := .bool _) rfl) ?_; refine Wo rfl (opv_move (v := .bool _) rfl) ?_
      refine Wo rfl (opv_neq_bool Tryz.underlying4 rfl rfl) ?_; refine Wo rfl (opv_pick_f (v := .bool _) rfl rfl) ?_; refine Wo_nil ?_; refine W_cond_ndec rfl (fun h3 => ?_) (fun h3 => ?_); contradiction; refine W_skip ?_; refine W_seq ?_
      refine W_seq ?_; refine W_region rfl ?_; refine Wo rfl (opv_move (v := .bool _) rfl) ?_; refine Wo rfl (opv_not rfl) ?_; refine Wo_nil ?_; refine W_cond rfl (fun h4 => ?_) (fun h4 => ?_); refine W_seq ?_; refine W_region rfl ?_
      refine Wo (v := .agg _) rfl (opv_load2 Tryz.isAgg28 Tryz.sizeOf28 rfl (hB1.ext E14)) ?_; refine Wo_call rfl (opc1 (a := .agg _) Tryz.call15 rfl) (k4 _ _ _ ((Mono.mono E14 (OwnedB.read hO2))) ((Mono.mono E14 (OwnedB.read hQ1)))) ?_
      rintro _ w9 ⟨rfl, E15⟩; have hs7 := E15.size; refine Wo rfl (opv_move (v := .bool _) rfl) ?_; refine Wo_call rfl (opc0 Tryz.call16) (alive_ok _) ?_; rintro _ w10 ⟨rfl, E16⟩; have hs8 := E16.size
      refine Wo rfl (opv_pick_t (v := .bool _) rfl rfl) ?_; refine Wo rfl (opv_assign (v := .bool _) rfl) ?_; refine Wo_nil ?_; refine W_ret ?_; exact ⟨rfl, (((E9.trans E14).trans E15).trans E16)⟩; contradiction

end Go.Proofs.YtgphoihilheoeaaGreatDoor
