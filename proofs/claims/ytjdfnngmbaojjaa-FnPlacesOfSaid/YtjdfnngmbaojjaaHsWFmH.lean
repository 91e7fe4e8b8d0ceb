/- Walks: where formulas hold. -/
import Derived.Test.YtjdfnngmbaojjaaHsWFmL2
import Derived.Test.YtjdfnngmbaojjaaHsWFun
import Derived.Test.YtjdfnngmbaojjaaHsFmP
namespace Go.Proofs.Ytjdfnngmbaojjaa
open Go.Hs
set_option maxRecDepth 10000
set_option maxHeartbeats 4000000
set_option linter.unusedVariables false
set_option linter.unusedSimpArgs false


theorem holds_ok (p : List (List Int)) (hp : Pic p) : ∀ (f : Fm) (w : World) (v pv : Value) (z : Int), EFm w v f → ESl Ints w pv p → 0 ≤ z ∧ z < p.length → f.enc.length ≤ 1000 →
    Does Try.prog 60 [v, pv, .int .i64 z] w (Ret w (.bool (f.holds p z.toNat))) := by
  have hp5 := hp.2.1
  have harr : ∀ (w : World) (pv : Value) (z : Int), ESl Ints w pv p → 0 ≤ z ∧ z < p.length → Does Try.prog 79 [pv, .int .i64 z] w (RetO w XI (ints (arr p z.toNat))) := fun w pv z h hz =>
    arrowsOf_ok w pv p h z hz (by rw [getD_lt (by omega), hp.row (by omega)]; omega)
  have hmem : ∀ (z x : Int), 0 ≤ z ∧ z < p.length → x ∈ ints (arr p z.toNat) → 0 ≤ x ∧ x < p.length := by
    intro z x hz hx
    simp only [ints, List.mem_map] at hx
    obtain ⟨j, hj, rfl⟩ := hx
    have := ((mem_arr hp (show z.toNat < p.length by omega)).1 hj).1
    omega
  intro f
  induction f with
  | t =>
    intro w v pv z hf hpv hz hl
    obtain ⟨pa, pc, rfl, _⟩ := id hpv
    obtain ⟨b, rfl, hB⟩ := hf
    refine fn_of_W1 Try.func60 rfl Try.results60 Try.ntmps60 rfl ?_
    focus
      refine W_seq ?_; refine W_region rfl ?_; refine Wo_box rfl rfl rfl ?_; rintro b1 w1 hb1 E1 hB1; have hlb1 := hB1.lt; have hs1 := E1.size; refine Wo_box rfl rfl rfl ?_; rintro b2 w2 hb2 E2 hB2; have hlb2 := hB2.lt
      have hs2 := E2.size; refine Wo rfl (opv_assign (v := .bool _) rfl) ?_; refine Wo_nil ?_; refine W_seq ?_; refine W_seq ?_; refine W_region rfl ?_; refine Wo (v := .pointer _) rfl (opv_load Try.isAgg57 rfl ((hB1.ext E2).cell rfl)) ?_
      refine Wo rfl (opv_nilCheck rfl) ?_; refine Wo rfl (opv_fieldAddr Try.underlying78 rfl rfl (by first | exact Try.sizeOf3 | exact Try.sizeOf9) rfl) ?_
      refine Wo (v := .int _ _) rfl (opv_load Try.isAgg5 rfl ((hB.ext (E1.trans E2)).cell rfl)) ?_; refine Wo_nil ?_; refine W_block ?_; refine W_seq ?_; refine W_region rfl ?_; refine Wo rfl (opv_eql rfl rfl) ?_
      refine Wo rfl (opv_assign (v := .bool _) rfl) ?_; refine Wo_nil ?_; refine W_cond_dec rfl (fun h1 => ?_) (fun h1 => ?_); contradiction; refine W_seq ?_; refine W_region rfl ?_; refine Wo rfl (opv_eql rfl rfl) ?_
      refine Wo rfl (opv_assign (v := .bool _) rfl) ?_; refine Wo_nil ?_; refine W_cond_dec rfl (fun h2 => ?_) (fun h2 => ?_); contradiction; refine W_seq ?_; refine W_region rfl ?_; refine Wo rfl (opv_eql rfl rfl) ?_
      refine Wo rfl (opv_assign (v := .bool _) rfl) ?_; refine Wo_nil ?_; refine W_cond_dec rfl (fun h3 => ?_) (fun h3 => ?_); contradiction; refine W_seq ?_; refine W_region rfl ?_; refine Wo rfl (opv_eql rfl rfl) ?_
      refine Wo rfl (opv_assign (v := .bool _) rfl) ?_; refine Wo_nil ?_; refine W_cond_dec rfl (fun h4 => ?_) (fun h4 => ?_); contradiction; refine W_seq ?_; refine W_region rfl ?_; refine Wo rfl (opv_eql rfl rfl) ?_
      refine Wo rfl (opv_assign (v := .bool _) rfl) ?_; refine Wo_nil ?_; refine W_cond_dec rfl (fun h5 => ?_) (fun h5 => ?_); contradiction; refine W_skip ?_; refine W_seq ?_; refine W_region rfl ?_
      refine Wo rfl (opv_assign (v := .bool _) rfl) ?_; refine Wo_nil ?_; refine W_ret ?_; exact ⟨rfl, (E1.trans E2)⟩
  | neg f ih =>
    intro w v pv z hf hpv hz hl
    have hl' : f.enc.length ≤ 1000 := by simp only [Fm.enc, List.length_cons] at hl; omega
    obtain ⟨pa, pc, rfl, _⟩ := id hpv
    obtain ⟨b, bp, u, rfl, hB, hBp, hu⟩ := hf
    have hP := hBp.vals (c := 1) (by simp)
    refine fn_of_W1 Try.func60 rfl Try.results60 Try.ntmps60 rfl ?_
    focus
      refine W_seq ?_; refine W_region rfl ?_; refine Wo_box rfl rfl rfl ?_; rintro b1 w1 hb1 E1 hB1; have hlb1 := hB1.lt; have hs1 := E1.size; refine Wo_box rfl rfl rfl ?_; rintro b2 w2 hb2 E2 hB2; have hlb2 := hB2.lt
      have hs2 := E2.size; refine Wo rfl (opv_assign (v := .bool _) rfl) ?_; refine Wo_nil ?_; refine W_seq ?_; refine W_seq ?_; refine W_region rfl ?_; refine Wo (v := .pointer _) rfl (opv_load Try.isAgg57 rfl ((hB1.ext E2).cell rfl)) ?_
      refine Wo rfl (opv_nilCheck rfl) ?_; refine Wo rfl (opv_fieldAddr Try.underlying78 rfl rfl (by first | exact Try.sizeOf3 | exact Try.sizeOf9) rfl) ?_
      refine Wo (v := .int _ _) rfl (opv_load Try.isAgg5 rfl ((hB.ext (E1.trans E2)).cell rfl)) ?_; refine Wo_nil ?_; refine W_block ?_; refine W_seq ?_; refine W_region rfl ?_; refine Wo rfl (opv_eql rfl rfl) ?_
      refine Wo rfl (opv_assign (v := .bool _) rfl) ?_; refine Wo_nil ?_; refine W_cond_dec rfl (fun h1 => ?_) (fun h1 => ?_); refine W_seq ?_; refine W_draw mixed (by kernel_rfl) rfl ?_
      refine Wq_o (v := .pointer _) rfl (fun w' hw' => opv_load Try.isAgg57 rfl (((hB1.ext E2).ext hw').cell rfl)) ?_; refine Wq_o rfl (fun _ _ => opv_nilCheck rfl) ?_
      refine Wq_o rfl (fun _ _ => opv_fieldAddr Try.underlying78 rfl rfl (by first | exact Try.sizeOf3 | exact Try.sizeOf9) rfl) ?_
      refine Wq_o (v := .slice _ _ _) rfl (fun w' hw' => opv_load Try.isAgg76 rfl (((hB.ext (E1.trans E2)).ext hw').cell rfl)) ?_
      refine Wq_get (k := 0) Try.underlying76 Try.sizeOf57 Try.isAgg57 rfl (fun _ => rfl) rfl hP (E1.trans E2) rfl (by first | omega | (simp <;> omega)) ?_; rintro _ _ rfl
      refine Wq_o (v := .slice _ _ _) rfl (fun w' hw' => opv_load Try.isAgg30 rfl ((hB2.ext hw').cell rfl)) ?_; refine Wq_o rfl (fun _ _ => opv_move (v := .int _ _) rfl) ?_
      refine Wq_call rfl (fun _ _ => opc3 (b := .slice _ _ _) (c := .int _ _) Try.call60 rfl rfl rfl) (fun w' hw' => (ih _ _ _ _ ((Mono.mono ((E1.trans E2).trans hw') hu)) ((Mono.mono ((E1.trans E2).trans hw') hpv)) (by assumption) (by assumption))) ?_
      refine Wq_o rfl (fun _ _ => opv_not rfl) ?_; refine Wq_o rfl (fun _ _ => opv_assign (v := .bool _) rfl) ?_; refine Wq_nil (fun w3 E3 => ?_); have hs3 := E3.size; refine W_ret ?_; exact ⟨rfl, ((E1.trans E2).trans E3)⟩; contradiction
  | S f ih =>
    intro w v pv z hf hpv hz hl
    have hl' : f.enc.length ≤ 1000 := by simp only [Fm.enc, List.length_cons] at hl; omega
    obtain ⟨pa, pc, rfl, _⟩ := id hpv
    obtain ⟨b, bp, u, rfl, hB, hBp, hu⟩ := hf
    have hP := hBp.vals (c := 1) (by simp)
    have hcl : ∀ (w1 : World) (b3 b4 : Nat) (x : Int), Ext w w1 → Blk w1 b3 [.pointer (some ⟨b, 0, none⟩)] → Blk w1 b4 [.slice pa p.length pc] → 0 ≤ x ∧ x < p.length → Does Try.prog 80 [.int .i64 x, .pointer (some ⟨b3, 0, none⟩), .pointer (some ⟨b4, 0, none⟩)] w1 (Ret w1 (.bool (f.holds p x.toNat))) := by
      intro w1 b3 b4 x E0 hB3 hB4 hx
      refine fn_of_W1 Try.func80 rfl Try.results80 Try.ntmps80 rfl ?_
      focus
        have szE0 := E0.size; refine W_seq ?_; refine W_region rfl ?_; refine Wo rfl (opv_assign (v := .bool _) rfl) ?_; refine Wo_nil ?_; refine W_seq ?_; refine W_draw mixed (by kernel_rfl) rfl ?_
        refine Wq_o (v := .pointer _) rfl (fun w' hw' => opv_load Try.isAgg57 rfl ((hB3.ext hw').cell rfl)) ?_; refine Wq_o rfl (fun _ _ => opv_nilCheck rfl) ?_
        refine Wq_o rfl (fun _ _ => opv_fieldAddr Try.underlying78 rfl rfl (by first | exact Try.sizeOf3 | exact Try.sizeOf9) rfl) ?_
        refine Wq_o (v := .slice _ _ _) rfl (fun w' hw' => opv_load Try.isAgg76 rfl (((hB.ext E0).ext hw').cell rfl)) ?_
        refine Wq_get (k := 0) Try.underlying76 Try.sizeOf57 Try.isAgg57 rfl (fun _ => rfl) rfl hP E0 rfl (by first | omega | (simp <;> omega)) ?_; rintro _ _ rfl
        refine Wq_o (v := .slice _ _ _) rfl (fun w' hw' => opv_load Try.isAgg30 rfl ((hB4.ext hw').cell rfl)) ?_; refine Wq_o rfl (fun _ _ => opv_move (v := .int _ _) rfl) ?_
        refine Wq_call rfl (fun _ _ => opc3 (b := .slice _ _ _) (c := .int _ _) Try.call60 rfl rfl rfl) (fun w' hw' => (ih _ _ _ _ ((Mono.mono (E0.trans hw') hu)) ((Mono.mono (E0.trans hw') hpv)) (by assumption) (by assumption))) ?_
        refine Wq_o rfl (fun _ _ => opv_assign (v := .bool _) rfl) ?_; refine Wq_nil (fun w2 E1 => ?_); have hs1 := E1.size; refine W_ret ?_; exact ⟨rfl, E1⟩
    have hcon : ∀ (w1 : World) (u : Value) (b3 b4 : Nat), Ext w w1 → Blk w1 b3 [.pointer (some ⟨b, 0, none⟩)] → Blk w1 b4 [.slice pa p.length pc] → Ints w1 u (ints (arr p z.toNat)) → Does Try.prog 78 [u, .func (.func 80) [].toArray [.pointer (some ⟨b3, 0, none⟩), .pointer (some ⟨b4, 0, none⟩)].toArray] w1 (Ret w1 (.bool ((Fm.S f).holds p z.toNat))) := by
      intro w1 u b3 b4 E0 hB3 hB4 hu
      have := ContainsFunc_ok w1 u _ hu 80 [.pointer (some ⟨b3, 0, none⟩), .pointer (some ⟨b4, 0, none⟩)] (fun x => f.holds p x.toNat) Try.call80 (fun x w' hx e => hcl w' b3 b4 x (E0.trans e) (hB3.ext e) (hB4.ext e) (hmem z x hz hx))
      rw [any_ints] at this
      exact this
    refine fn_of_W1 Try.func60 rfl Try.results60 Try.ntmps60 rfl ?_
    focus
      refine W_seq ?_; refine W_region rfl ?_; refine Wo_box rfl rfl rfl ?_; rintro b1 w1 hb1 E1 hB1; have hlb1 := hB1.lt; have hs1 := E1.size; refine Wo_box rfl rfl rfl ?_; rintro b2 w2 hb2 E2 hB2; have hlb2 := hB2.lt
      have hs2 := E2.size; refine Wo rfl (opv_assign (v := .bool _) rfl) ?_; refine Wo_nil ?_; refine W_seq ?_; refine W_seq ?_; refine W_region rfl ?_; refine Wo (v := .pointer _) rfl (opv_load Try.isAgg57 rfl ((hB1.ext E2).cell rfl)) ?_
      refine Wo rfl (opv_nilCheck rfl) ?_; refine Wo rfl (opv_fieldAddr Try.underlying78 rfl rfl (by first | exact Try.sizeOf3 | exact Try.sizeOf9) rfl) ?_
      refine Wo (v := .int _ _) rfl (opv_load Try.isAgg5 rfl ((hB.ext (E1.trans E2)).cell rfl)) ?_; refine Wo_nil ?_; refine W_block ?_; refine W_seq ?_; refine W_region rfl ?_; refine Wo rfl (opv_eql rfl rfl) ?_
      refine Wo rfl (opv_assign (v := .bool _) rfl) ?_; refine Wo_nil ?_; refine W_cond_dec rfl (fun h1 => ?_) (fun h1 => ?_); contradiction; refine W_seq ?_; refine W_region rfl ?_; refine Wo rfl (opv_eql rfl rfl) ?_
      refine Wo rfl (opv_assign (v := .bool _) rfl) ?_; refine Wo_nil ?_; refine W_cond_dec rfl (fun h2 => ?_) (fun h2 => ?_); refine W_seq ?_; refine W_region rfl ?_
      refine Wo (v := .slice _ _ _) rfl (opv_load Try.isAgg30 rfl (hB2.cell rfl)) ?_; refine Wo rfl (opv_move (v := .int _ _) rfl) ?_
      refine Wo_call rfl (opc2 (a := .slice _ _ _) (b := .int _ _) Try.call79 rfl rfl) (harr _ _ _ ((Mono.mono (E1.trans E2) hpv)) (by assumption)) ?_; rintro u1 w3 ⟨E3, hO1⟩; have hs3 := E3.size; refine Wo rfl (opv_makeFunc rfl rfl) ?_
      refine Wo_call rfl (opc2 (a := u1) (b := .func _ _ _) Try.call78 rfl rfl) (hcon _ _ _ _ (((E1.trans E2).trans E3)) ((hB1.ext (E2.trans E3))) ((hB2.ext E3)) ((Owned.read hO1))) ?_; rintro _ w4 ⟨rfl, E4⟩; have hs4 := E4.size
      refine Wo rfl (opv_assign (v := .bool _) rfl) ?_; refine Wo_nil ?_; refine W_ret ?_; exact ⟨rfl, (((E1.trans E2).trans E3).trans E4)⟩; contradiction
  | A f ih =>
    intro w v pv z hf hpv hz hl
    have hl' : f.enc.length ≤ 1000 := by simp only [Fm.enc, List.length_cons] at hl; omega
    obtain ⟨pa, pc, rfl, _⟩ := id hpv
    obtain ⟨b, bp, u, rfl, hB, hBp, hu⟩ := hf
    have hP := hBp.vals (c := 1) (by simp)
    have hcl : ∀ (w1 : World) (b3 b4 : Nat) (x : Int), Ext w w1 → Blk w1 b3 [.pointer (some ⟨b, 0, none⟩)] → Blk w1 b4 [.slice pa p.length pc] → 0 ≤ x ∧ x < p.length → Does Try.prog 81 [.int .i64 x, .pointer (some ⟨b3, 0, none⟩), .pointer (some ⟨b4, 0, none⟩)] w1 (Ret w1 (.bool (!(f.holds p x.toNat)))) := by
      intro w1 b3 b4 x E0 hB3 hB4 hx
      refine fn_of_W1 Try.func81 rfl Try.results81 Try.ntmps81 rfl ?_
      focus
        have szE0 := E0.size; refine W_seq ?_; refine W_region rfl ?_; refine Wo rfl (opv_assign (v := .bool _) rfl) ?_; refine Wo_nil ?_; refine W_seq ?_; refine W_draw mixed (by kernel_rfl) rfl ?_
        refine Wq_o (v := .pointer _) rfl (fun w' hw' => opv_load Try.isAgg57 rfl ((hB3.ext hw').cell rfl)) ?_; refine Wq_o rfl (fun _ _ => opv_nilCheck rfl) ?_
        refine Wq_o rfl (fun _ _ => opv_fieldAddr Try.underlying78 rfl rfl (by first | exact Try.sizeOf3 | exact Try.sizeOf9) rfl) ?_
        refine Wq_o (v := .slice _ _ _) rfl (fun w' hw' => opv_load Try.isAgg76 rfl (((hB.ext E0).ext hw').cell rfl)) ?_
        refine Wq_get (k := 0) Try.underlying76 Try.sizeOf57 Try.isAgg57 rfl (fun _ => rfl) rfl hP E0 rfl (by first | omega | (simp <;> omega)) ?_; rintro _ _ rfl
        refine Wq_o (v := .slice _ _ _) rfl (fun w' hw' => opv_load Try.isAgg30 rfl ((hB4.ext hw').cell rfl)) ?_; refine Wq_o rfl (fun _ _ => opv_move (v := .int _ _) rfl) ?_
        refine Wq_call rfl (fun _ _ => opc3 (b := .slice _ _ _) (c := .int _ _) Try.call60 rfl rfl rfl) (fun w' hw' => (ih _ _ _ _ ((Mono.mono (E0.trans hw') hu)) ((Mono.mono (E0.trans hw') hpv)) (by assumption) (by assumption))) ?_
        refine Wq_o rfl (fun _ _ => opv_not rfl) ?_; refine Wq_o rfl (fun _ _ => opv_assign (v := .bool _) rfl) ?_; refine Wq_nil (fun w2 E1 => ?_); have hs1 := E1.size; refine W_ret ?_; exact ⟨rfl, E1⟩
    have hcon : ∀ (w1 : World) (u : Value) (b3 b4 : Nat), Ext w w1 → Blk w1 b3 [.pointer (some ⟨b, 0, none⟩)] → Blk w1 b4 [.slice pa p.length pc] → Ints w1 u (ints (arr p z.toNat)) → Does Try.prog 78 [u, .func (.func 81) [].toArray [.pointer (some ⟨b3, 0, none⟩), .pointer (some ⟨b4, 0, none⟩)].toArray] w1 (Ret w1 (.bool ((arr p z.toNat).any fun j => !(f.holds p j)))) := by
      intro w1 u b3 b4 E0 hB3 hB4 hu
      have := ContainsFunc_ok w1 u _ hu 81 [.pointer (some ⟨b3, 0, none⟩), .pointer (some ⟨b4, 0, none⟩)] (fun x => !(f.holds p x.toNat)) Try.call81 (fun x w' hx e => hcl w' b3 b4 x (E0.trans e) (hB3.ext e) (hB4.ext e) (hmem z x hz hx))
      rw [any_ints _ (fun j => !(f.holds p j))] at this
      exact this
    refine fn_of_W1 Try.func60 rfl Try.results60 Try.ntmps60 rfl ?_
    focus
      refine W_seq ?_; refine W_region rfl ?_; refine Wo_box rfl rfl rfl ?_; rintro b1 w1 hb1 E1 hB1; have hlb1 := hB1.lt; have hs1 := E1.size; refine Wo_box rfl rfl rfl ?_; rintro b2 w2 hb2 E2 hB2; have hlb2 := hB2.lt
      have hs2 := E2.size; refine Wo rfl (opv_assign (v := .bool _) rfl) ?_; refine Wo_nil ?_; refine W_seq ?_; refine W_seq ?_; refine W_region rfl ?_; refine Wo (v := .pointer _) rfl (opv_load Try.isAgg57 rfl ((hB1.ext E2).cell rfl)) ?_
      refine Wo rfl (opv_nilCheck rfl) ?_; refine Wo rfl (opv_fieldAddr Try.underlying78 rfl rfl (by first | exact Try.sizeOf3 | exact Try.sizeOf9) rfl) ?_
      refine Wo (v := .int _ _) rfl (opv_load Try.isAgg5 rfl ((hB.ext (E1.trans E2)).cell rfl)) ?_; refine Wo_nil ?_; refine W_block ?_; refine W_seq ?_; refine W_region rfl ?_; refine Wo rfl (opv_eql rfl rfl) ?_
      refine Wo rfl (opv_assign (v := .bool _) rfl) ?_; refine Wo_nil ?_; refine W_cond_dec rfl (fun h1 => ?_) (fun h1 => ?_); contradiction; refine W_seq ?_; refine W_region rfl ?_; refine Wo rfl (opv_eql rfl rfl) ?_
      refine Wo rfl (opv_assign (v := .bool _) rfl) ?_; refine Wo_nil ?_; refine W_cond_dec rfl (fun h2 => ?_) (fun h2 => ?_); contradiction; refine W_seq ?_; refine W_region rfl ?_; refine Wo rfl (opv_eql rfl rfl) ?_
      refine Wo rfl (opv_assign (v := .bool _) rfl) ?_; refine Wo_nil ?_; refine W_cond_dec rfl (fun h3 => ?_) (fun h3 => ?_); refine W_seq ?_; refine W_region rfl ?_
      refine Wo (v := .slice _ _ _) rfl (opv_load Try.isAgg30 rfl (hB2.cell rfl)) ?_; refine Wo rfl (opv_move (v := .int _ _) rfl) ?_
      refine Wo_call rfl (opc2 (a := .slice _ _ _) (b := .int _ _) Try.call79 rfl rfl) (harr _ _ _ ((Mono.mono (E1.trans E2) hpv)) (by assumption)) ?_; rintro u1 w3 ⟨E3, hO1⟩; have hs3 := E3.size; refine Wo rfl (opv_makeFunc rfl rfl) ?_
      refine Wo_call rfl (opc2 (a := u1) (b := .func _ _ _) Try.call78 rfl rfl) (hcon _ _ _ _ (((E1.trans E2).trans E3)) ((hB1.ext (E2.trans E3))) ((hB2.ext E3)) ((Owned.read hO1))) ?_; rintro _ w4 ⟨rfl, E4⟩; have hs4 := E4.size
      refine Wo rfl (opv_not rfl) ?_; refine Wo rfl (opv_assign (v := .bool _) rfl) ?_; refine Wo_nil ?_; refine W_ret ?_; exact ⟨rfl, (((E1.trans E2).trans E3).trans E4)⟩; contradiction
  | and f g ih1 ih2 =>
    intro w v pv z hf hpv hz hl
    have hl' : f.enc.length ≤ 1000 ∧ g.enc.length ≤ 1000 := by simp [Fm.enc] at hl; omega
    have hl1 := hl'.1
    have hl2 := hl'.2
    obtain ⟨pa, pc, rfl, _⟩ := id hpv
    obtain ⟨b, bp, u, u', rfl, hB, hBp, hu, hu'⟩ := hf
    have hP := hBp.vals (c := 2) (by simp)
    have h1 : ∀ w' (q : Value) (zz : Int), EFm w' u f → ESl Ints w' q p → 0 ≤ zz ∧ zz < p.length → Does Try.prog 60 [u, q, .int .i64 zz] w' (Ret w' (.bool (f.holds p zz.toNat))) := fun w' q zz e1 e2 e3 => ih1 w' u q zz e1 e2 e3 hl1
    have h2 : ∀ w' (q : Value) (zz : Int), EFm w' u' g → ESl Ints w' q p → 0 ≤ zz ∧ zz < p.length → Does Try.prog 60 [u', q, .int .i64 zz] w' (Ret w' (.bool (g.holds p zz.toNat))) := fun w' q zz e1 e2 e3 => ih2 w' u' q zz e1 e2 e3 hl2
    refine fn_of_W1 Try.func60 rfl Try.results60 Try.ntmps60 rfl ?_
    focus
      refine W_seq ?_; refine W_region rfl ?_; refine Wo_box rfl rfl rfl ?_; rintro b1 w1 hb1 E1 hB1; have hlb1 := hB1.lt; have hs1 := E1.size; refine Wo_box rfl rfl rfl ?_; rintro b2 w2 hb2 E2 hB2; have hlb2 := hB2.lt
      have hs2 := E2.size; refine Wo rfl (opv_assign (v := .bool _) rfl) ?_; refine Wo_nil ?_; refine W_seq ?_; refine W_seq ?_; refine W_region rfl ?_; refine Wo (v := .pointer _) rfl (opv_load Try.isAgg57 rfl ((hB1.ext E2).cell rfl)) ?_
      refine Wo rfl (opv_nilCheck rfl) ?_; refine Wo rfl (opv_fieldAddr Try.underlying78 rfl rfl (by first | exact Try.sizeOf3 | exact Try.sizeOf9) rfl) ?_
      refine Wo (v := .int _ _) rfl (opv_load Try.isAgg5 rfl ((hB.ext (E1.trans E2)).cell rfl)) ?_; refine Wo_nil ?_; refine W_block ?_; refine W_seq ?_; refine W_region rfl ?_; refine Wo rfl (opv_eql rfl rfl) ?_
      refine Wo rfl (opv_assign (v := .bool _) rfl) ?_; refine Wo_nil ?_; refine W_cond_dec rfl (fun h3 => ?_) (fun h3 => ?_); contradiction; refine W_seq ?_; refine W_region rfl ?_; refine Wo rfl (opv_eql rfl rfl) ?_
      refine Wo rfl (opv_assign (v := .bool _) rfl) ?_; refine Wo_nil ?_; refine W_cond_dec rfl (fun h4 => ?_) (fun h4 => ?_); contradiction; refine W_seq ?_; refine W_region rfl ?_; refine Wo rfl (opv_eql rfl rfl) ?_
      refine Wo rfl (opv_assign (v := .bool _) rfl) ?_; refine Wo_nil ?_; refine W_cond_dec rfl (fun h5 => ?_) (fun h5 => ?_); contradiction; refine W_seq ?_; refine W_region rfl ?_; refine Wo rfl (opv_eql rfl rfl) ?_
      refine Wo rfl (opv_assign (v := .bool _) rfl) ?_; refine Wo_nil ?_; refine W_cond_dec rfl (fun h6 => ?_) (fun h6 => ?_); refine W_seq ?_; refine W_draw mixed (by kernel_rfl) rfl ?_
      refine Wq_o (v := .pointer _) rfl (fun w' hw' => opv_load Try.isAgg57 rfl (((hB1.ext E2).ext hw').cell rfl)) ?_; refine Wq_o rfl (fun _ _ => opv_nilCheck rfl) ?_
      refine Wq_o rfl (fun _ _ => opv_fieldAddr Try.underlying78 rfl rfl (by first | exact Try.sizeOf3 | exact Try.sizeOf9) rfl) ?_
      refine Wq_o (v := .slice _ _ _) rfl (fun w' hw' => opv_load Try.isAgg76 rfl (((hB.ext (E1.trans E2)).ext hw').cell rfl)) ?_
      refine Wq_get (k := 0) Try.underlying76 Try.sizeOf57 Try.isAgg57 rfl (fun _ => rfl) rfl hP (E1.trans E2) rfl (by first | omega | (simp <;> omega)) ?_; rintro _ _ rfl
      refine Wq_o (v := .slice _ _ _) rfl (fun w' hw' => opv_load Try.isAgg30 rfl ((hB2.ext hw').cell rfl)) ?_; refine Wq_o rfl (fun _ _ => opv_move (v := .int _ _) rfl) ?_
      refine Wq_call rfl (fun _ _ => opc3 (b := .slice _ _ _) (c := .int _ _) Try.call60 rfl rfl rfl) (fun w' hw' => (h1 _ _ _ ((Mono.mono ((E1.trans E2).trans hw') hu)) ((Mono.mono ((E1.trans E2).trans hw') hpv)) (by assumption))) ?_
      refine Wq_split rfl (fun _ _ => opv_move (v := .bool _) rfl) (fun h7 => ?_) (fun h7 => ?_); refine Wq_o (v := .pointer _) rfl (fun w' hw' => opv_load Try.isAgg57 rfl (((hB1.ext E2).ext hw').cell rfl)) ?_
      refine Wq_o rfl (fun _ _ => opv_nilCheck rfl) ?_; refine Wq_o rfl (fun _ _ => opv_fieldAddr Try.underlying78 rfl rfl (by first | exact Try.sizeOf3 | exact Try.sizeOf9) rfl) ?_
      refine Wq_o (v := .slice _ _ _) rfl (fun w' hw' => opv_load Try.isAgg76 rfl (((hB.ext (E1.trans E2)).ext hw').cell rfl)) ?_
      refine Wq_get (k := 1) Try.underlying76 Try.sizeOf57 Try.isAgg57 rfl (fun _ => rfl) rfl hP (E1.trans E2) rfl (by first | omega | (simp <;> omega)) ?_; rintro _ _ rfl
      refine Wq_o (v := .slice _ _ _) rfl (fun w' hw' => opv_load Try.isAgg30 rfl ((hB2.ext hw').cell rfl)) ?_; refine Wq_o rfl (fun _ _ => opv_move (v := .int _ _) rfl) ?_
      refine Wq_call rfl (fun _ _ => opc3 (b := .slice _ _ _) (c := .int _ _) Try.call60 rfl rfl rfl) (fun w' hw' => (h2 _ _ _ ((Mono.mono ((E1.trans E2).trans hw') hu')) ((Mono.mono ((E1.trans E2).trans hw') hpv)) (by assumption))) ?_
      refine Wq_o rfl (fun _ _ => opv_pick_t (v := .bool _) rfl rfl) ?_; refine Wq_o rfl (fun _ _ => opv_assign (v := .bool _) rfl) ?_; refine Wq_nil (fun w3 E3 => ?_); have hs3 := E3.size; refine W_ret ?_
      refine at_ret (v := .bool _) rfl ?_; refine ⟨congrArg Value.bool ?_, ((E1.trans E2).trans E3)⟩; rotate_left; refine Wq_skip rfl ?_; refine Wq_skip rfl ?_; refine Wq_skip rfl ?_; refine Wq_skip rfl ?_; refine Wq_skip rfl ?_
      refine Wq_skip rfl ?_; refine Wq_skip rfl ?_; refine Wq_skip rfl ?_; refine Wq_skip rfl ?_; refine Wq_o rfl (fun _ _ => opv_pick_f (v := .bool _) rfl rfl) ?_; refine Wq_o rfl (fun _ _ => opv_assign (v := .bool _) rfl) ?_
      refine Wq_nil (fun w3 E3 => ?_); have hs3 := E3.size; refine W_ret ?_; refine at_ret (v := .bool _) rfl ?_; refine ⟨congrArg Value.bool ?_, ((E1.trans E2).trans E3)⟩; rotate_left; contradiction
    all_goals
      have hc : Fm.holds p (f.and g) z.toNat = (f.holds p z.toNat && g.holds p z.toNat) := rfl
      rw [hc]
      first
        | (rw [show f.holds p z.toNat = true from by assumption]; rfl)
        | (rw [show f.holds p z.toNat = false from by assumption]; rfl)
  | or f g ih1 ih2 =>
    intro w v pv z hf hpv hz hl
    have hl' : f.enc.length ≤ 1000 ∧ g.enc.length ≤ 1000 := by simp [Fm.enc] at hl; omega
    have hl1 := hl'.1
    have hl2 := hl'.2
    obtain ⟨pa, pc, rfl, _⟩ := id hpv
    obtain ⟨b, bp, u, u', rfl, hB, hBp, hu, hu'⟩ := hf
    have hP := hBp.vals (c := 2) (by simp)
    have h1 : ∀ w' (q : Value) (zz : Int), EFm w' u f → ESl Ints w' q p → 0 ≤ zz ∧ zz < p.length → Does Try.prog 60 [u, q, .int .i64 zz] w' (Ret w' (.bool (f.holds p zz.toNat))) := fun w' q zz e1 e2 e3 => ih1 w' u q zz e1 e2 e3 hl1
    have h2 : ∀ w' (q : Value) (zz : Int), EFm w' u' g → ESl Ints w' q p → 0 ≤ zz ∧ zz < p.length → Does Try.prog 60 [u', q, .int .i64 zz] w' (Ret w' (.bool (g.holds p zz.toNat))) := fun w' q zz e1 e2 e3 => ih2 w' u' q zz e1 e2 e3 hl2
    refine fn_of_W1 Try.func60 rfl Try.results60 Try.ntmps60 rfl ?_
    focus
      refine W_seq ?_; refine W_region rfl ?_; refine Wo_box rfl rfl rfl ?_; rintro b1 w1 hb1 E1 hB1; have hlb1 := hB1.lt; have hs1 := E1.size; refine Wo_box rfl rfl rfl ?_; rintro b2 w2 hb2 E2 hB2; have hlb2 := hB2.lt
      have hs2 := E2.size; refine Wo rfl (opv_assign (v := .bool _) rfl) ?_; refine Wo_nil ?_; refine W_seq ?_; refine W_seq ?_; refine W_region rfl ?_; refine Wo (v := .pointer _) rfl (opv_load Try.isAgg57 rfl ((hB1.ext E2).cell rfl)) ?_
      refine Wo rfl (opv_nilCheck rfl) ?_; refine Wo rfl (opv_fieldAddr Try.underlying78 rfl rfl (by first | exact Try.sizeOf3 | exact Try.sizeOf9) rfl) ?_
      refine Wo (v := .int _ _) rfl (opv_load Try.isAgg5 rfl ((hB.ext (E1.trans E2)).cell rfl)) ?_; refine Wo_nil ?_; refine W_block ?_; refine W_seq ?_; refine W_region rfl ?_; refine Wo rfl (opv_eql rfl rfl) ?_
      refine Wo rfl (opv_assign (v := .bool _) rfl) ?_; refine Wo_nil ?_; refine W_cond_dec rfl (fun h3 => ?_) (fun h3 => ?_); contradiction; refine W_seq ?_; refine W_region rfl ?_; refine Wo rfl (opv_eql rfl rfl) ?_
      refine Wo rfl (opv_assign (v := .bool _) rfl) ?_; refine Wo_nil ?_; refine W_cond_dec rfl (fun h4 => ?_) (fun h4 => ?_); contradiction; refine W_seq ?_; refine W_region rfl ?_; refine Wo rfl (opv_eql rfl rfl) ?_
      refine Wo rfl (opv_assign (v := .bool _) rfl) ?_; refine Wo_nil ?_; refine W_cond_dec rfl (fun h5 => ?_) (fun h5 => ?_); contradiction; refine W_seq ?_; refine W_region rfl ?_; refine Wo rfl (opv_eql rfl rfl) ?_
      refine Wo rfl (opv_assign (v := .bool _) rfl) ?_; refine Wo_nil ?_; refine W_cond_dec rfl (fun h6 => ?_) (fun h6 => ?_); contradiction; refine W_seq ?_; refine W_region rfl ?_; refine Wo rfl (opv_eql rfl rfl) ?_
      refine Wo rfl (opv_assign (v := .bool _) rfl) ?_; refine Wo_nil ?_; refine W_cond_dec rfl (fun h7 => ?_) (fun h7 => ?_); refine W_seq ?_; refine W_draw mixed (by kernel_rfl) rfl ?_
      refine Wq_o (v := .pointer _) rfl (fun w' hw' => opv_load Try.isAgg57 rfl (((hB1.ext E2).ext hw').cell rfl)) ?_; refine Wq_o rfl (fun _ _ => opv_nilCheck rfl) ?_
      refine Wq_o rfl (fun _ _ => opv_fieldAddr Try.underlying78 rfl rfl (by first | exact Try.sizeOf3 | exact Try.sizeOf9) rfl) ?_
      refine Wq_o (v := .slice _ _ _) rfl (fun w' hw' => opv_load Try.isAgg76 rfl (((hB.ext (E1.trans E2)).ext hw').cell rfl)) ?_
      refine Wq_get (k := 0) Try.underlying76 Try.sizeOf57 Try.isAgg57 rfl (fun _ => rfl) rfl hP (E1.trans E2) rfl (by first | omega | (simp <;> omega)) ?_; rintro _ _ rfl
      refine Wq_o (v := .slice _ _ _) rfl (fun w' hw' => opv_load Try.isAgg30 rfl ((hB2.ext hw').cell rfl)) ?_; refine Wq_o rfl (fun _ _ => opv_move (v := .int _ _) rfl) ?_
      refine Wq_call rfl (fun _ _ => opc3 (b := .slice _ _ _) (c := .int _ _) Try.call60 rfl rfl rfl) (fun w' hw' => (h1 _ _ _ ((Mono.mono ((E1.trans E2).trans hw') hu)) ((Mono.mono ((E1.trans E2).trans hw') hpv)) (by assumption))) ?_
      refine Wq_split rfl (fun _ _ => opv_move (v := .bool _) rfl) (fun h8 => ?_) (fun h8 => ?_); refine Wq_skip rfl ?_; refine Wq_skip rfl ?_; refine Wq_skip rfl ?_; refine Wq_skip rfl ?_; refine Wq_skip rfl ?_; refine Wq_skip rfl ?_
      refine Wq_skip rfl ?_; refine Wq_skip rfl ?_; refine Wq_skip rfl ?_; refine Wq_o rfl (fun _ _ => opv_pick_t (v := .bool _) rfl rfl) ?_; refine Wq_o rfl (fun _ _ => opv_assign (v := .bool _) rfl) ?_; refine Wq_nil (fun w3 E3 => ?_)
      have hs3 := E3.size; refine W_ret ?_; refine at_ret (v := .bool _) rfl ?_; refine ⟨congrArg Value.bool ?_, ((E1.trans E2).trans E3)⟩; rotate_left
      refine Wq_o (v := .pointer _) rfl (fun w' hw' => opv_load Try.isAgg57 rfl (((hB1.ext E2).ext hw').cell rfl)) ?_; refine Wq_o rfl (fun _ _ => opv_nilCheck rfl) ?_
      refine Wq_o rfl (fun _ _ => opv_fieldAddr Try.underlying78 rfl rfl (by first | exact Try.sizeOf3 | exact Try.sizeOf9) rfl) ?_
      refine Wq_o (v := .slice _ _ _) rfl (fun w' hw' => opv_load Try.isAgg76 rfl (((hB.ext (E1.trans E2)).ext hw').cell rfl)) ?_
      refine Wq_get (k := 1) Try.underlying76 Try.sizeOf57 Try.isAgg57 rfl (fun _ => rfl) rfl hP (E1.trans E2) rfl (by first | omega | (simp <;> omega)) ?_; rintro _ _ rfl
      refine Wq_o (v := .slice _ _ _) rfl (fun w' hw' => opv_load Try.isAgg30 rfl ((hB2.ext hw').cell rfl)) ?_; refine Wq_o rfl (fun _ _ => opv_move (v := .int _ _) rfl) ?_
      refine Wq_call rfl (fun _ _ => opc3 (b := .slice _ _ _) (c := .int _ _) Try.call60 rfl rfl rfl) (fun w' hw' => (h2 _ _ _ ((Mono.mono ((E1.trans E2).trans hw') hu')) ((Mono.mono ((E1.trans E2).trans hw') hpv)) (by assumption))) ?_
      refine Wq_o rfl (fun _ _ => opv_pick_f (v := .bool _) rfl rfl) ?_; refine Wq_o rfl (fun _ _ => opv_assign (v := .bool _) rfl) ?_; refine Wq_nil (fun w3 E3 => ?_); have hs3 := E3.size; refine W_ret ?_
      refine at_ret (v := .bool _) rfl ?_; refine ⟨congrArg Value.bool ?_, ((E1.trans E2).trans E3)⟩; rotate_left; contradiction
    all_goals
      have hc : Fm.holds p (f.or g) z.toNat = (f.holds p z.toNat || g.holds p z.toNat) := rfl
      rw [hc]
      first
        | (rw [show f.holds p z.toNat = true from by assumption]; rfl)
        | (rw [show f.holds p z.toNat = false from by assumption]; rfl)

noncomputable def holdsV (s : List UInt8) (p : List (List Int)) (z : Int) : Bool := match theF s with
  | some f => decide (Nod p z) && f.holds p z.toNat
  | none => false
theorem impl_HoldsAt_ok (s : List UInt8) (w : World) (pv : Value) (p : List (List Int)) (z : Int) (hl : s.length ≤ lim) (h : ESl Ints w pv p) : Does Try.prog 27 [str s, pv, .int .i64 z] w (Ret w (.bool (holdsV s p z))) := by
  cases hs : theF s with
  | none =>
    have e : holdsV s p z = false := by unfold holdsV; rw [hs]
    rw [e]
    refine fn_of_W1 Try.func27 rfl Try.results27 Try.ntmps27 rfl ?_
    focus
      refine W_seq ?_; refine W_region rfl ?_; refine Wo rfl (opv_assign (v := .bool _) rfl) ?_; refine Wo_nil ?_; refine W_seq ?_; refine W_region rfl ?_; refine Wo rfl (opv_move (v := .string _) rfl) ?_
      refine Wo_call rfl (opc1 (a := .string _) Try.call50 rfl) (readFormula_none _ _ (by assumption) (by assumption)) ?_; rintro _ w1 ⟨rfl, E1⟩; have hs1 := E1.size; refine Wo rfl (opv_assign (v := .pointer _) rfl) ?_; refine Wo_nil ?_
      refine W_seq ?_; refine W_region rfl ?_; refine Wo rfl (opv_move (v := .pointer _) rfl) ?_; refine Wo rfl (opv_neq_nil Try.underlying57 rfl rfl) ?_; refine Wo rfl (opv_move (v := .bool _) rfl) ?_; refine Wo_skip rfl ?_
      refine Wo_skip rfl ?_; refine Wo_skip rfl ?_; refine Wo rfl (opv_pick_f (v := .bool _) rfl rfl) ?_; refine Wo rfl (opv_move (v := .bool _) rfl) ?_; refine Wo_skip rfl ?_; refine Wo_skip rfl ?_; refine Wo_skip rfl ?_
      refine Wo_skip rfl ?_; refine Wo rfl (opv_pick_f (v := .bool _) rfl rfl) ?_; refine Wo rfl (opv_assign (v := .bool _) rfl) ?_; refine Wo_nil ?_; refine W_ret ?_; exact ⟨rfl, E1⟩
  | some f =>
    have e : holdsV s p z = (decide (Nod p z) && f.holds p z.toNat) := by unfold holdsV; rw [hs]
    rw [e]
    have hf := theF_some.1 hs
    by_cases hn : Nod p z
    · rw [decide_eq_true hn, Bool.true_and]
      have hh : ∀ (w : World) (v pv : Value), EFm w v f → ESl Ints w pv p → Does Try.prog 60 [v, pv, .int .i64 z] w (Ret w (.bool (f.holds p z.toNat))) := fun w v pv h1 h2 => holds_ok p hn.1 f w v pv z h1 h2 hn.2 (by rw [← hf.1]; omega)
      have hnd : ∀ (w : World) (pv : Value), ESl Ints w pv p → Does Try.prog 59 [pv, .int .i64 z] w (Ret w (.bool true)) := fun w pv h => by
        have := hasNode_ok w pv p h z
        rw [decide_eq_true hn] at this; exact this
      refine fn_of_W1 Try.func27 rfl Try.results27 Try.ntmps27 rfl ?_
      focus
        refine W_seq ?_; refine W_region rfl ?_; refine Wo rfl (opv_assign (v := .bool _) rfl) ?_; refine Wo_nil ?_; refine W_seq ?_; refine W_region rfl ?_; refine Wo rfl (opv_move (v := .string _) rfl) ?_
        refine Wo_call rfl (opc1 (a := .string _) Try.call50 rfl) (readFormula_some _ _ _ (by assumption)) ?_; rintro _ w1 ⟨E1, y1, rfl, hy1⟩; have hs1 := E1.size; refine Wo rfl (opv_assign (v := .pointer _) rfl) ?_; refine Wo_nil ?_
        refine W_seq ?_; refine W_region rfl ?_; refine Wo rfl (opv_move (v := .pointer _) rfl) ?_; refine Wo rfl (opv_neq_some Try.underlying57 rfl rfl) ?_; refine Wo rfl (opv_move (v := .bool _) rfl) ?_
        refine Wo rfl (opv_move (v := pv) rfl) ?_; refine Wo rfl (opv_move (v := .int _ _) rfl) ?_; refine Wo_call rfl (opc2 (a := pv) (b := .int _ _) Try.call59 rfl rfl) (hnd _ _ ((Mono.mono E1 h))) ?_; rintro _ w2 ⟨rfl, E2⟩
        have hs2 := E2.size; refine Wo rfl (opv_pick_t (v := .bool _) rfl rfl) ?_; refine Wo rfl (opv_move (v := .bool _) rfl) ?_; refine Wo rfl (opv_move (v := .pointer _) rfl) ?_; refine Wo rfl (opv_move (v := pv) rfl) ?_
        refine Wo rfl (opv_move (v := .int _ _) rfl) ?_; refine Wo_call rfl (opc3 (a := .pointer _) (b := pv) (c := .int _ _) Try.call60 rfl rfl rfl) (hh _ _ _ ((Mono.mono E2 (Above.here hy1))) ((Mono.mono (E1.trans E2) h))) ?_
        rintro _ w3 ⟨rfl, E3⟩; have hs3 := E3.size; refine Wo rfl (opv_pick_t (v := .bool _) rfl rfl) ?_; refine Wo rfl (opv_assign (v := .bool _) rfl) ?_; refine Wo_nil ?_; refine W_ret ?_; exact ⟨rfl, ((E1.trans E2).trans E3)⟩
    · rw [decide_eq_false hn, Bool.false_and]
      have hnd : ∀ (w : World) (pv : Value), ESl Ints w pv p → Does Try.prog 59 [pv, .int .i64 z] w (Ret w (.bool false)) := fun w pv h => by
        have := hasNode_ok w pv p h z
        rw [decide_eq_false hn] at this; exact this
      refine fn_of_W1 Try.func27 rfl Try.results27 Try.ntmps27 rfl ?_
      focus
        refine W_seq ?_; refine W_region rfl ?_; refine Wo rfl (opv_assign (v := .bool _) rfl) ?_; refine Wo_nil ?_; refine W_seq ?_; refine W_region rfl ?_; refine Wo rfl (opv_move (v := .string _) rfl) ?_
        refine Wo_call rfl (opc1 (a := .string _) Try.call50 rfl) (readFormula_some _ _ _ (by assumption)) ?_; rintro _ w1 ⟨E1, y1, rfl, hy1⟩; have hs1 := E1.size; refine Wo rfl (opv_assign (v := .pointer _) rfl) ?_; refine Wo_nil ?_
        refine W_seq ?_; refine W_region rfl ?_; refine Wo rfl (opv_move (v := .pointer _) rfl) ?_; refine Wo rfl (opv_neq_some Try.underlying57 rfl rfl) ?_; refine Wo rfl (opv_move (v := .bool _) rfl) ?_
        refine Wo rfl (opv_move (v := pv) rfl) ?_; refine Wo rfl (opv_move (v := .int _ _) rfl) ?_; refine Wo_call rfl (opc2 (a := pv) (b := .int _ _) Try.call59 rfl rfl) (hnd _ _ ((Mono.mono E1 h))) ?_; rintro _ w2 ⟨rfl, E2⟩
        have hs2 := E2.size; refine Wo rfl (opv_pick_t (v := .bool _) rfl rfl) ?_; refine Wo rfl (opv_move (v := .bool _) rfl) ?_; refine Wo_skip rfl ?_; refine Wo_skip rfl ?_; refine Wo_skip rfl ?_; refine Wo_skip rfl ?_
        refine Wo rfl (opv_pick_f (v := .bool _) rfl rfl) ?_; refine Wo rfl (opv_assign (v := .bool _) rfl) ?_; refine Wo_nil ?_; refine W_ret ?_; exact ⟨rfl, (E1.trans E2)⟩

end Go.Proofs.Ytjdfnngmbaojjaa
