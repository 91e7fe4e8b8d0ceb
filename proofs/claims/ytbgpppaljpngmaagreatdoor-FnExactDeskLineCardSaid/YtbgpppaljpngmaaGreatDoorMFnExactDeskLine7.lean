/- Lemmas for FnExactDeskLine. -/
import Derived.Test.YtbgpppaljpngmaaGreatDoorMFnExactDeskLine6
namespace Go.Proofs.YtbgpppaljpngmaaGreatDoor
open Go.Hs
set_option maxRecDepth 10000
set_option maxHeartbeats 4000000
set_option linter.unusedVariables false
set_option linter.unusedSimpArgs false
theorem arr_any {p : List (List Int)} (hp : Pic p) {i : Nat} (hi : i < p.length) (g : Nat → Bool) : (arr p i).any g = (List.range p.length).any fun j => decide (p[i].getD j 0 = 1) && g j := by
  unfold arr arrR
  rw [Vy hi, hp.row hi, List.any_filter]
theorem mid_end {h f g : Fm} {c : UInt8} (he : h.enc = 40 :: (f.enc ++ c :: (g.enc ++ [41]))) : endV (h.enc.drop 1) h.enc.length = ((f.enc.length + 1 : Nat) : Int) := by
  rw [endV, Se (l := h.enc.drop 1) (f := f) (r := c :: (g.enc ++ [41])) (by rw [he]; rfl)]
  have hlen : h.enc.length = f.enc.length + g.enc.length + 3 := by rw [he]; simp; omega
  simp only [List.length_cons, List.length_append, List.length_nil]
  omega
theorem mid_right {h f g : Fm} {c : UInt8} (he : h.enc = 40 :: (f.enc ++ c :: (g.enc ++ [41]))) : (h.enc.drop (((f.enc.length + 1 : Nat) : Int) + 1).toNat).take (((h.enc.length : Int) - 1).toNat - (((f.enc.length + 1 : Nat) : Int) + 1).toNat) = g.enc := by
  have hlen : h.enc.length = f.enc.length + g.enc.length + 3 := by rw [he]; simp; omega
  have a1 : (((f.enc.length + 1 : Nat) : Int) + 1).toNat = f.enc.length + 2 := Ka
  have a2 : ((h.enc.length : Int) - 1).toNat = f.enc.length + g.enc.length + 2 := Ka
  have a3 : f.enc.length + g.enc.length + 2 - (f.enc.length + 2) = g.enc.length := Ka
  rw [a1, a2, a3, he]
  have : f.enc.length + 2 = (f.enc.length + 1) + 1 := rfl
  rw [this, List.drop_succ_cons, List.drop_append, List.drop_eq_nil_of_le Ka]
  simp
theorem mid_sign {h f g : Fm} {c : UInt8} (he : h.enc = 40 :: (f.enc ++ c :: (g.enc ++ [41]))) : (h.enc.getD (f.enc.length + 1) 0).toNat = c.toNat := by
  rw [he, List.getD_cons_succ, List.getD_eq_getElem?_getD, List.getElem?_append_right (Nat.le_refl _)]; simp
theorem l10Holds_ok (p : List (List Int)) (hp : Pic p) : ∀ (f : Fm) (w : World) (pv : Value) (z : Int), ESl Ints w pv p → 0 ≤ z ∧ z < p.length → f.enc.length ≤ 60 →
    Does Tryz.prog 164 [str f.enc, pv, .int .i64 z] w (Ret w (.bool (f.holds p z.toNat))) := by
  have hp5 := hp.2.1
  have bin : ∀ (h f g : Fm) (c : UInt8), h.enc = 40 :: (f.enc ++ c :: (g.enc ++ [41])) → (c = 38 ∧ (∀ i, h.holds p i = (f.holds p i && g.holds p i)) ∨ c = 124 ∧ (∀ i, h.holds p i = (f.holds p i || g.holds p i))) →
      (∀ (w : World) (pv : Value) (z : Int), ESl Ints w pv p → 0 ≤ z ∧ z < p.length → f.enc.length ≤ 60 → Does Tryz.prog 164 [str f.enc, pv, .int .i64 z] w (Ret w (.bool (f.holds p z.toNat)))) →
      (∀ (w : World) (pv : Value) (z : Int), ESl Ints w pv p → 0 ≤ z ∧ z < p.length → g.enc.length ≤ 60 → Does Tryz.prog 164 [str g.enc, pv, .int .i64 z] w (Ret w (.bool (g.holds p z.toNat)))) →
      ∀ (w : World) (pv : Value) (z : Int), ESl Ints w pv p → 0 ≤ z ∧ z < p.length → h.enc.length ≤ 60 → Does Tryz.prog 164 [str h.enc, pv, .int .i64 z] w (Ret w (.bool (h.holds p z.toNat))) := by
    intro h f g c he hcd ih1 ih2 w pv z hpv hz h60
    have hlen : h.enc.length = f.enc.length + g.enc.length + 3 := by rw [he]; simp; omega
    have hn : (h.enc.getD 0 0).toNat = 40 := by rw [he]; rfl
    have hend : ∀ w, Does Tryz.prog 163 [str h.enc, .int .i64 1] w (Ret w (.int .i64 ((f.enc.length + 1 : Nat) : Int))) := fun w => by
      have := l10End_ok _ h.enc 1 w (by unfold lim; omega) (Nat.le_refl _)
      rw [mid_end he] at this
      exact this
    have e1 : (h.enc.drop 1).take (f.enc.length + 1 - 1) = f.enc := by rw [he]; simp
    have hmid := mid_sign he
    have i1 : ∀ (w : World) (pv : Value), ESl Ints w pv p → Does Tryz.prog 164 [str ((h.enc.drop 1).take (f.enc.length + 1 - 1)), pv, .int .i64 z] w (Ret w (.bool (f.holds p z.toNat))) := fun w pv h9 => by rw [e1]; exact ih1 w pv z h9 hz Ka
    have i2 : ∀ (w : World) (pv : Value), ESl Ints w pv p → Does Tryz.prog 164 [str ((h.enc.drop (((f.enc.length + 1 : Nat) : Int) + 1).toNat).take (((h.enc.length : Int) - 1).toNat - (((f.enc.length + 1 : Nat) : Int) + 1).toNat)), pv, .int .i64 z] w (Ret w (.bool (g.holds p z.toNat))) :=
      fun w pv h9 => by rw [mid_right he]; exact ih2 w pv z h9 hz Ka
    clear e1 ih1 ih2 he
    generalize f.enc.length = m1 at *
    rcases hcd with ⟨rfl, hc⟩ | ⟨rfl, hc⟩
    · rw [hc]
      have hm : (h.enc.getD (m1 + 1) 0).toNat = 38 := hmid
      refine Vf Tryz.func164 rfl Tryz.results164 Tryz.ntmps164 rfl ?_
      focus
        refine Zo<|Zx rfl<|Zm<|Zp<|Zo<|Vn rfl<|Wo rfl (Vh (k := 0) Kr rfl rfl Ka) ?_; refine Zm<|Zw<|Zo<|Vi rfl<|Zx rfl<|Zm<|Zs rfl fun h1 => ?_; refine Zo<|Vi rfl<|Zx rfl<|Zm<|Zs rfl fun h2 => ?_; refine Zo<|Vi rfl<|Zx rfl<|Zm<|Zs rfl fun h3 => ?_; refine Zo<|Vi rfl<|Zx rfl<|Zm<|Zs rfl fun h4 => ?_; refine Zu<|Zo<|Vn rfl<|Zq rfl (Yh (a := .string _) (b := .int _ _) Jn rfl rfl) (hend _) ?_; rintro _ w1 ⟨rfl, E1⟩; refine Vg rfl<|Zm<|Zo<|Vn rfl<|Zt rfl<|Wo rfl (Sy (l := 1) Kr rfl rfl rfl Ka) ?_
        refine Va pv rfl<|Zt rfl<|Zq rfl (Uc (a := .string _) (b := pv) (c := .int _ _) Gn rfl rfl rfl) (i1 _ _ ((Mono.mono E1 hpv))) ?_; rintro _ w2 ⟨rfl, E2⟩; refine Zx rfl<|Zm<|Zo<|Vn rfl<|Zt rfl<|Vq rfl<|Vn rfl<|Wo rfl (Ya Kr rfl)<|Qp rfl<|Wo rfl (opv_slice_str_z Kr rfl rfl rfl Ka) ?_; refine Va pv rfl<|Zt rfl<|Zq rfl (Uc (a := .string _) (b := pv) (c := .int _ _) Gn rfl rfl rfl) (i2 _ _ ((Mono.mono exq hpv))) ?_; rintro _ w3 ⟨rfl, E3⟩; refine Zx rfl<|Zm<|Zp<|Zo<|Vn rfl<|Zt rfl<|Wo rfl (Vh Kr rfl rfl Ka) ?_; refine Vi rfl<|Zm<|Zr rfl (fun h5 => ?_) (fun h5 => ?_); refine Zo<|Yf rfl<|Yo rfl (Vp (v := .bool _) rfl) (fun h6 => ?_) (fun h6 => ?_)
        refine Yf rfl<|Ym rfl<|Zx rfl<|Zm<|Zy ?_; refine Vd (v := .bool _) rfl ?_; refine ⟨congrArg Value.bool ?_, exq⟩; rotate_left; refine Zn rfl<|Vo rfl<|Zx rfl<|Zm<|Zy ?_; refine Vd (v := .bool _) rfl ?_; refine ⟨congrArg Value.bool ?_, exq⟩; rotate_left; (exfalso; omega)
      all_goals first
        | (rw [show f.holds p z.toNat = true from by assumption]; rfl)
        | (rw [show f.holds p z.toNat = false from by assumption]; rfl)
    · rw [hc]
      have hm : (h.enc.getD (m1 + 1) 0).toNat = 124 := hmid
      refine Vf Tryz.func164 rfl Tryz.results164 Tryz.ntmps164 rfl ?_
      focus
        refine Zo<|Zx rfl<|Zm<|Zp<|Zo<|Vn rfl<|Wo rfl (Vh (k := 0) Kr rfl rfl Ka) ?_; refine Zm<|Zw<|Zo<|Vi rfl<|Zx rfl<|Zm<|Zs rfl fun h1 => ?_; refine Zo<|Vi rfl<|Zx rfl<|Zm<|Zs rfl fun h2 => ?_; refine Zo<|Vi rfl<|Zx rfl<|Zm<|Zs rfl fun h3 => ?_; refine Zo<|Vi rfl<|Zx rfl<|Zm<|Zs rfl fun h4 => ?_; refine Zu<|Zo<|Vn rfl<|Zq rfl (Yh (a := .string _) (b := .int _ _) Jn rfl rfl) (hend _) ?_; rintro _ w1 ⟨rfl, E1⟩; refine Vg rfl<|Zm<|Zo<|Vn rfl<|Zt rfl<|Wo rfl (Sy (l := 1) Kr rfl rfl rfl Ka) ?_
        refine Va pv rfl<|Zt rfl<|Zq rfl (Uc (a := .string _) (b := pv) (c := .int _ _) Gn rfl rfl rfl) (i1 _ _ ((Mono.mono E1 hpv))) ?_; rintro _ w2 ⟨rfl, E2⟩; refine Zx rfl<|Zm<|Zo<|Vn rfl<|Zt rfl<|Vq rfl<|Vn rfl<|Wo rfl (Ya Kr rfl)<|Qp rfl<|Wo rfl (opv_slice_str_z Kr rfl rfl rfl Ka) ?_; refine Va pv rfl<|Zt rfl<|Zq rfl (Uc (a := .string _) (b := pv) (c := .int _ _) Gn rfl rfl rfl) (i2 _ _ ((Mono.mono exq hpv))) ?_; rintro _ w3 ⟨rfl, E3⟩; refine Zx rfl<|Zm<|Zp<|Zo<|Vn rfl<|Zt rfl<|Wo rfl (Vh Kr rfl rfl Ka) ?_; refine Vi rfl<|Zm<|Zs rfl fun h5 => ?_; refine Zu<|Zo<|Yf rfl<|Yo rfl (Vp (v := .bool _) rfl) (fun h6 => ?_) (fun h6 => ?_)
        refine Zn rfl<|Ym rfl<|Zx rfl<|Zm<|Zy ?_; refine Vd (v := .bool _) rfl ?_; refine ⟨congrArg Value.bool ?_, exq⟩; rotate_left; refine Yf rfl<|Vo rfl<|Zx rfl<|Zm<|Zy ?_; refine Vd (v := .bool _) rfl ?_; refine ⟨congrArg Value.bool ?_, exq⟩; rotate_left
      all_goals first
        | (rw [show f.holds p z.toNat = true from by assumption]; rfl)
        | (rw [show f.holds p z.toNat = false from by assumption]; rfl)
  intro f
  induction f with
  | t =>
    intro w pv z hpv hz h60
    have hn : ((Fm.enc .t).getD 0 0).toNat = 116 := rfl
    have hl : (Fm.enc .t).length = 1 := rfl
    refine Vf Tryz.func164 rfl Tryz.results164 Tryz.ntmps164 rfl ?_
    focus
      refine Zo<|Zx rfl<|Zm<|Zp<|Zo<|Vn rfl<|Wo rfl (Vh (k := 0) Kr rfl rfl Ka) ?_; refine Zm<|Zw<|Zo<|Vi rfl<|Zx rfl<|Zm<|Zr rfl (fun h1 => ?_) (fun h1 => ?_); refine Zo<|Zx rfl<|Zm<|Zy ?_; exact ⟨rfl, (Ext.refl _)⟩; contradiction
  | neg f ih =>
    intro w pv z hpv hz h60
    have hn : ((Fm.enc (.neg f)).getD 0 0).toNat = 33 := rfl
    have hl : (Fm.enc (.neg f)).length = f.enc.length + 1 := rfl
    have i1 : ∀ (w : World) (pv : Value), ESl Ints w pv p → Does Tryz.prog 164 [str ((Fm.enc (.neg f)).drop 1), pv, .int .i64 z] w (Ret w (.bool (f.holds p z.toNat))) := fun w pv h9 => ih w pv z h9 hz Ka
    refine Vf Tryz.func164 rfl Tryz.results164 Tryz.ntmps164 rfl ?_
    focus
      refine Zo<|Zx rfl<|Zm<|Zp<|Zo<|Vn rfl<|Wo rfl (Vh (k := 0) Kr rfl rfl Ka) ?_; refine Zm<|Zw<|Zo<|Vi rfl<|Zx rfl<|Zm<|Zs rfl fun h1 => ?_; refine Zo<|Vi rfl<|Zx rfl<|Zm<|Zr rfl (fun h2 => ?_) (fun h2 => ?_); refine Zo<|Vn rfl<|Wo rfl (Yq (l := 1) Kr rfl rfl Ka) ?_; refine Va pv rfl<|Zt rfl<|Zq rfl (Uc (a := .string _) (b := pv) (c := .int _ _) Gn rfl rfl rfl) (i1 _ _ (hpv)) ?_; rintro _ w1 ⟨rfl, E1⟩; refine Yl rfl<|Zx rfl<|Zm<|Zy ?_; exact ⟨rfl, E1⟩; contradiction
  | S f ih =>
    intro w pv z hpv hz h60
    have hn : ((Fm.enc (.S f)).getD 0 0).toNat = 83 := rfl
    have hl : (Fm.enc (.S f)).length = f.enc.length + 1 := rfl
    have hzl : z.toNat < p.length := Ka
    have hrow := hp.row hzl
    have i1 : ∀ (w : World) (pv : Value) (y : Int), ESl Ints w pv p → 0 ≤ y ∧ y < p.length → Does Tryz.prog 164 [str ((Fm.enc (.S f)).drop 1), pv, .int .i64 y] w (Ret w (.bool (f.holds p y.toNat))) := fun w pv y h9 hy => ih w pv y h9 hy Ka
    have hval : Fm.holds p (.S f) z.toNat = (List.range p.length).any fun j => decide (p[z.toNat].getD j 0 = 1) && f.holds p j := arr_any hp hzl _
    rw [hval]
    refine Vf Tryz.func164 rfl Tryz.results164 Tryz.ntmps164 rfl ?_
    focus
      refine Zo<|Zx rfl<|Zm<|Zp<|Zo<|Vn rfl<|Wo rfl (Vh (k := 0) Kr rfl rfl Ka) ?_; refine Zm<|Zw<|Zo<|Vi rfl<|Zx rfl<|Zm<|Zs rfl fun h1 => ?_; refine Zo<|Vi rfl<|Zx rfl<|Zm<|Zs rfl fun h2 => ?_; refine Zo<|Vi rfl<|Zx rfl<|Zm<|Zr rfl (fun h3 => ?_) (fun h3 => ?_); refine Zp<|Zo<|Vg rfl<|Zm<|Zw ?_; rotate_left; contradiction
    refine Vz [6, 7, 26, 27, 28, 29, 30, 31, 32, 33, 34, 35, 36, 37, 38, 39, 40, 41, 42, 43, 44, 45, 46] (fun (k : Nat) => [(7, .int .i64 (k : Nat))]) (fun k w' => Ext w w' ∧ k ≤ p.length ∧ ((List.range k).any fun j => decide (p[z.toNat].getD j 0 = 1) && f.holds p j) = false) (fun x => p.length - x) 0 Kg ?_ ?_
    · exact ⟨Ext.refl _, Nat.zero_le _, Ki⟩
    rintro k ρj w1 ⟨E1, hk, hg⟩
    by_cases hlt : k < p.length
    · have hgd := Vy (l := p[z.toNat]) (i := k) (d := 0) Ka
      have hsu := Tx (fun j => decide (p[z.toNat].getD j 0 = 1) && f.holds p j) k
      rw [hg, hgd] at hsu
      focus
        have szE1 := E1.size; refine Zp<|Zo<|Zt rfl<|Va pv rfl<|Vm Ko rfl hpv<|Vl rfl<|Zm<|Zr rfl (fun h4 => ?_) (fun h4 => ?_); refine Zu<|Zp<|Zw<|Zo<|Va pv rfl<|Zt rfl<|Qn Ko Kt Kz rfl (fun _ => rfl) rfl hpv E1 rfl Kf ?_; rintro _ u1 hu1; refine Zt rfl<|Yb Kn Kl Km rfl (fun _ => rfl) rfl hu1 E1 rfl Kf ?_; rintro _ _ rfl; refine Vi rfl<|Yc rfl (fun h5 => ?_) (fun h5 => ?_); refine Vn rfl<|Wo rfl (Yq (l := 1) Kr rfl rfl Ka) ?_; refine Va pv rfl<|Zt rfl<|Zq rfl (Uc (a := .string _) (b := pv) (c := .int _ _) Gn rfl rfl rfl) (i1 _ _ _ ((Mono.mono E1 hpv)) Ka) ?_; rintro _ w2 ⟨rfl, E2⟩
        have hs1 := E2.size; refine Ym rfl<|Zm<|Xd rfl (fun h6 => ?_) (fun h6 => ?_); refine Zo<|Zx rfl<|Zm<|Zy ?_; refine Vd (v := .bool _) rfl ?_; refine ⟨congrArg Value.bool ?_, exq⟩; rotate_left; refine Zu<|Ve<|Zt rfl<|Vq rfl<|Vg rfl<|Zm ?_; rotate_left; refine Zn rfl<|Zn rfl<|Zn rfl<|Zn rfl<|Zn rfl<|Vo rfl<|Zm<|Zv rfl ?_; refine Zu<|Ve<|Zt rfl<|Vq rfl<|Vg rfl<|Zm ?_; rotate_left; (exfalso; omega)
      · refine (List.any_eq_true.2 ⟨k, List.mem_range.2 hlt, ?_⟩).symm
        rw [hgd, decide_eq_true Kd, Bool.true_and]
        have e : ((k : Int)).toNat = k := rfl
        rw [e] at *
        assumption
      · refine ⟨(k + 1), Kg, Kh, ?_, ?_⟩
        · refine ⟨E1.trans E2, Ka, ?_⟩
          rw [hsu, decide_eq_true Kd, Bool.true_and, Bool.false_or]
          assumption
        · omega
      · refine ⟨(k + 1), Kg, Kh, ?_, ?_⟩
        · refine ⟨E1, Ka, ?_⟩
          rw [hsu, decide_eq_false Kd]; rfl
        · omega
    · obtain rfl : k = p.length := by omega
      focus
        refine Zp<|Zo<|Zt rfl<|Va pv rfl<|Vm Ko rfl hpv<|Vl rfl<|Zm<|Zs rfl fun h4 => ?_; refine Vv ?_; refine Vc ?_; refine Zo<|Zx rfl<|Zm<|Zy ?_; refine Vd (v := .bool _) rfl ?_; refine ⟨congrArg Value.bool ?_, E1⟩
      exact hg.symm
  | A f ih =>
    intro w pv z hpv hz h60
    have hn : ((Fm.enc (.A f)).getD 0 0).toNat = 65 := rfl
    have hl : (Fm.enc (.A f)).length = f.enc.length + 1 := rfl
    have hzl : z.toNat < p.length := Ka
    have hrow := hp.row hzl
    have i1 : ∀ (w : World) (pv : Value) (y : Int), ESl Ints w pv p → 0 ≤ y ∧ y < p.length → Does Tryz.prog 164 [str ((Fm.enc (.A f)).drop 1), pv, .int .i64 y] w (Ret w (.bool (f.holds p y.toNat))) := fun w pv y h9 hy => ih w pv y h9 hy Ka
    have hval : Fm.holds p (.A f) z.toNat = !((List.range p.length).any fun j => decide (p[z.toNat].getD j 0 = 1) && !(f.holds p j)) := congrArg not (arr_any hp hzl _)
    rw [hval]
    refine Vf Tryz.func164 rfl Tryz.results164 Tryz.ntmps164 rfl ?_
    focus
      refine Zo<|Zx rfl<|Zm<|Zp<|Zo<|Vn rfl<|Wo rfl (Vh (k := 0) Kr rfl rfl Ka) ?_; refine Zm<|Zw<|Zo<|Vi rfl<|Zx rfl<|Zm<|Zs rfl fun h1 => ?_; refine Zo<|Vi rfl<|Zx rfl<|Zm<|Zs rfl fun h2 => ?_; refine Zo<|Vi rfl<|Zx rfl<|Zm<|Zs rfl fun h3 => ?_; refine Zo<|Vi rfl<|Zx rfl<|Zm<|Zr rfl (fun h4 => ?_) (fun h4 => ?_); refine Zp<|Zo<|Vg rfl<|Zm<|Zw ?_; rotate_left; contradiction
    refine Vz [6, 8, 49, 50, 51, 52, 53, 54, 55, 56, 57, 58, 59, 60, 61, 62, 63, 64, 65, 66, 67, 68, 69, 70] (fun (k : Nat) => [(8, .int .i64 (k : Nat))]) (fun k w' => Ext w w' ∧ k ≤ p.length ∧ ((List.range k).any fun j => decide (p[z.toNat].getD j 0 = 1) && !(f.holds p j)) = false) (fun x => p.length - x) 0 Kg ?_ ?_
    · exact ⟨Ext.refl _, Nat.zero_le _, Ki⟩
    rintro k ρj w1 ⟨E1, hk, hg⟩
    by_cases hlt : k < p.length
    · have hgd := Vy (l := p[z.toNat]) (i := k) (d := 0) Ka
      have hsu := Tx (fun j => decide (p[z.toNat].getD j 0 = 1) && !(f.holds p j)) k
      rw [hg, hgd] at hsu
      focus
        refine Zp<|Zo<|Zt rfl<|Va pv rfl<|Vm Ko rfl hpv<|Vl rfl<|Zm<|Zr rfl (fun h5 => ?_) (fun h5 => ?_); refine Zu<|Zp<|Zw<|Zo<|Va pv rfl<|Zt rfl<|Qn Ko Kt Kz rfl (fun _ => rfl) rfl hpv E1 rfl Kf ?_; rintro _ u1 hu1; refine Zt rfl<|Yb Kn Kl Km rfl (fun _ => rfl) rfl hu1 E1 rfl Kf ?_; rintro _ _ rfl; refine Vi rfl<|Yc rfl (fun h6 => ?_) (fun h6 => ?_); refine Vn rfl<|Wo rfl (Yq (l := 1) Kr rfl rfl Ka) ?_; refine Va pv rfl<|Zt rfl<|Zq rfl (Uc (a := .string _) (b := pv) (c := .int _ _) Gn rfl rfl rfl) (i1 _ _ _ ((Mono.mono E1 hpv)) Ka) ?_; rintro _ w2 ⟨rfl, E2⟩
        refine Yl rfl<|Ym rfl<|Zm<|Xd rfl (fun h7 => ?_) (fun h7 => ?_); refine Zo<|Zx rfl<|Zm<|Zy ?_; refine Vd (v := .bool _) rfl ?_; refine ⟨congrArg Value.bool ?_, exq⟩; rotate_left; refine Zu<|Ve<|Zt rfl<|Vq rfl<|Vg rfl<|Zm ?_; rotate_left; refine Zn rfl<|Zn rfl<|Zn rfl<|Zn rfl<|Zn rfl<|Zn rfl<|Vo rfl<|Zm<|Zv rfl ?_; refine Zu<|Ve<|Zt rfl<|Vq rfl<|Vg rfl<|Zm ?_; rotate_left; (exfalso; omega)
      · have hany : ((List.range p.length).any fun j => decide (p[z.toNat].getD j 0 = 1) && !(f.holds p j)) = true := by
          refine List.any_eq_true.2 ⟨k, List.mem_range.2 hlt, ?_⟩
          have e : (!(f.holds p k)) = true := Kd
          rw [hgd, decide_eq_true Kd, Bool.true_and, e]
        rw [hany]; rfl
      · refine ⟨(k + 1), Kg, Kh, ?_, ?_⟩
        · refine ⟨E1.trans E2, Ka, ?_⟩
          have e : (!(f.holds p k)) = false := Kd
          rw [hsu, decide_eq_true Kd, Bool.true_and, e]; rfl
        · omega
      · refine ⟨(k + 1), Kg, Kh, ?_, ?_⟩
        · refine ⟨E1, Ka, ?_⟩
          rw [hsu, decide_eq_false Kd]; rfl
        · omega
    · obtain rfl : k = p.length := by omega
      focus
        refine Zp<|Zo<|Zt rfl<|Va pv rfl<|Vm Ko rfl hpv<|Vl rfl<|Zm<|Zs rfl fun h5 => ?_; refine Vv ?_; refine Vc ?_; refine Zo<|Zx rfl<|Zm<|Zy ?_; refine Vd (v := .bool _) rfl ?_; refine ⟨congrArg Value.bool ?_, E1⟩
      rw [hg]; rfl
  | and f g ih1 ih2 => exact bin (.and f g) f g 38 rfl (.inl ⟨rfl, fun _ => rfl⟩) ih1 ih2
  | or f g ih1 ih2 => exact bin (.or f g) f g 124 rfl (.inr ⟨rfl, fun _ => rfl⟩) ih1 ih2
theorem spec_HoldsAt_ok (s : List UInt8) (w : World) (pv : Value) (p : List (List Int)) (z : Int) (hl : s.length ≤ lim) (h : ESl Ints w pv p) : Does Tryz.prog 124 [str s, pv, .int .i64 z] w (Ret w (.bool (holdsV s p z))) := by
  cases hs : theF s with
  | none =>
    have e : holdsV s p z = false := by unfold holdsV; rw [hs]
    rw [e]
    have h1 : ∀ w, Does Tryz.prog 123 [str s] w (Ret w (.bool false)) := fun w => by
      have := Sl s w hl
      rw [okF, hs] at this
      exact this
    refine Vf Tryz.func124 rfl Tryz.results124 Tryz.ntmps124 rfl ?_
    focus
      refine Zo<|Zx rfl<|Zm<|Zo<|Vn rfl<|Zq rfl (Vw (a := .string _) Gw rfl) (h1 _) ?_; rintro _ w1 ⟨rfl, E1⟩; refine Yf rfl<|Zn rfl<|Zn rfl<|Zn rfl<|Vo rfl<|Yf rfl<|Zn rfl<|Zn rfl<|Zn rfl<|Zn rfl<|Vo rfl<|Zx rfl<|Zm<|Zy ?_; exact ⟨rfl, E1⟩
  | some f =>
    have e : holdsV s p z = (decide (Nod p z) && f.holds p z.toNat) := by unfold holdsV; rw [hs]
    rw [e]
    obtain ⟨rfl, h60⟩ := theF_some.1 hs
    have h1 : ∀ w, Does Tryz.prog 123 [str f.enc] w (Ret w (.bool true)) := fun w => by
      have := Sl f.enc w hl
      rw [okF, hs] at this
      exact this
    by_cases hn : Nod p z
    · rw [decide_eq_true hn, Bool.true_and]
      have hh : ∀ (w : World) (pv : Value), ESl Ints w pv p → Does Tryz.prog 164 [str f.enc, pv, .int .i64 z] w (Ret w (.bool (f.holds p z.toNat))) := fun w pv h2 => l10Holds_ok p hn.1 f w pv z h2 hn.2 h60
      have hnd : ∀ (w : World) (pv : Value), ESl Ints w pv p → Does Tryz.prog 118 [pv, .int .i64 z] w (Ret w (.bool true)) := fun w pv h => by
        have := Qr w pv p h z
        rw [decide_eq_true hn] at this; exact this
      refine Vf Tryz.func124 rfl Tryz.results124 Tryz.ntmps124 rfl ?_
      focus
        refine Zo<|Zx rfl<|Zm<|Zo<|Vn rfl<|Zq rfl (Vw (a := .string _) Gw rfl) (h1 _) ?_; rintro _ w1 ⟨rfl, E1⟩; refine Yf rfl<|Va pv rfl<|Zt rfl<|Zq rfl (Yh (a := pv) (b := .int _ _) Ga rfl rfl) (hnd _ _ ((Mono.mono E1 h))) ?_; rintro _ w2 ⟨rfl, E2⟩; refine Ym rfl<|Yf rfl<|Vn rfl<|Va pv rfl<|Zt rfl<|Zq rfl (Uc (a := .string _) (b := pv) (c := .int _ _) Gn rfl rfl rfl) (hh _ _ ((Mono.mono exq h))) ?_; rintro _ w3 ⟨rfl, E3⟩; refine Ym rfl<|Zx rfl<|Zm<|Zy ?_; exact ⟨rfl, exq⟩
    · rw [decide_eq_false hn, Bool.false_and]
      have hnd : ∀ (w : World) (pv : Value), ESl Ints w pv p → Does Tryz.prog 118 [pv, .int .i64 z] w (Ret w (.bool false)) := fun w pv h => by
        have := Qr w pv p h z
        rw [decide_eq_false hn] at this; exact this
      refine Vf Tryz.func124 rfl Tryz.results124 Tryz.ntmps124 rfl ?_
      focus
        refine Zo<|Zx rfl<|Zm<|Zo<|Vn rfl<|Zq rfl (Vw (a := .string _) Gw rfl) (h1 _) ?_; rintro _ w1 ⟨rfl, E1⟩; refine Yf rfl<|Va pv rfl<|Zt rfl<|Zq rfl (Yh (a := pv) (b := .int _ _) Ga rfl rfl) (hnd _ _ ((Mono.mono E1 h))) ?_; rintro _ w2 ⟨rfl, E2⟩; refine Ym rfl<|Yf rfl<|Zn rfl<|Zn rfl<|Zn rfl<|Zn rfl<|Vo rfl<|Zx rfl<|Zm<|Zy ?_; exact ⟨rfl, exq⟩
end Go.Proofs.YtbgpppaljpngmaaGreatDoor
namespace Go.Proofs.YtbgpppaljpngmaaGreatDoor
open Go.Hs
set_option maxRecDepth 10000
set_option maxHeartbeats 4000000
set_option linter.unusedVariables false
set_option linter.unusedSimpArgs false
open Go.Lib (decDigits)
theorem l11Yes_ok (w : World) (b : Bool) : Does Tryz.prog 66 [.bool b] w (Ret w (str (ynV b))) := by
  cases b with
  | true =>
    refine Vf Tryz.func66 rfl Tryz.results66 Tryz.ntmps66 rfl ?_
    focus
      refine Zo<|Yi rfl<|Zm<|Zp<|Zo<|Yf rfl<|Zm<|Vu rfl ?_; refine Zo<|Yi rfl<|Zm<|Zy ?_; exact ⟨rfl, (Ext.refl _)⟩
  | false =>
    refine Vf Tryz.func66 rfl Tryz.results66 Tryz.ntmps66 rfl ?_
    focus
      refine Zo<|Yi rfl<|Zm<|Zp<|Zo<|Yf rfl<|Zm<|Zv rfl ?_; refine Zu<|Zo<|Yi rfl<|Zm<|Zy ?_; exact ⟨rfl, (Ext.refl _)⟩
open Classical in
theorem l11Ask_ok (w : World) (v : Value) (p : List (List Int)) (h : ESl Ints w v p) (hp : Pic p) (wd R : List UInt8) (hR : R.length ≤ 1048576) : Does Tryz.prog 71 [v, str wd, str R] w (Ret w (str (ask2 p wd R))) := by
  have hp1 := hp.1
  have hRl' : R.length ≤ lim := by unfold lim; omega
  have yn := l11Yes_ok
  have c8 : ∀ w, Does Tryz.prog 122 [str R] w (RetOB w XR ((rdP R).getD []) (rdP R).isSome) := fun w => Rx w R hR
  have c9 : ∀ w, Does Tryz.prog 123 [str R] w (Ret w (.bool (okF R))) := fun w => Sl R w hRl'
  have c10 : ∀ (w : World) (v : Value), ESl Ints w v p → Does Tryz.prog 124 [str R, v, .int .i64 0] w (Ret w (.bool (holdsV R p 0))) := fun w v h => spec_HoldsAt_ok R w v p 0 hRl' h
  refine Vf Tryz.func71 rfl Tryz.results71 Tryz.ntmps71 rfl ?_
  cases hq : rdP R with
  | none =>
    rw [hq] at c8
    cases ho : okF R with
    | false =>
      rw [ho] at c9
      have ea : ask2 p wd R = [119, 104, 97, 116] := by unfold ask2; rw [ho, hq]; simp
      rw [ea]
      focus
        refine Zo<|Yi rfl<|Zm<|Zo<|Vn rfl<|Zq rfl (Vw (a := .string _) Jm rfl) (c8 _) ?_; rintro _ w1 ⟨u1, rfl, E1, hO1⟩; refine Xj rfl<|Un u1 rfl<|Xr rfl<|Yp u1 rfl<|Zx rfl<|Zm<|Zp<|Zw<|Zp<|Ve<|Vn rfl<|Wo rfl (Vb rfl rfl)<|Yc rfl (fun h1 => ?_) (fun h1 => ?_); refine Vn rfl<|Zq rfl (Vw (a := .string _) Gw rfl) (c9 _) ?_; rintro _ w2 ⟨rfl, E2⟩; refine Ym rfl<|Zx rfl<|Zm<|Zv rfl ?_; refine Zo<|Vn rfl<|Wo rfl (Vb rfl rfl)<|Yc rfl (fun h2 => ?_) (fun h2 => ?_); refine Yf rfl<|Ym rfl<|Zx rfl<|Zm<|Yz rfl fun h3 => ?_; refine Zo<|Vn rfl<|Wo rfl (Vb rfl rfl)<|Yc rfl (fun h4 => ?_) (fun h4 => ?_); refine Yf rfl<|Ym rfl<|Zx rfl<|Zm<|Yz rfl fun h5 => ?_
        refine Zu<|Zo<|Yi rfl<|Zm<|Zy ?_; exact ⟨rfl, exq⟩; refine Zn rfl<|Vo rfl<|Zx rfl<|Zm<|Zv rfl ?_; refine Zu<|Zo<|Yi rfl<|Zm<|Zy ?_; exact ⟨rfl, exq⟩; refine Zn rfl<|Vo rfl<|Zx rfl<|Zm<|Zv rfl ?_; refine Zo<|Vn rfl<|Wo rfl (Vb rfl rfl)<|Yc rfl (fun h3 => ?_) (fun h3 => ?_); refine Yf rfl<|Ym rfl<|Zx rfl<|Zm<|Yz rfl fun h4 => ?_; refine Zu<|Zo<|Yi rfl<|Zm<|Zy ?_; exact ⟨rfl, exq⟩; refine Zn rfl<|Vo rfl<|Zx rfl<|Zm<|Zv rfl ?_; refine Zu<|Zo<|Yi rfl<|Zm<|Zy ?_; exact ⟨rfl, exq⟩; refine Zn rfl<|Zn rfl<|Vo rfl<|Zx rfl<|Zm<|Zv rfl ?_; refine Zo<|Vn rfl<|Wo rfl (Vb rfl rfl)<|Yc rfl (fun h2 => ?_) (fun h2 => ?_)
        refine Yf rfl<|Ym rfl<|Zx rfl<|Zm<|Yz rfl fun h3 => ?_; refine Zo<|Vn rfl<|Wo rfl (Vb rfl rfl)<|Yc rfl (fun h4 => ?_) (fun h4 => ?_); refine Yf rfl<|Ym rfl<|Zx rfl<|Zm<|Yz rfl fun h5 => ?_; refine Zu<|Zo<|Yi rfl<|Zm<|Zy ?_; exact ⟨rfl, E1⟩; refine Zn rfl<|Vo rfl<|Zx rfl<|Zm<|Zv rfl ?_; refine Zu<|Zo<|Yi rfl<|Zm<|Zy ?_; exact ⟨rfl, E1⟩; refine Zn rfl<|Vo rfl<|Zx rfl<|Zm<|Zv rfl ?_; refine Zo<|Vn rfl<|Wo rfl (Vb rfl rfl)<|Yc rfl (fun h3 => ?_) (fun h3 => ?_); refine Yf rfl<|Ym rfl<|Zx rfl<|Zm<|Yz rfl fun h4 => ?_; refine Zu<|Zp<|Ve<|Yi rfl<|Zm<|Zy ?_; exact ⟨rfl, E1⟩; refine Zn rfl<|Vo rfl<|Zx rfl<|Zm<|Zv rfl ?_
        refine Zu<|Zo<|Yi rfl<|Zm<|Zy ?_; exact ⟨rfl, E1⟩
    | true =>
      rw [ho] at c9
      have ea : ask2 p wd R = if wd = [104, 111, 108, 100, 115] then ynV (holdsV R p 0) else [119, 104, 97, 116] := by unfold ask2; rw [ho, hq]; simp
      rw [ea]
      focus
        refine Zo<|Yi rfl<|Zm<|Zo<|Vn rfl<|Zq rfl (Vw (a := .string _) Jm rfl) (c8 _) ?_; rintro _ w1 ⟨u1, rfl, E1, hO1⟩; refine Xj rfl<|Un u1 rfl<|Xr rfl<|Yp u1 rfl<|Zx rfl<|Zm<|Zp<|Zw<|Zp<|Ve<|Vn rfl<|Wo rfl (Vb rfl rfl)<|Yc rfl (fun h1 => ?_) (fun h1 => ?_); refine Vn rfl<|Zq rfl (Vw (a := .string _) Gw rfl) (c9 _) ?_; rintro _ w2 ⟨rfl, E2⟩; refine Ym rfl<|Zx rfl<|Zm<|Vu rfl ?_; refine Zo<|Vn rfl<|Va v rfl<|Zq rfl (Uc (a := .string _) (b := v) (c := .int _ _) Tryz.call124 rfl rfl rfl) (c10 _ _ ((Mono.mono exq h))) ?_; rintro _ w3 ⟨rfl, E3⟩; refine Zq rfl (Vw (a := .bool _) Jq rfl) (yn _ _) ?_; rintro _ w4 ⟨rfl, E4⟩; refine Yi rfl<|Zm<|Zy ?_; refine Vd (v := .string _) rfl ?_
        refine ⟨congrArg str ?_, exq⟩; rotate_left; refine Zn rfl<|Zn rfl<|Vo rfl<|Zx rfl<|Zm<|Zv rfl ?_; refine Zo<|Vn rfl<|Wo rfl (Vb rfl rfl)<|Yc rfl (fun h2 => ?_) (fun h2 => ?_); refine Yf rfl<|Ym rfl<|Zx rfl<|Zm<|Yz rfl fun h3 => ?_; refine Zo<|Vn rfl<|Wo rfl (Vb rfl rfl)<|Yc rfl (fun h4 => ?_) (fun h4 => ?_); refine Yf rfl<|Ym rfl<|Zx rfl<|Zm<|Yz rfl fun h5 => ?_; refine Zu<|Zo<|Yi rfl<|Zm<|Zy ?_; refine Vd (v := .string _) rfl ?_; refine ⟨congrArg str ?_, E1⟩; rotate_left; refine Zn rfl<|Vo rfl<|Zx rfl<|Zm<|Zv rfl ?_; refine Zu<|Zo<|Yi rfl<|Zm<|Zy ?_; refine Vd (v := .string _) rfl ?_; refine ⟨congrArg str ?_, E1⟩; rotate_left
        refine Zn rfl<|Vo rfl<|Zx rfl<|Zm<|Zv rfl ?_; refine Zo<|Vn rfl<|Wo rfl (Vb rfl rfl)<|Yc rfl (fun h3 => ?_) (fun h3 => ?_); refine Yf rfl<|Ym rfl<|Zx rfl<|Zm<|Yz rfl fun h4 => ?_; refine Zu<|Zp<|Ve<|Yi rfl<|Zm<|Zy ?_; refine Vd (v := .string _) rfl ?_; refine ⟨congrArg str ?_, E1⟩; rotate_left; refine Zn rfl<|Vo rfl<|Zx rfl<|Zm<|Zv rfl ?_; refine Zu<|Zo<|Yi rfl<|Zm<|Zy ?_; refine Vd (v := .string _) rfl ?_; refine ⟨congrArg str ?_, E1⟩; rotate_left
      all_goals first | rw [if_pos Kd] | rw [if_neg Kd]
  | some q =>
    rw [hq] at c8
    have hqp := (Rz hq).1
    have hq1 := hqp.1
    have c11 : ∀ (w : World) (v u : Value), ESl Ints w v p → ESl Ints w u q → Does Tryz.prog 67 [v, .int .i64 0, u, .int .i64 0] w (Ret w (.bool (hasV p 0 q 0))) := fun w v u h h' => spec_HasSet_ok w v u p q h h' hp hqp
    have c12 : ∀ (w : World) (v u : Value), ESl Ints w v p → ESl Ints w u q → Does Tryz.prog 121 [v, .int .i64 0, u, .int .i64 0] w (Ret w (.bool (ssetV p 0 q 0))) := fun w v u h h' => by
      have := Sb w v u p q h h' 0 0 ⟨hp, Ka⟩ ⟨hqp, Ka⟩
      rwa [show ssetV p 0 q 0 = decide (Bis p (0 : Int).toNat q (0 : Int).toNat) from decide_eq_decide.2 ⟨fun h => h.2.2, fun h => ⟨⟨hp, Ka⟩, ⟨hqp, Ka⟩, h⟩⟩]
    cases ho : okF R with
    | false =>
      rw [ho] at c9
      have ea : ask2 p wd R = if wd = [104, 97, 115] then ynV (hasV p 0 q 0) else if wd = [105, 115] then ynV (ssetV p 0 q 0) else [119, 104, 97, 116] := by unfold ask2; rw [ho, hq]; simp
      rw [ea]
      focus
        refine Zo<|Yi rfl<|Zm<|Zo<|Vn rfl<|Zq rfl (Vw (a := .string _) Jm rfl) (c8 _) ?_; rintro _ w1 ⟨u1, rfl, E1, hO1⟩; refine Xj rfl<|Un u1 rfl<|Xr rfl<|Yp u1 rfl<|Zx rfl<|Zm<|Zp<|Zw<|Zp<|Ve<|Vn rfl<|Wo rfl (Vb rfl rfl)<|Yc rfl (fun h1 => ?_) (fun h1 => ?_); refine Vn rfl<|Zq rfl (Vw (a := .string _) Gw rfl) (c9 _) ?_; rintro _ w2 ⟨rfl, E2⟩; refine Ym rfl<|Zx rfl<|Zm<|Zv rfl ?_; refine Zo<|Vn rfl<|Wo rfl (Vb rfl rfl)<|Yc rfl (fun h2 => ?_) (fun h2 => ?_); refine Yf rfl<|Ym rfl<|Zx rfl<|Zm<|Xd rfl (fun h3 => ?_) (fun h3 => ?_)
        refine Zo<|Va v rfl<|Va u1 rfl<|Zq rfl (Qy (a := v) (b := .int _ _) (c := u1) (d := .int _ _) Gi rfl rfl rfl rfl) (c11 _ _ _ ((Mono.mono exq h)) ((Mono.mono E2 (Owned.read hO1)))) ?_; rintro _ w3 ⟨rfl, E3⟩; refine Zq rfl (Vw (a := .bool _) Jq rfl) (yn _ _) ?_; rintro _ w4 ⟨rfl, E4⟩; refine Yi rfl<|Zm<|Zy ?_; refine Vd (v := .string _) rfl ?_; refine ⟨congrArg str ?_, exq⟩; rotate_left; contradiction; refine Zn rfl<|Vo rfl<|Zx rfl<|Zm<|Zv rfl ?_; refine Zo<|Vn rfl<|Wo rfl (Vb rfl rfl)<|Yc rfl (fun h3 => ?_) (fun h3 => ?_); refine Yf rfl<|Ym rfl<|Zx rfl<|Zm<|Xd rfl (fun h4 => ?_) (fun h4 => ?_)
        refine Zo<|Va v rfl<|Va u1 rfl<|Zq rfl (Qy (a := v) (b := .int _ _) (c := u1) (d := .int _ _) Gu rfl rfl rfl rfl) (c12 _ _ _ ((Mono.mono exq h)) ((Mono.mono E2 (Owned.read hO1)))) ?_; rintro _ w3 ⟨rfl, E3⟩; refine Zq rfl (Vw (a := .bool _) Jq rfl) (yn _ _) ?_; rintro _ w4 ⟨rfl, E4⟩; refine Yi rfl<|Zm<|Zy ?_; refine Vd (v := .string _) rfl ?_; refine ⟨congrArg str ?_, exq⟩; rotate_left; contradiction; refine Zn rfl<|Vo rfl<|Zx rfl<|Zm<|Zv rfl ?_; refine Zu<|Zo<|Yi rfl<|Zm<|Zy ?_; refine Vd (v := .string _) rfl ?_; refine ⟨congrArg str ?_, exq⟩; rotate_left; refine Zn rfl<|Zn rfl<|Vo rfl<|Zx rfl<|Zm<|Zv rfl ?_; refine Zo<|Vn rfl<|Wo rfl (Vb rfl rfl)<|Yc rfl (fun h2 => ?_) (fun h2 => ?_)
        refine Yf rfl<|Ym rfl<|Zx rfl<|Zm<|Xd rfl (fun h3 => ?_) (fun h3 => ?_); refine Zo<|Va v rfl<|Va u1 rfl<|Zq rfl (Qy (a := v) (b := .int _ _) (c := u1) (d := .int _ _) Gi rfl rfl rfl rfl) (c11 _ _ _ ((Mono.mono E1 h)) ((Owned.read hO1))) ?_; rintro _ w2 ⟨rfl, E2⟩; refine Zq rfl (Vw (a := .bool _) Jq rfl) (yn _ _) ?_; rintro _ w3 ⟨rfl, E3⟩; refine Yi rfl<|Zm<|Zy ?_; refine Vd (v := .string _) rfl ?_; refine ⟨congrArg str ?_, exq⟩; rotate_left; contradiction; refine Zn rfl<|Vo rfl<|Zx rfl<|Zm<|Zv rfl ?_; refine Zo<|Vn rfl<|Wo rfl (Vb rfl rfl)<|Yc rfl (fun h3 => ?_) (fun h3 => ?_); refine Yf rfl<|Ym rfl<|Zx rfl<|Zm<|Xd rfl (fun h4 => ?_) (fun h4 => ?_)
        refine Zo<|Va v rfl<|Va u1 rfl<|Zq rfl (Qy (a := v) (b := .int _ _) (c := u1) (d := .int _ _) Gu rfl rfl rfl rfl) (c12 _ _ _ ((Mono.mono E1 h)) ((Owned.read hO1))) ?_; rintro _ w2 ⟨rfl, E2⟩; refine Zq rfl (Vw (a := .bool _) Jq rfl) (yn _ _) ?_; rintro _ w3 ⟨rfl, E3⟩; refine Yi rfl<|Zm<|Zy ?_; refine Vd (v := .string _) rfl ?_; refine ⟨congrArg str ?_, exq⟩; rotate_left; contradiction; refine Zn rfl<|Vo rfl<|Zx rfl<|Zm<|Zv rfl ?_; refine Zu<|Zo<|Yi rfl<|Zm<|Zy ?_; refine Vd (v := .string _) rfl ?_; refine ⟨congrArg str ?_, E1⟩; rotate_left
      all_goals first | rw [if_pos Kd] | (rw [if_neg Kd]; first | rw [if_pos Kd] | rw [if_neg Kd])
    | true =>
      rw [ho] at c9
      have ea : ask2 p wd R = if wd = [104, 111, 108, 100, 115] then ynV (holdsV R p 0) else if wd = [104, 97, 115] then ynV (hasV p 0 q 0) else if wd = [105, 115] then ynV (ssetV p 0 q 0) else [119, 104, 97, 116] := by unfold ask2; rw [ho, hq]; simp
      rw [ea]
      focus
        refine Zo<|Yi rfl<|Zm<|Zo<|Vn rfl<|Zq rfl (Vw (a := .string _) Jm rfl) (c8 _) ?_; rintro _ w1 ⟨u1, rfl, E1, hO1⟩; refine Xj rfl<|Un u1 rfl<|Xr rfl<|Yp u1 rfl<|Zx rfl<|Zm<|Zp<|Zw<|Zp<|Ve<|Vn rfl<|Wo rfl (Vb rfl rfl)<|Yc rfl (fun h1 => ?_) (fun h1 => ?_); refine Vn rfl<|Zq rfl (Vw (a := .string _) Gw rfl) (c9 _) ?_; rintro _ w2 ⟨rfl, E2⟩; refine Ym rfl<|Zx rfl<|Zm<|Vu rfl ?_; refine Zo<|Vn rfl<|Va v rfl<|Zq rfl (Uc (a := .string _) (b := v) (c := .int _ _) Tryz.call124 rfl rfl rfl) (c10 _ _ ((Mono.mono exq h))) ?_; rintro _ w3 ⟨rfl, E3⟩; refine Zq rfl (Vw (a := .bool _) Jq rfl) (yn _ _) ?_; rintro _ w4 ⟨rfl, E4⟩; refine Yi rfl<|Zm<|Zy ?_; refine Vd (v := .string _) rfl ?_
        refine ⟨congrArg str ?_, exq⟩; rotate_left; refine Zn rfl<|Zn rfl<|Vo rfl<|Zx rfl<|Zm<|Zv rfl ?_; refine Zo<|Vn rfl<|Wo rfl (Vb rfl rfl)<|Yc rfl (fun h2 => ?_) (fun h2 => ?_); refine Yf rfl<|Ym rfl<|Zx rfl<|Zm<|Xd rfl (fun h3 => ?_) (fun h3 => ?_); refine Zo<|Va v rfl<|Va u1 rfl<|Zq rfl (Qy (a := v) (b := .int _ _) (c := u1) (d := .int _ _) Gi rfl rfl rfl rfl) (c11 _ _ _ ((Mono.mono E1 h)) ((Owned.read hO1))) ?_; rintro _ w2 ⟨rfl, E2⟩; refine Zq rfl (Vw (a := .bool _) Jq rfl) (yn _ _) ?_; rintro _ w3 ⟨rfl, E3⟩; refine Yi rfl<|Zm<|Zy ?_; refine Vd (v := .string _) rfl ?_; refine ⟨congrArg str ?_, exq⟩; rotate_left; contradiction; refine Zn rfl<|Vo rfl<|Zx rfl<|Zm<|Zv rfl ?_
        refine Zo<|Vn rfl<|Wo rfl (Vb rfl rfl)<|Yc rfl (fun h3 => ?_) (fun h3 => ?_); refine Yf rfl<|Ym rfl<|Zx rfl<|Zm<|Xd rfl (fun h4 => ?_) (fun h4 => ?_); refine Zo<|Va v rfl<|Va u1 rfl<|Zq rfl (Qy (a := v) (b := .int _ _) (c := u1) (d := .int _ _) Gu rfl rfl rfl rfl) (c12 _ _ _ ((Mono.mono E1 h)) ((Owned.read hO1))) ?_; rintro _ w2 ⟨rfl, E2⟩; refine Zq rfl (Vw (a := .bool _) Jq rfl) (yn _ _) ?_; rintro _ w3 ⟨rfl, E3⟩; refine Yi rfl<|Zm<|Zy ?_; refine Vd (v := .string _) rfl ?_; refine ⟨congrArg str ?_, exq⟩; rotate_left; contradiction; refine Zn rfl<|Vo rfl<|Zx rfl<|Zm<|Zv rfl ?_; refine Zu<|Zo<|Yi rfl<|Zm<|Zy ?_; refine Vd (v := .string _) rfl ?_; refine ⟨congrArg str ?_, E1⟩; rotate_left
      all_goals first | rw [if_pos Kd] | (rw [if_neg Kd]; first | rw [if_pos Kd] | (rw [if_neg Kd]; first | rw [if_pos Kd] | rw [if_neg Kd]))
end Go.Proofs.YtbgpppaljpngmaaGreatDoor
namespace Go.Proofs.YtbgpppaljpngmaaGreatDoor
open Go.Hs
set_option maxRecDepth 10000
set_option maxHeartbeats 4000000
set_option linter.unusedVariables false
set_option linter.unusedSimpArgs false
theorem shift_row {n : Nat} {r : List Int} {o : Nat} (j : Nat) (hj : j < r.length) (hn : o + r.length ≤ n) : (List.replicate o 0 ++ r.take j ++ List.replicate (n - o - j) 0).set (o + j) r[j] = List.replicate o 0 ++ r.take (j + 1) ++ List.replicate (n - o - (j + 1)) 0 := by
  rw [List.append_assoc, List.set_append_right _ _ Ki, List.append_assoc]
  congr 1
  rw [List.length_replicate, Nat.add_sub_cancel_left, List.set_append_right _ _ (by simp; omega)]
  rw [show j - (r.take j).length = 0 by simp; omega, show n - o - j = (n - o - (j + 1)) + 1 by omega, List.replicate_succ, List.set_cons_zero, Ye _ _ hj, List.append_assoc]
  rfl
theorem l6Put_ok (w : World) (v u vl vr : Value) (p q : List (List Int)) (L R : List Nat) (h : ESl Ints w v p) (h' : ESl Ints w u q) (hL : Ints w vl (ints L)) (hR : Ints w vr (ints R)) (hp : Pic p) (hq : Pic q ∨ q = [])
    (hl : ∀ x ∈ L, x < p.length) (hr : ∀ x ∈ R, x < q.length) (hll : L.length ≤ 1000) (hrl : R.length ≤ 1000) :
    Does Tryz.prog 176 [v, u, vl, vr] w (RetO w XR (put (bes p q) (L ++ R.map (p.length + ·)))) := by
  have hp5 := hp.2.1
  have hq5 : q.length ≤ 5 := by rcases hq with hq | rfl; exact hq.2.1; simp
  have hqrow : ∀ (k : Nat) (hk : k < q.length), q[k].length = q.length := fun k hk => by
    rcases hq with hq | rfl
    · exact hq.row hk
    · cases hk
  have hil := Yx L
  have hir := Yx R
  obtain ⟨g, hg⟩ : ∃ g, g = p.length + q.length := ⟨_, rfl⟩
  refine Vf Tryz.func176 rfl Tryz.results176 Tryz.ntmps176 rfl ?_
  have keepR : True := trivial
  focus
    refine Zo<|Yt rfl<|Zm<|Zo<|Va v rfl<|Vm Ko rfl h<|Vq rfl<|Va u rfl<|Vm Ko rfl h'<|Vq rfl<|Vg rfl<|Zm<|Zo<|Zt rfl<|Nb rfl Uv (int_z Ka rfl) Ka ?_; rintro b1 w1 hb1 b1lt E1 hO1; refine Yd (ps := [(0, .slice _ _ _)]) (cs := [_]) rfl Ko Kt Jv rfl rfl rfl rfl ?_; rintro b2 w2 hb2 E2 hB1 hHb2; refine Yt rfl<|Zm<|Zp<|Zo<|Vg rfl<|Zm<|Zw ?_
  clear keepR
  obtain ⟨N, hN⟩ : ∃ N, N = (1 + (p.length : Int) + (q.length : Int)).toNat := ⟨_, rfl⟩
  have hNg : N = g + 1 := Ka
  rw [← hN] at hO1 hHb2
  have hO0 : Owned w.heap.size XR w2 (.slice (some ⟨b2, 0, none⟩) 1 1) [ro g []] := by
    rw [ro_nil, ← hNg]
    exact Owned.single (hO1.toB.ext E2) hHb2 Ka Ka
  clear hO1 hHb2 hB1
  have hrl0 : ∀ ms, (ro g ms).length = g + 1 := fun ms => ro_len
  refine Vz [11, 28, 29, 30, 31, 32, 33, 34, 35, 36, 37, 38, 39, 40, 41, 42] (fun ((k, rows) : Nat × List (List Int)) => [(11, .int .i64 (k : Nat))]) (fun (k, rows) w' => Ext w w' ∧ k ≤ L.length ∧ Owned w.heap.size XR w' (.slice (some ⟨b2, 0, none⟩) 1 1) rows ∧ rows = [ro g (L.take k)]) (fun x => L.length - x.1) (0, [ro g []]) Kg ?_ ?_
  · exact ⟨by exact (E1.trans E2), Nat.zero_le _, hO0, rfl⟩
  clear hO0
  rintro ⟨k, rows⟩ ρj w3 ⟨E3, hk, hO0, hrw⟩
  have hlr : rows.length = 1 := by rw [hrw]; rfl
  have hr0 : rows[0]'Ka = ro g (L.take k) := by simp only [hrw, List.getElem_cons_zero]
  have hr0l : (rows[0]'Ka).length = g + 1 := by rw [hr0]; exact hrl0 _
  obtain ⟨br, cr, hRw, hbr1, hbr2⟩ := hO0.rowAt (i := 0) Ka Ka
  by_cases hlt : k < L.length
  · have hgk : (ints L)[k]'Ka = (L[k] : Int) := Xw hlt
    have hLk := hl L[k] (List.getElem_mem hlt)
    have hcell := Ny hRw
    have heldS : w = w := rfl
    focus
      refine Zp<|Zo<|Zt rfl<|Va vl rfl<|Vm Kn rfl hL<|Vl rfl<|Zm<|Zr rfl (fun h1 => ?_) (fun h1 => ?_); refine Zu<|Zp<|Zw<|Rg (fun w' => Ext w w') Xt rfl Kb ?_; intro w4 E4 K1 hz1; refine WtmS 0 rfl rfl exq<|Yn 1 rfl Kb Kb rfl (fun _ _ => Yw (k := 0) Ko Kt rfl rfl Ka) exq ?_; refine WtmV 3 vl rfl rfl exq<|WtmI 4 rfl rfl exq<|Wh_get 5 6 rfl Kb Kb rfl rfl Kb Kb (fun _ => rfl) Kn Kl Km rfl hL (fun w' hw' => Ext.trans (Ext.refl _) hw') rfl Kf exq ?_; rintro _ _ rfl; refine Yn 7 rfl Kb Kb rfl (fun _ _ => Rv rfl rfl Ka) exq ?_
      refine Wha [2]<|Wh1 rfl<|Wo rfl (Vr Kz rfl (E4.cell hcell))<|Wnx exq<|Yn 8 rfl Kb Kb rfl (fun _ _ => Uo Kn Kl rfl rfl Ka) exq ?_; refine Wha [9]<|Wh1 rfl<|Tq rfl Kl rfl rfl (hO0.toB.ext E4) (hRw.ext E4) Kf Kf ?_; rintro w5 hO0 hRw On1 K2 hz2; have E5 := On1.ext1 (E3.trans E4) Ka; refine Wnx E5<|Yg Kb ?_; refine Ve<|Zt rfl<|Vq rfl<|Vg rfl<|Zm ?_; rotate_left; (exfalso; omega)
    refine ⟨((k + 1, rows.set 0 (rows[0].set (1 + (ints L)[k]'Ka).toNat 1))), Kg, Kh, ?_, ?_⟩
    · refine ⟨by exact E5, Ka, by exact hO0, ?_⟩
      rw [row_next (Q := rows) (i := 0) (r := ro g (L.take k)) (r' := ro g (L.take (k + 1))) (by rw [hrw]; rfl) Ka ?_]
      · rw [hrw]; rfl
      · rw [hr0, show (1 + (ints L)[k]'Ka).toNat = L[k] + 1 by rw [hgk]; omega, ro_step Ka, ← Ye]
    · simp only; omega
  · obtain rfl : k = L.length := by omega
    rw [List.take_length] at hrw hr0
    clear hRw
    focus
      refine Zp<|Zo<|Zt rfl<|Va vl rfl<|Vm Kn rfl hL<|Vl rfl<|Zm<|Zs rfl fun h1 => ?_; refine Vv ?_; refine Vc ?_; refine Zp<|Zo<|Vg rfl<|Zm<|Zw ?_
    refine Vz [12, 43, 44, 45, 46, 47, 48, 49, 50, 51, 52, 53, 54, 55, 56, 57, 58, 59, 60] (fun ((k, rows) : Nat × List (List Int)) => [(12, .int .i64 (k : Nat))]) (fun (k, rows) w' => Ext w w' ∧ k ≤ R.length ∧ Owned w.heap.size XR w' (.slice (some ⟨b2, 0, none⟩) 1 1) rows ∧ rows = [ro g (L ++ (R.take k).map (p.length + ·))]) (fun x => R.length - x.1) (0, rows) Kg ?_ ?_
    · exact ⟨by exact E3, Nat.zero_le _, hO0, by rw [hrw]; simp⟩
    clear hO0 hr0 hr0l hlr hrw
    rintro ⟨k, rows⟩ ρk w4 ⟨E4, hk, hO0, hrw⟩
    have hlr : rows.length = 1 := by rw [hrw]; rfl
    have hr0 : rows[0]'Ka = ro g (L ++ (R.take k).map (p.length + ·)) := by simp only [hrw, List.getElem_cons_zero]
    have hr0l : (rows[0]'Ka).length = g + 1 := by rw [hr0]; exact hrl0 _
    obtain ⟨br, cr, hRw, hbr1, hbr2⟩ := hO0.rowAt (i := 0) Ka Ka
    by_cases hlt : k < R.length
    · have hgk : (ints R)[k]'Ka = (R[k] : Int) := Xw hlt
      have hRk := hr R[k] (List.getElem_mem hlt)
      have hcell := Ny hRw
      have heldS : w = w := rfl
      focus
        refine Zp<|Zo<|Zt rfl<|Va vr rfl<|Vm Kn rfl hR<|Vl rfl<|Zm<|Zr rfl (fun h2 => ?_) (fun h2 => ?_); refine Zu<|Zp<|Zw<|Rg (fun w' => Ext w w') Xt rfl Kb ?_; intro w5 E5 K1 hz1; refine WtmS 0 rfl rfl exq<|Yn 1 rfl Kb Kb rfl (fun _ _ => Yw (k := 0) Ko Kt rfl rfl Ka) exq ?_; refine WtmV 3 v rfl rfl exq<|Yn 4 rfl Kb Kb rfl (fun _ _ => Rr Ko rfl h) exq ?_; refine Yn 5 rfl Kb Kb rfl (fun _ _ => Rv rfl rfl Ka) exq ?_
        refine WtmV 6 vr rfl rfl exq<|WtmI 7 rfl rfl exq<|Wh_get 8 9 rfl Kb Kb rfl rfl Kb Kb (fun _ => rfl) Kn Kl Km rfl hR (fun w' hw' => Ext.trans (Ext.refl _) hw') rfl Kf exq ?_; rintro _ _ rfl; refine Yn 10 rfl Kb Kb rfl (fun _ _ => Rv rfl rfl Ka) exq ?_; refine Wha [2]<|Wh1 rfl<|Wo rfl (Vr Kz rfl (E5.cell hcell))<|Wnx exq<|Yn 11 rfl Kb Kb rfl (fun _ _ => Uo Kn Kl rfl rfl Ka) exq ?_; refine Wha [12]<|Wh1 rfl<|Tq rfl Kl rfl rfl (hO0.toB.ext E5) (hRw.ext E5) Kf Kf ?_; rintro w6 hO0 hRw On1 K2 hz2; have E6 := On1.ext1 (E4.trans E5) Ka
        refine Wnx E6<|Yg Kb ?_; refine Ve<|Zt rfl<|Vq rfl<|Vg rfl<|Zm ?_; rotate_left; (exfalso; omega)
      refine ⟨((k + 1, rows.set 0 (rows[0].set (1 + (p.length : Int) + (ints R)[k]'Ka).toNat 1))), Kg, Kh, ?_, ?_⟩
      · refine ⟨by exact E6, Ka, by exact hO0, ?_⟩
        rw [row_next (Q := rows) (i := 0) (r := ro g (L ++ (R.take k).map (p.length + ·))) (r' := ro g (L ++ (R.take (k + 1)).map (p.length + ·))) (by rw [hrw]; rfl) Ka ?_]
        · rw [hrw]; rfl
        · rw [hr0, show (1 + (p.length : Int) + (ints R)[k]'Ka).toNat = (p.length + R[k]) + 1 by rw [hgk]; omega, ro_step Ka, Ye _ _ hlt, List.map_append, List.append_assoc]
          rfl
      · simp only; omega
    · obtain rfl : k = R.length := by omega
      rw [List.take_length] at hrw hr0
      obtain ⟨ms, hms⟩ : ∃ ms, ms = L ++ R.map (p.length + ·) := ⟨_, rfl⟩
      rw [← hms] at hrw hr0 ⊢
      clear hRw
      focus
        have szE4 := E4.size; have szE3 := E3.size; have szE2 := E2.size; have szE1 := E1.size; refine Zp<|Zo<|Zt rfl<|Va vr rfl<|Vm Kn rfl hR<|Vl rfl<|Zm<|Zs rfl fun h2 => ?_; refine Vv ?_; refine Vc ?_; refine Zp<|Zo<|Vg rfl<|Zm<|Zw ?_
      refine Vz [10, 13, 14, 15, 61, 62, 63, 64, 65, 66, 67, 68, 69, 70, 71, 72, 73, 74, 75, 76, 77, 78, 79, 80, 81, 82, 83, 84, 85, 86, 87, 88, 89] (fun ((k, o) : Nat × Value) => [(13, .int .i64 (k : Nat)), (10, o)]) (fun (k, o) w' => Ext w w' ∧ k ≤ p.length ∧ Owned w.heap.size XR w' o (ro g ms :: (p.take k).map fun r => List.replicate 1 0 ++ r ++ List.replicate q.length 0)) (fun x => p.length - x.1) (0, .slice (some ⟨b2, 0, none⟩) 1 1) Kg ?_ ?_
      · exact ⟨by exact E4, Nat.zero_le _, by rw [hrw] at hO0; exact hO0⟩
      clear hO0 hr0 hr0l hlr hrw
      rintro ⟨k, o⟩ ρl w5 ⟨E5, hk, hO0⟩
      have htl : (ro g ms :: (p.take k).map fun r => List.replicate 1 0 ++ r ++ List.replicate q.length 0).length = k + 1 := by simp; omega
      by_cases hlt : k < p.length
      · have hrow := hp.row hlt
        focus
          have szE5 := E5.size; refine Zp<|Zo<|Zt rfl<|Va v rfl<|Vm Ko rfl h<|Vl rfl<|Zm<|Zr rfl (fun h3 => ?_) (fun h3 => ?_); refine Zu<|Zp<|Zw<|Zo<|Zt rfl<|Nb rfl Uv (int_z Ka rfl) Ka ?_; rintro b3 w6 hb3 b3lt E6 hO1; have hs3 := E6.size; refine Yt rfl<|Zm<|Zp<|Zo<|Vg rfl<|Zm<|Zw ?_; rotate_left; (exfalso; omega)
        have hrl3 : ∀ j, j ≤ p.length → (List.replicate 1 (0 : Int) ++ p[k].take j ++ List.replicate ((1 + (p.length : Int) + (q.length : Int)).toNat - 1 - j) 0).length = g + 1 := fun j hj => by simp; omega
        refine Vz [15, 69, 70, 71, 72, 73, 74, 75, 76, 77, 78, 79, 80, 81, 82, 83, 84, 85] (fun (j : Nat) => [(15, .int .i64 (j : Nat))]) (fun j w' => Ext w w' ∧ w5.heap.size ≤ w'.heap.size ∧ j ≤ p.length ∧ OwnedB w.heap.size w5.heap.size XR w' o (ro g ms :: (p.take k).map fun r => List.replicate 1 0 ++ r ++ List.replicate q.length 0) ∧ Owned w5.heap.size XI w' (.slice (some ⟨b3, 0, none⟩) (1 + (p.length : Int) + (q.length : Int)).toNat (1 + (p.length : Int) + (q.length : Int)).toNat) (List.replicate 1 0 ++ p[k].take j ++ List.replicate ((1 + (p.length : Int) + (q.length : Int)).toNat - 1 - j) 0)) (fun j => p.length - j) 0 Kg ?_ ?_
        · refine ⟨by exact (E5.trans E6), Ka, Nat.zero_le _, hO0.toB.ext (by exact E6), ?_⟩
          rw [show List.replicate 1 (0 : Int) ++ p[k].take 0 ++ List.replicate ((1 + (p.length : Int) + (q.length : Int)).toNat - 1 - 0) 0 = List.replicate (1 + (p.length : Int) + (q.length : Int)).toNat 0 by
            rw [List.take_zero, List.append_nil, List.replicate_append_replicate]; congr 1; omega]
          exact hO1
        clear hO0 hO1
        rintro j ρm w7 ⟨E7, hs7, hj, hO0, hO1⟩
        have hrj := hrl3 j hj
        by_cases hjl : j < p.length
        · focus
            refine Zp<|Zo<|Zt rfl<|Va v rfl<|Vm Ko rfl h<|Vl rfl<|Zm<|Zr rfl (fun h4 => ?_) (fun h4 => ?_); refine Zu<|Zp<|Zw<|Ve<|Ut rfl<|Zt rfl<|Vq rfl<|Va v rfl<|Zt rfl<|Yb Ko Kt Kz rfl (fun _ => rfl) rfl h E7 rfl Kf ?_; rintro _ u1 hu1; refine Zt rfl<|Yb Kn Kl Km rfl (fun _ => rfl) rfl hu1 E7 rfl Kf ?_; rintro _ _ rfl; refine Wo rfl (Uo Kn Kl rfl rfl Ka) ?_; refine Mc rfl Kl rfl rfl hO1.toB Kf Owned.int (Nat.le_refl _) Ka ?_; rintro w8 hO1 On1 K1 hz1; have E8 := On1.ext1 E7 Ka; have hO0 := hO0.wrote K1 Ka
            refine Zm<|Ve<|Zt rfl<|Vq rfl<|Vg rfl<|Zm ?_; rotate_left; (exfalso; omega)
          refine ⟨(j + 1), Kg, Kh, ?_, ?_⟩
          · refine ⟨by exact E8, Ka, Ka, by exact hO0, ?_⟩
            rw [← shift_row j Ka Ka]
            have e : (1 + (j : Int)).toNat = 1 + j := Ka
            rw [← e]
            assumption
          · omega
        · obtain rfl : j = p.length := by omega
          focus
            have szE7 := E7.size; have szE5 := E5.size; refine Zp<|Zo<|Zt rfl<|Va v rfl<|Vm Ko rfl h<|Vl rfl<|Zm<|Zs rfl fun h4 => ?_; refine Vv ?_; refine Vc ?_; refine Ve<|Va o rfl<|Ut rfl<|Xq (ps := [(0, .slice _ _ _)]) (cs := [_]) rfl Ko Kt Jv rfl rfl rfl rfl ?_; rintro b4 w8 hb4 E8 hB1; have hs4 := E8.size; refine Xf rfl Qz rfl rfl hB1 (hO0.ext E8) (hO1.toB.ext E8).o Ka Kf Ka Ka (E7.trans E8) Ka ?_; rintro v1 w9 hO0 E9 M1; refine Yp v1 rfl<|Zm<|Ve<|Zt rfl<|Vq rfl<|Vg rfl<|Zm ?_
          refine ⟨((k + 1, v1)), Kg, Kh, ?_, ?_⟩
          · refine ⟨by exact E9, Ka, ?_⟩
            rw [Ye _ _ hlt, List.map_append, ← List.cons_append]
            have e : List.replicate 1 (0 : Int) ++ p[k].take p.length ++ List.replicate ((1 + (p.length : Int) + (q.length : Int)).toNat - 1 - p.length) 0 = List.replicate 1 0 ++ p[k] ++ List.replicate q.length 0 := by
              rw [List.take_of_length_le Ka]; congr 2; omega
            simp only [List.map_cons, List.map_nil]
            rw [← e]
            assumption
          · simp only; omega
      · obtain rfl : k = p.length := by omega
        rw [List.take_length] at hO0 htl
        focus
          refine Zp<|Zo<|Zt rfl<|Va v rfl<|Vm Ko rfl h<|Vl rfl<|Zm<|Zs rfl fun h3 => ?_; refine Vv ?_; refine Vc ?_; refine Zp<|Zo<|Vg rfl<|Zm<|Zw ?_
        refine Vz [10, 16, 17, 18, 90, 91, 92, 93, 94, 95, 96, 97, 98, 99, 100, 101, 102, 103, 104, 105, 106, 107, 108, 109, 110, 111, 112, 113, 114, 115, 116, 117, 118, 119, 120, 121] (fun ((k, o) : Nat × Value) => [(16, .int .i64 (k : Nat)), (10, o)]) (fun (k, o) w' => Ext w w' ∧ k ≤ q.length ∧ Owned w.heap.size XR w' o ((ro g ms :: p.map fun r => List.replicate 1 0 ++ r ++ List.replicate q.length 0) ++ (q.take k).map fun r => List.replicate (1 + p.length) 0 ++ r)) (fun x => q.length - x.1) (0, o) Kg ?_ ?_
        · exact ⟨by exact E5, Nat.zero_le _, by simpa using hO0⟩
        clear hO0
        rintro ⟨k, o2⟩ ρm w6 ⟨E6, hk, hO0⟩
        have htl2 : ((ro g ms :: p.map fun r => List.replicate 1 0 ++ r ++ List.replicate q.length 0) ++ (q.take k).map fun r => List.replicate (1 + p.length) 0 ++ r).length = p.length + 1 + k := by rw [List.length_append, htl]; simp; omega
        by_cases hlt : k < q.length
        · have hrow := hqrow k hlt
          focus
            have szE6 := E6.size; refine Zp<|Zo<|Zt rfl<|Va u rfl<|Vm Ko rfl h'<|Vl rfl<|Zm<|Zr rfl (fun h4 => ?_) (fun h4 => ?_); refine Zu<|Zp<|Zw<|Zo<|Zt rfl<|Nb rfl Uv (int_z Ka rfl) Ka ?_; rintro b3 w7 hb3 b3lt E7 hO1; have hs3 := E7.size; refine Yt rfl<|Zm<|Zp<|Zp<|Ve<|Vg rfl<|Zm<|Zw ?_; rotate_left; (exfalso; omega)
          have hrl3 : ∀ j, j ≤ q.length → (List.replicate (1 + p.length) (0 : Int) ++ q[k].take j ++ List.replicate ((1 + (p.length : Int) + (q.length : Int)).toNat - (1 + p.length) - j) 0).length = g + 1 := fun j hj => by simp; omega
          refine Vz [18, 98, 99, 100, 101, 102, 103, 104, 105, 106, 107, 108, 109, 110, 111, 112, 113, 114, 115, 116, 117] (fun (j : Nat) => [(18, .int .i64 (j : Nat))]) (fun j w' => Ext w w' ∧ w6.heap.size ≤ w'.heap.size ∧ j ≤ q.length ∧ OwnedB w.heap.size w6.heap.size XR w' o2 ((ro g ms :: p.map fun r => List.replicate 1 0 ++ r ++ List.replicate q.length 0) ++ (q.take k).map fun r => List.replicate (1 + p.length) 0 ++ r) ∧ Owned w6.heap.size XI w' (.slice (some ⟨b3, 0, none⟩) (1 + (p.length : Int) + (q.length : Int)).toNat (1 + (p.length : Int) + (q.length : Int)).toNat) (List.replicate (1 + p.length) 0 ++ q[k].take j ++ List.replicate ((1 + (p.length : Int) + (q.length : Int)).toNat - (1 + p.length) - j) 0)) (fun j => q.length - j) 0 Kg ?_ ?_
          · refine ⟨by exact (E6.trans E7), Ka, Nat.zero_le _, hO0.toB.ext (by exact E7), ?_⟩
            rw [show List.replicate (1 + p.length) (0 : Int) ++ q[k].take 0 ++ List.replicate ((1 + (p.length : Int) + (q.length : Int)).toNat - (1 + p.length) - 0) 0 = List.replicate (1 + (p.length : Int) + (q.length : Int)).toNat 0 by
              rw [List.take_zero, List.append_nil, List.replicate_append_replicate]; congr 1; omega]
            exact hO1
          clear hO0 hO1
          rintro j ρn w8 ⟨E8, hs8, hj, hO0, hO1⟩
          have hrj := hrl3 j hj
          by_cases hjl : j < q.length
          · focus
              refine Zp<|Zo<|Zt rfl<|Va u rfl<|Vm Ko rfl h'<|Vl rfl<|Zm<|Zr rfl (fun h5 => ?_) (fun h5 => ?_); refine Zu<|Zp<|Zw<|Ve<|Ut rfl<|Va v rfl<|Vm Ko rfl h<|Vq rfl<|Zt rfl<|Vq rfl<|Va u rfl<|Zt rfl<|Yb Ko Kt Kz rfl (fun _ => rfl) rfl h' E8 rfl Kf ?_; rintro _ u1 hu1; refine Zt rfl<|Yb Kn Kl Km rfl (fun _ => rfl) rfl hu1 E8 rfl Kf ?_; rintro _ _ rfl; refine Wo rfl (Uo Kn Kl rfl rfl Ka) ?_; refine Mc rfl Kl rfl rfl hO1.toB Kf Owned.int (Nat.le_refl _) Ka ?_; rintro w9 hO1 On1 K1 hz1; have E9 := On1.ext1 E8 Ka
              have hO0 := hO0.wrote K1 Ka; refine Zm<|Ve<|Zt rfl<|Vq rfl<|Vg rfl<|Zm ?_; rotate_left; (exfalso; omega)
            refine ⟨(j + 1), Kg, Kh, ?_, ?_⟩
            · refine ⟨by exact E9, Ka, Ka, by exact hO0, ?_⟩
              rw [← shift_row j Ka Ka]
              have e : (1 + (p.length : Int) + (j : Int)).toNat = 1 + p.length + j := Ka
              rw [← e]
              assumption
            · omega
          · obtain rfl : j = q.length := by omega
            focus
              have szE8 := E8.size; have szE6 := E6.size; refine Zp<|Zo<|Zt rfl<|Va u rfl<|Vm Ko rfl h'<|Vl rfl<|Zm<|Zs rfl fun h5 => ?_; refine Vv ?_; refine Vc ?_; refine Ve<|Va o2 rfl<|Ut rfl<|Xq (ps := [(0, .slice _ _ _)]) (cs := [_]) rfl Ko Kt Jv rfl rfl rfl rfl ?_; rintro b4 w9 hb4 E9 hB1; have hs4 := E9.size; refine Xf rfl Qz rfl rfl hB1 (hO0.ext E9) (hO1.toB.ext E9).o Ka Kf Ka Ka (E8.trans E9) Ka ?_; rintro v1 w10 hO0 E10 M1; refine Yp v1 rfl<|Zm<|Ve<|Zt rfl<|Vq rfl<|Vg rfl<|Zm ?_
            refine ⟨((k + 1, v1)), Kg, Kh, ?_, ?_⟩
            · refine ⟨by exact E10, Ka, ?_⟩
              rw [Ye _ _ hlt, List.map_append, ← List.append_assoc]
              have e : List.replicate (1 + p.length) (0 : Int) ++ q[k].take q.length ++ List.replicate ((1 + (p.length : Int) + (q.length : Int)).toNat - (1 + p.length) - q.length) 0 = List.replicate (1 + p.length) 0 ++ q[k] := by
                rw [List.take_of_length_le Ka, show (1 + (p.length : Int) + (q.length : Int)).toNat - (1 + p.length) - q.length = 0 by omega]; simp
              simp only [List.map_cons, List.map_nil]
              rw [← e]
              assumption
            · simp only; omega
        · obtain rfl : k = q.length := by omega
          focus
            refine Zp<|Zo<|Zt rfl<|Va u rfl<|Vm Ko rfl h'<|Vl rfl<|Zm<|Zs rfl fun h4 => ?_; refine Vv ?_; refine Vc ?_; refine Zo<|Va o2 rfl<|Yp o2 rfl<|Zm<|Zy ?_; refine ⟨E6, (congrArg (Owned _ _ _ _) ?_).mp (hO0.toB.o.mono Ka)⟩
          rw [List.take_length, put_eq, bes_len, ← hg]
          unfold bes
          rw [List.map_append, List.map_map, List.map_map]
          simp only [List.cons_append, List.cons.injEq, true_and]
          congr 1
          · refine List.map_congr_left fun r _ => ?_
            simp [Nat.add_comm 1, List.replicate_succ]
end Go.Proofs.YtbgpppaljpngmaaGreatDoor
namespace Go.Proofs.YtbgpppaljpngmaaGreatDoor
open Go.Hs
set_option maxRecDepth 10000
set_option maxHeartbeats 4000000
set_option linter.unusedVariables false
set_option linter.unusedSimpArgs false
theorem l6Least_ok (w : World) (v : Value) (p : List (List Int)) (h : ESl Ints w v p) (hp : Gr p) :
    Does Tryz.prog 175 [v] w (RetOB w XR (if (lst p 0).length ≤ 5 then lst p 0 else []) (decide ((lst p 0).length ≤ 5))) := by
  have hp5 := hp.2.1
  have hp1 := hp.1
  have hkl := Ss (p := p)
  have k1 : ∀ w, Does Tryz.prog 202 [.int .i64 (p.length : Int)] w (RetO w XR (matV p (bsm p 0))) := fun w => by
    have := l3Start_ok w p.length hp5
    rwa [matV_zero] at this
  have k2 : ∀ (n : Nat) (w : World) (v v' : Value), ESl Ints w v p → ESl Ints w v' (matV p (bsm p n)) → Does Tryz.prog 203 [v, v'] w (RetO w XR (matV p (bsm p (n + 1)))) := fun n w v v' h h' => l3Round_ok w v v' p h hp _ h'
  refine Xl Tryz.func175 rfl Tryz.results175 Tryz.ntmps175 rfl ?_
  focus
    refine Zo<|Yt rfl<|Zx rfl<|Zm<|Zo<|Va v rfl<|Vm Ko rfl h<|Zq rfl (Vw (a := .int _ _) Tryz.call202 rfl) (k1 _) ?_; rintro u1 w1 ⟨E1, hO1⟩; refine Yp u1 rfl<|Zm<|Zp<|Zo<|Vg rfl<|Zm<|Zw ?_
  refine Vz [4, 5, 17, 18, 19, 20, 21, 22, 23, 24, 25] (fun ((n, u) : Nat × Value) => [(5, .int .i64 (n : Nat)), (4, u)]) (fun (n, u) w' => Ext w w' ∧ n ≤ p.length ∧ Owned w.heap.size XR w' u (matV p (bsm p n))) (fun x => p.length - x.1) (0, u1) Kg ?_ ?_
  · exact ⟨by exact E1, Nat.zero_le _, hO1⟩
  clear hO1
  rintro ⟨n, um⟩ ρj w2 ⟨E2, hn, hO1⟩
  have k2n := k2 n
  by_cases hnl : n < p.length
  · focus
      have szE2 := E2.size; refine Zp<|Zo<|Zt rfl<|Va v rfl<|Vm Ko rfl h<|Vl rfl<|Zm<|Zr rfl (fun h1 => ?_) (fun h1 => ?_); refine Zu<|Zp<|Zw<|Ve<|Va v rfl<|Va um rfl<|Zq rfl (Yh (a := v) (b := um) Tryz.call203 rfl rfl) (k2n _ _ _ ((Mono.mono E2 h)) ((Owned.read hO1))) ?_; rintro u2 w3 ⟨E3, hO2⟩; refine Yp u2 rfl<|Zm<|Ve<|Zt rfl<|Vq rfl<|Vg rfl<|Zm ?_; rotate_left; (exfalso; omega)
    refine ⟨((n + 1, u2)), Kg, Kh, ?_, ?_⟩
    · exact ⟨by exact exq, Ka, hO2.mono Ka⟩
    · simp only; omega
  · obtain rfl : n = p.length := by omega
    clear k1 k2 k2n
    have hml := Uz (p := p) (bsm p p.length)
    have rM := hO1.read
    clear hO1
    focus
      have szE2 := E2.size; refine Zp<|Zo<|Zt rfl<|Va v rfl<|Vm Ko rfl h<|Vl rfl<|Zm<|Zs rfl fun h1 => ?_; refine Vv ?_; refine Vc ?_; refine Zp<|Ve<|Xa XInt rfl Uv Kl ?_; rintro b1 w3 hb1 b1lt E3 hO1; refine Yt rfl<|Zm<|Zp<|Zp<|Ve<|Vg rfl<|Zm<|Zw ?_
    refine Vz [6, 7, 8, 27, 28, 29, 30, 31, 32, 33, 34, 35, 36, 37, 38, 39, 40, 41, 42, 43, 44, 45, 46, 47, 48, 49, 50] (fun ((k, u) : Nat × Value) => [(7, .int .i64 (k : Nat)), (6, u)]) (fun (k, u) w' => Ext w2 w' ∧ k ≤ p.length ∧ Owned w2.heap.size XI w' u ((ints (kndL p)).take k)) (fun x => p.length - x.1) (0, .slice (some ⟨b1, 0, none⟩) 0 0) Kg ?_ ?_
    · exact ⟨by exact E3, Nat.zero_le _, by simpa using hO1⟩
    clear hO1
    rintro ⟨k, uk⟩ ρk w4 ⟨E4, hk, hO1⟩
    have htl : ((ints (kndL p)).take k).length = k := by simp; omega
    by_cases hlt : k < p.length
    · obtain ⟨g1, g2, g3⟩ := Th hlt
      focus
        have szE4 := E4.size; refine Zp<|Zo<|Zt rfl<|Va v rfl<|Vm Ko rfl h<|Vl rfl<|Zm<|Zr rfl (fun h2 => ?_) (fun h2 => ?_); refine Zu<|Zp<|Zw<|Zo<|Vg rfl<|Zm<|Zw ?_; rotate_left; (exfalso; omega)
      refine Vz [6, 8, 33, 34, 35, 36, 37, 38, 39, 40, 41, 42, 43, 44, 45, 46, 47, 48, 49, 50] (fun (j : Nat) => [(8, .int .i64 (j : Nat)), (6, uk)]) (fun j w' => w' = w4 ∧ j ≤ knd p k) (fun j => p.length - j) 0 Kg ?_ ?_
      · exact ⟨rfl, Nat.zero_le _⟩
      rintro j ρl w5 ⟨rfl, hj⟩
      have hmr := Qv (p := p) (S := bsm p p.length) hlt
      have hma := Sd (p := p) (S := bsm p p.length) (a := k) (b := j) hlt Ka
      rcases Nat.lt_or_ge j (knd p k) with hjl | hjl
      · have h0 : ((matV p (bsm p p.length))[k]'Ka)[j]'Ka = 0 := by rw [hma, show bsm p p.length k j = false from g3 j hjl]; rfl
        focus
          refine Zp<|Zo<|Zt rfl<|Va v rfl<|Vm Ko rfl h<|Vl rfl<|Zm<|Zr rfl (fun h3 => ?_) (fun h3 => ?_); refine Zu<|Zp<|Zw<|Zo<|Va um rfl<|Zt rfl<|Yb Ko Kt Kz rfl (fun _ => rfl) rfl rM E4 rfl Kf ?_; rintro _ u2 hu1; refine Zt rfl<|Yb Kn Kl Km rfl (fun _ => rfl) rfl hu1 E4 rfl Kf ?_; rintro _ _ rfl; refine Vi rfl<|Zm<|Zs rfl fun h4 => ?_; refine Zu<|Ve<|Zt rfl<|Vq rfl<|Vg rfl<|Zm ?_; rotate_left; (exfalso; omega)
        refine ⟨(j + 1), Kg, Kh, ?_, ?_⟩
        · exact ⟨rfl, Ka⟩
        · omega
      · obtain rfl : j = knd p k := by omega
        have h1 : ((matV p (bsm p p.length))[k]'Ka)[knd p k]'Ka = 1 := by rw [hma, show bsm p p.length k (knd p k) = true from g2]; rfl
        focus
          have szE4 := E4.size; have szE2 := E2.size; refine Zp<|Zo<|Zt rfl<|Va v rfl<|Vm Ko rfl h<|Vl rfl<|Zm<|Zr rfl (fun h3 => ?_) (fun h3 => ?_); refine Zu<|Zp<|Zw<|Zo<|Va um rfl<|Zt rfl<|Yb Ko Kt Kz rfl (fun _ => rfl) rfl rM E4 rfl Kf ?_; rintro _ u2 hu1; refine Zt rfl<|Yb Kn Kl Km rfl (fun _ => rfl) rfl hu1 E4 rfl Kf ?_; rintro _ _ rfl; refine Vi rfl<|Zm<|Zr rfl (fun h4 => ?_) (fun h4 => ?_); refine Zo<|Va uk rfl<|Zt rfl<|Yd (ps := [(0, .int _ _)]) (cs := [_]) rfl Kn Kl Jf rfl rfl rfl rfl ?_; rintro b2 w4 hb2 E5 hB1 hHb2; have hs3 := E5.size
          refine Xf rfl Uv rfl rfl hB1 (hO1.toB.ext E5) Owned.int (Nat.le_refl _) Kf Ka Ka ((E2.trans E4).trans E5) Ka ?_; have hT1 := (hO1.toB.ext E5); rintro v1 w6 hO1 E6 M1; have E7 := M1.ext hT1 (E4.trans E5) Ka; refine Yp v1 rfl<|Zm<|Vv ?_; refine exitX_other rfl ?_; refine Vc ?_; refine Ve<|Zt rfl<|Vq rfl<|Vg rfl<|Zm ?_; rotate_left; contradiction; (exfalso; omega)
        refine ⟨((k + 1, v1)), Kg, Kh, ?_, ?_⟩
        · refine ⟨by exact E7, Ka, ?_⟩
          rw [Ye _ _ Ka, Rb]
          exact hO1
        · simp only; omega
    · obtain rfl : k = p.length := by omega
      rw [List.take_of_length_le Ka] at hO1
      have rK := hO1.read
      clear hO1
      focus
        have szE4 := E4.size; refine Zp<|Zo<|Zt rfl<|Va v rfl<|Vm Ko rfl h<|Vl rfl<|Zm<|Vj rfl fun h2 => ?_; refine Vv ?_; refine Vc ?_; refine Zo<|Yd (ps := [(0, .int _ _)]) (cs := [_]) rfl Kn Kl Jf rfl rfl rfl rfl ?_; rintro b2 w5 hb2 E5 hB1 hHb2; refine Yt rfl<|Zm<|Zp<|Zo<|Vg rfl<|Zm<|Zw ?_
      have hO2 : Owned w4.heap.size XI w5 (.slice (some ⟨b2, 0, none⟩) 1 1) (ints [0]) := Owned.block hHb2 hb2 rfl Kc ⟨⟨rfl, rfl⟩, trivial⟩
      clear hHb2 hB1
      refine Vz [9, 10, 11, 12, 13, 52, 53, 54, 55, 56, 57, 58, 59, 60, 61, 62, 63, 64, 65, 66, 67, 68, 69, 70, 71, 72, 73, 74, 75, 76, 77, 78, 79, 80, 81, 82, 83, 84, 85, 86, 87, 88, 89, 90, 91, 92, 93, 94, 95, 96, 97, 98, 99, 100] (fun ((t, u, L) : Nat × Value × List Nat) => [(10, .int .i64 (t : Nat)), (9, u)]) (fun (t, u, L) w' => Ext w4 w' ∧ Owned w4.heap.size XI w' u (ints L) ∧ Wlk p L ∧ t ≤ L.length ∧ ∀ x ∈ L.take t, ∀ j ∈ arr p x, knd p j ∈ L.map (knd p)) (fun x => p.length - x.1) (0, .slice (some ⟨b2, 0, none⟩) 1 1, [0]) Kg ?_ ?_
      · exact ⟨by exact E5, hO2, Wlk.zero, Nat.zero_le _, Ki⟩
      clear hO2
      rintro ⟨t, u, L⟩ ρl w6 ⟨E6, hO2, hW, ht, hcl⟩
      have hLl := hW.len hp
      have hLil := Yx L
      by_cases htl : t < L.length
      · obtain ⟨X, hX⟩ : ∃ X, X = L[t] := ⟨_, rfl⟩
        have hXl : X < p.length := hX ▸ hW.lt hp (List.getElem_mem htl)
        have hrow := hp.row hXl
        focus
          refine Zp<|Zo<|Zt rfl<|Va u rfl<|Vm Kn rfl (Owned.read hO2)<|Vl rfl<|Zm<|Zr rfl (fun h3 => ?_) (fun h3 => ?_); refine Zu<|Zp<|Zw<|Zo<|Vg rfl<|Zm<|Zw ?_; rotate_left; (exfalso; omega)
        refine Vz [9, 11, 12, 13, 58, 59, 60, 61, 62, 63, 64, 65, 66, 67, 68, 69, 70, 71, 72, 73, 74, 75, 76, 77, 78, 79, 80, 81, 82, 83, 84, 85, 86, 87, 88, 89, 90, 91, 92, 93, 94, 95, 96, 97, 98, 99, 100] (fun ((j, u, L') : Nat × Value × List Nat) => [(11, .int .i64 (j : Nat)), (9, u)]) (fun (j, u, L') w' => Ext w4 w' ∧ j ≤ p.length ∧ Owned w4.heap.size XI w' u (ints L') ∧ Wlk p L' ∧ (∃ e, L' = L ++ e) ∧ ∀ j' ∈ arr p X, j' < j → knd p j' ∈ L'.map (knd p)) (fun x => p.length - x.1) (0, u, L) Kg ?_ ?_
        · exact ⟨by exact E6, Nat.zero_le _, hO2, hW, ⟨[], Ki⟩, fun j' _ h => Ka⟩
        clear hO2
        rintro ⟨j, u', L'⟩ ρm w7 ⟨E7, hj, hO2, hW', ⟨e, he⟩, hcl'⟩
        have hLl' := hW'.len hp
        have hLil' := Yx L'
        have htl' : t < L'.length := by rw [he]; simp; omega
        have hXt : L'[t] = X := by simp only [he]; rw [List.getElem_append_left htl, hX]
        have hXm : X ∈ L' := hXt ▸ List.getElem_mem htl'
        have hgt : (ints L')[t]'Ka = (X : Int) := by rw [Xw htl', hXt]
        by_cases hjl : j < p.length
        · have hgX : (p[((ints L')[t]'Ka).toNat]'(by rw [hgt]; omega)) = p[X] := by simp only [hgt, Int.toNat_natCast]
          have hgXl : (p[((ints L')[t]'Ka).toNat]'(by rw [hgt]; omega)).length = p.length := by rw [hgX]; exact hrow
          have hgXj : (p[((ints L')[t]'Ka).toNat]'(by rw [hgt]; omega))[j]'Ka = p[X][j] := by simp only [hgt, Int.toNat_natCast]
          have harX : j ∈ arr p X ↔ p[X][j] = 1 := by
            rw [Um hp hXl]; unfold bit; rw [Vy hXl, Vy (show j < p[X].length by omega)]
            exact ⟨fun h => h.2, fun h => ⟨hjl, h⟩⟩
          focus
            have szE7 := E7.size; refine Zp<|Zo<|Zt rfl<|Va v rfl<|Vm Ko rfl h<|Vl rfl<|Zm<|Zr rfl (fun h4 => ?_) (fun h4 => ?_); refine Zu<|Zp<|Zw<|Zo<|Va v rfl<|Va u' rfl<|Zt rfl<|Yb Kn Kl Km rfl (fun _ => rfl) rfl (Owned.read hO2) (Ext.refl _) rfl Kf ?_; rintro _ _ rfl; refine Qn Ko Kt Kz rfl (fun _ => rfl) rfl h exq rfl Kf ?_; rintro _ u2 hu1; refine Zt rfl<|Yb Kn Kl Km rfl (fun _ => rfl) rfl hu1 exq rfl Kf ?_; rintro _ _ rfl; refine Vi rfl<|Zx rfl<|Zm<|Zp<|Zo<|Vg rfl<|Zm<|Zw ?_; rotate_left; (exfalso; omega)
          refine Vz [12, 13, 75, 76, 77, 78, 79, 80, 81, 82, 83, 84, 85, 86, 87, 88, 89, 90, 91, 92, 93, 94, 95] (fun ((m, f) : Nat × Bool) => [(13, .int .i64 (m : Nat)), (12, .bool f)]) (fun (m, f) w' => Ext w7 w' ∧ m ≤ L'.length ∧ (f = true ↔ j ∈ arr p X ∧ knd p j ∉ (L'.take m).map (knd p))) (fun x => L'.length - x.1) (0, decide ((p[((ints L')[t]'Ka).toNat]'(by rw [hgt]; omega))[j]'Ka = 1)) Kg ?_ ?_
          · refine ⟨Ext.refl _, Nat.zero_le _, ?_⟩
            rw [decide_eq_true_iff, hgXj, harX]; simp
          rintro ⟨m, f⟩ ρn w9 ⟨E9, hm, hf⟩
          by_cases hml2 : m < L'.length
          · have hLm := hW'.lt hp (List.getElem_mem hml2)
            have hgm : (ints L')[m]'Ka = (L'[m] : Int) := Xw hml2
            have hkm : (ints (kndL p))[((ints L')[m]'Ka).toNat]'(by rw [hgm, hkl]; omega) = (knd p L'[m] : Int) := by
              simp only [hgm, Int.toNat_natCast]; exact Rb _
            have hkj : (ints (kndL p))[j]'Ka = (knd p j : Int) := Rb _
            have hts := Ye _ _ hml2
            have bm : ((ints L')[m]'Ka).toNat < (ints (kndL p)).length := by rw [hkl, hgm]; omega
            cases f
            · focus
                refine Zp<|Zo<|Zt rfl<|Va u' rfl<|Vm Kn rfl (Owned.read hO2)<|Vl rfl<|Zm<|Zr rfl (fun h5 => ?_) (fun h5 => ?_); refine Zu<|Zp<|Zw<|Xx Xt Kb rfl ?_; refine Rt rfl<|Rt rfl<|Zz rfl<|Zz rfl<|Zz rfl<|Zz rfl<|Zz rfl<|Zz rfl<|Zz rfl<|Zz rfl<|Zz rfl<|Zz rfl<|Zz rfl<|Zz rfl<|Ra rfl<|Tl rfl<|Xu (fun w8 E8 => ?_); refine Ve<|Zt rfl<|Vq rfl<|Vg rfl<|Zm ?_; rotate_left; (exfalso; omega)
              refine ⟨((m + 1, false)), Kg, Kh, ?_, ?_⟩
              · refine ⟨by exact exq, Ka, ⟨fun h => (by cases h), fun h => ?_⟩⟩
                rw [hts, List.map_append, List.mem_append, not_or] at h
                exact absurd (hf.2 ⟨h.1, h.2.1⟩) Ki
              · simp only; omega
            · focus
                refine Zp<|Zo<|Zt rfl<|Va u' rfl<|Vm Kn rfl (Owned.read hO2)<|Vl rfl<|Zm<|Zr rfl (fun h5 => ?_) (fun h5 => ?_); refine Zu<|Zp<|Zw<|Xx Xt Kb rfl ?_; refine Rt rfl<|Rt rfl<|Qm uk rfl<|Qm u' rfl<|Rq rfl<|Xp Kn Kl Km rfl (fun _ => rfl) rfl (Owned.read hO2) E9 rfl Kf ?_; rintro _ _ rfl; refine Tc Kn Kl Km rfl (fun _ => rfl) rfl rK exq rfl Kf ?_; rintro _ _ rfl; refine Qm uk rfl<|Rq rfl<|Xp Kn Kl Km rfl (fun _ => rfl) rfl rK exq rfl Kf ?_; rintro _ _ rfl; refine Wqneq rfl<|Nn rfl<|Tl rfl<|Xu (fun w8 E8 => ?_)
                refine Ve<|Zt rfl<|Vq rfl<|Vg rfl<|Zm ?_; rotate_left; (exfalso; omega)
              refine ⟨((m + 1, !decide ((ints (kndL p))[((ints L')[m]'Ka).toNat]'bm = (ints (kndL p))[j]'Ka))), Kg, Kh, ?_, ?_⟩
              · refine ⟨by exact exq, Ka, ?_⟩
                rw [hkm, hkj, hts, List.map_append, List.mem_append, not_or]
                have hf' := hf.1 rfl
                simp only [List.map_cons, List.map_nil, List.mem_singleton, Bool.not_eq_true', decide_eq_false_iff_not]
                constructor
                · intro h; exact ⟨hf'.1, hf'.2, fun e => h (by rw [e])⟩
                · intro h e; exact h.2.2 Ka
              · simp only; omega
          · obtain rfl : m = L'.length := by omega
            rw [List.take_length] at hf
            cases f
            · focus
                refine Zp<|Zo<|Zt rfl<|Va u' rfl<|Vm Kn rfl (Owned.read hO2)<|Vl rfl<|Zm<|Zs rfl fun h5 => ?_; refine Vv ?_; refine Vc ?_; refine Zo<|Yf rfl<|Zm<|Zv rfl ?_; refine Zu<|Ve<|Zt rfl<|Vq rfl<|Vg rfl<|Zm ?_
              refine ⟨((j + 1, u', L')), Kg, Kh, ?_, ?_⟩
              · refine ⟨by exact exq, Ka, by exact (Mono.mono E9 hO2), hW', ⟨e, he⟩, fun j' h1 h2 => ?_⟩
                rcases Nat.lt_or_ge j' j with h3 | h3
                · exact hcl' j' h1 h3
                · obtain rfl : j' = j := by omega
                  exact Classical.byContradiction fun h => absurd (hf.2 ⟨h1, h⟩) Ki
              · simp only; omega
            · obtain ⟨hf1, hf2⟩ := hf.1 rfl
              focus
                have szE9 := E9.size; have szE7 := E7.size; refine Zp<|Zo<|Zt rfl<|Va u' rfl<|Vm Kn rfl (Owned.read hO2)<|Vl rfl<|Zm<|Zs rfl fun h5 => ?_; refine Vv ?_; refine Vc ?_; refine Zo<|Yf rfl<|Zm<|Vu rfl ?_; refine Ve<|Va u' rfl<|Zt rfl<|Yd (ps := [(0, .int _ _)]) (cs := [_]) rfl Kn Kl Jf rfl rfl rfl rfl ?_; rintro b3 w8 hb3 E8 hB1 hHb3; have hs4 := E8.size; refine Xf rfl Uv rfl rfl hB1 (hO2.toB.ext (E9.trans E8)) Owned.int (Nat.le_refl _) Kf Ka Ka ((((E2.trans E4).trans E7).trans E9).trans E8) Ka ?_; have hT1 := (hO2.toB.ext (E9.trans E8)); rintro v1 w10 hO2 E10 M1; have E12 := M1.ext hT1 ((E7.trans E9).trans E8) Ka; have hB1 := hB1.moves M1 hT1 Ka
                refine Yp v1 rfl<|Zm<|Ve<|Zt rfl<|Vq rfl<|Vg rfl<|Zm ?_
              refine ⟨((j + 1, v1, L' ++ [j])), Kg, Kh, ?_, ?_⟩
              · refine ⟨by exact E12, Ka, ?_, hW'.step hXm hf1 hf2, ⟨e ++ [j], by rw [he, List.append_assoc]⟩, fun j' h1 h2 => ?_⟩
                · rw [ints_append]; assumption
                · rw [List.map_append, List.mem_append]
                  rcases Nat.lt_or_ge j' j with h3 | h3
                  · exact .inl (hcl' j' h1 h3)
                  · obtain rfl : j' = j := by omega
                    exact .inr Ki
              · simp only; omega
        · obtain rfl : j = p.length := by omega
          focus
            refine Zp<|Zo<|Zt rfl<|Va v rfl<|Vm Ko rfl h<|Vl rfl<|Zm<|Vj rfl fun h4 => ?_; refine Vv ?_; refine Vc ?_; refine Ve<|Zt rfl<|Vq rfl<|Vg rfl<|Zm ?_
          refine ⟨((t + 1, u', L')), Kg, Kh, ?_, ?_⟩
          · refine ⟨by exact E7, by exact hO2, hW', Ka, fun x hx j' hj' => ?_⟩
            rw [Ye _ _ htl'] at hx
            rcases List.mem_append.1 hx with hx | hx
            · have hx2 : x ∈ L.take t := by rw [he, List.take_append_of_le_length Ka] at hx; exact hx
              have := hcl x hx2 j' hj'
              rw [he, List.map_append]
              exact List.mem_append_left _ this
            · rw [List.mem_singleton.1 hx, hXt] at hj'
              exact hcl' j' hj' (Xv hp hXl hj')
          · simp only; omega
      · obtain rfl : t = L.length := by omega
        rw [List.take_length] at hcl
        have hKds := hW.kds hp hcl
        have hLlt : ∀ x ∈ L, x < p.length := fun x hx => hW.lt hp hx
        have hC : Cand p 0 (qp p (L.map (knd p))) := ⟨_, hKds, rfl⟩
        have hcl2 : (qp p (L.map (knd p))).length = L.length := by rw [qp_len, List.length_map]
        have hll := lst_len hp hp1 hC
        rw [hcl2] at hll
        by_cases h5 : L.length ≤ 5
        · have h5' : (lst p 0).length ≤ 5 := by omega
          have hPc := hC.pic hp hp1 Ka
          have k4 : ∀ (w : World) (v u t : Value), ESl Ints w v p → Ints w u (ints (kndL p)) → Ints w t (ints L) → Does Tryz.prog 195 [v, u, t] w (RetO w XR (qp p (L.map (knd p)))) := fun w v u t h1 h2 h3 => by
            rw [← ptV_qp hp hLlt]
            refine l4Part_ok w v u t p _ _ h1 h2 h3 hp hkl (fun x hx => ?_) (by rw [Yx]; omega)
            obtain ⟨y, hy, rfl⟩ := List.mem_map.1 hx
            have := hLlt y hy
            omega
          have k5 : ∀ (w : World) (v : Value), ESl Ints w v (qp p (L.map (knd p))) → Does Tryz.prog 126 [v, .int .i64 0] w (RetO w XR (lst p 0)) := fun w v h => by
            have := St w v _ h 0
            rw [if_pos ⟨hPc, Kc, by have := hPc.1; omega⟩] at this
            rw [(lst_same hp (hC.gr hp hp1) hp1 hPc.1).2 (hC.bis hp hp1)]
            exact this
          rw [if_pos h5', decide_eq_true h5']
          focus
            have szE6 := E6.size; refine Zp<|Zo<|Zt rfl<|Va u rfl<|Vm Kn rfl (Owned.read hO2)<|Vl rfl<|Zm<|Zs rfl fun h3 => ?_; refine Vv ?_; refine Vc ?_; refine Zp<|Zo<|Va u rfl<|Vm Kn rfl (Owned.read hO2)<|Qo rfl<|Zm<|Zs rfl fun h4 => ?_; refine Zu<|Zp<|Ve<|Va v rfl<|Va uk rfl<|Va u rfl<|Zq rfl (Uc (a := v) (b := uk) (c := u) Tryz.call195 rfl rfl rfl) (k4 _ _ _ _ ((Mono.mono exq h)) ((Mono.mono E6 rK)) ((Owned.read hO2))) ?_; rintro u2 w7 ⟨E7, hO1⟩; have hs4 := E7.size; refine Zq rfl (Yh (a := u2) (b := .int _ _) Za rfl rfl) (k5 _ _ ((Owned.read hO1))) ?_; rintro u3 w8 ⟨E8, hO3⟩; refine Yp u3 rfl<|Zx rfl<|Zm<|Zy ?_; refine Vd (v := .tuple #[u3, .bool _]) rfl ?_; exact ⟨_, rfl, exq, hO3.toB.o.mono Ka⟩
        · have h5' : ¬ (lst p 0).length ≤ 5 := by omega
          rw [if_neg h5', decide_eq_false h5']
          focus
            have szE6 := E6.size; refine Zp<|Zo<|Zt rfl<|Va u rfl<|Vm Kn rfl (Owned.read hO2)<|Vl rfl<|Zm<|Zs rfl fun h3 => ?_; refine Vv ?_; refine Vc ?_; refine Zp<|Zo<|Va u rfl<|Vm Kn rfl (Owned.read hO2)<|Qo rfl<|Zm<|Zr rfl (fun h4 => ?_) (fun h4 => ?_); refine Zo<|Xa (XSl 3 XInt) rfl Qz Kt ?_; rintro b3 w7 hb3 b3lt E7 hO1; refine Yt rfl<|Zx rfl<|Zm<|Zy ?_; refine Vd (v := .tuple #[.slice _ _ _, .bool _]) rfl ?_; exact ⟨_, rfl, exq, hO1.toB.o.mono Ka⟩; (exfalso; omega)
end Go.Proofs.YtbgpppaljpngmaaGreatDoor
namespace Go.Proofs.YtbgpppaljpngmaaGreatDoor
open Go.Hs
set_option maxRecDepth 10000
set_option maxHeartbeats 4000000
set_option linter.unusedVariables false
set_option linter.unusedSimpArgs false
theorem l6Least_put (w : World) (v : Value) (g : List (List Int)) (ms : List Nat) (h : ESl Ints w v (put g ms)) (hg : Gr g) (hn : g.length ≤ 10) :
    Does Tryz.prog 175 [v] w (RetOB w XR (og (putV g ms)) (putV g ms).isSome) := by
  rw [putV_og, putV_is]
  exact l6Least_ok w v _ h (put_gr hg hn)
theorem PairOf_ok (w : World) (v u : Value) (p q : List (List Int)) (h : ESl Ints w v p) (h' : ESl Ints w u q) (a b : Nat) (ha : Nod p a) (hb : Nod q b) : Does Tryz.prog 141 [v, .int .i64 (a : Int), u, .int .i64 (b : Int)] w (RetOB w XR (og (pairV p a q b)) (pairV p a q b).isSome) := by
  have la : a < p.length := by have := ha.2; omega
  have lb : b < q.length := by have := hb.2; omega
  have hle := h.le
  have hle' := h'.le
  have hG := ha.1.bes5 hb.1
  have n1 : ∀ (w : World) (v : Value), ESl Ints w v p → Does Tryz.prog 118 [v, .int .i64 (a : Int)] w (Ret w (.bool true)) := fun w v h => by
    have := Qr w v p h (a : Int); rwa [decide_eq_true ha] at this
  have n2 : ∀ (w : World) (v : Value), ESl Ints w v q → Does Tryz.prog 118 [v, .int .i64 (b : Int)] w (Ret w (.bool true)) := fun w v h => by
    have := Qr w v q h (b : Int); rwa [decide_eq_true hb] at this
  have k1 : ∀ (w : World) (v u vl vr : Value), ESl Ints w v p → ESl Ints w u q → Ints w vl [(a : Int)] → Ints w vr [(b : Int)] → Does Tryz.prog 176 [v, u, vl, vr] w (RetO w XR (put (bes p q) [a, p.length + b])) := fun w v u vl vr h1 h2 h3 h4 =>
    l6Put_ok w v u vl vr p q [a] [b] h1 h2 h3 h4 ha.1 (.inl hb.1) (fun x hx => by rw [List.mem_singleton.1 hx]; exact la) (fun x hx => by rw [List.mem_singleton.1 hx]; exact lb) Ki Ki
  have k2 : ∀ (w : World) (v : Value), ESl Ints w v (put (bes p q) [a, p.length + b]) → Does Tryz.prog 175 [v] w (RetOB w XR (og (pairV p a q b)) (pairV p a q b).isSome) := fun w v h => l6Least_put w v _ _ h hG.1 hG.2
  refine Xl Tryz.func141 rfl Tryz.results141 Tryz.ntmps141 rfl ?_
  have litown : True := trivial
  focus
    refine Zo<|Yt rfl<|Zx rfl<|Zm<|Zp<|Zo<|Va v rfl<|Zt rfl<|Zq rfl (Yh (a := v) (b := .int _ _) Ga rfl rfl) (n1 _ _ (h)) ?_; rintro _ w1 ⟨rfl, E1⟩; have hs1 := E1.size; refine Yl rfl<|Yo rfl (Vp (v := .bool _) rfl) (fun h1 => ?_) (fun h1 => ?_); contradiction; refine Va u rfl<|Zt rfl<|Zq rfl (Yh (a := u) (b := .int _ _) Ga rfl rfl) (n2 _ _ ((Mono.mono E1 h'))) ?_; rintro _ w2 ⟨rfl, E2⟩; have hs2 := E2.size; refine Yl rfl<|Vo rfl<|Zm<|Yz rfl fun h2 => ?_; refine Zu<|Zo<|Va v rfl<|Va u rfl<|Zt rfl<|Yd (ps := [(0, .int _ _)]) (cs := [_]) rfl Kn Kl Jf rfl rfl rfl rfl ?_; rintro b1 w3 hb1 E3 hB1 hHb1; have hlb1 := hB1.lt; have hLb1 := own_lit1 hHb1 hb1; clear hHb1; have hs3 := E3.size
    refine Zt rfl<|Yd (ps := [(0, .int _ _)]) (cs := [_]) rfl Kn Kl Jf rfl rfl rfl rfl ?_; rintro b2 w4 hb2 E4 hB2 hHb2; have hlb2 := hB2.lt; have hLb2 := own_lit1 hHb2 hb2; clear hHb2; have hs4 := E4.size; refine Zq rfl (Qy (a := v) (b := u) (c := .slice _ _ _) (d := .slice _ _ _) Tryz.call176 rfl rfl rfl rfl) (k1 _ _ _ _ _ ((Mono.mono exq h)) ((Mono.mono exq h')) ((Mono.mono E4 (Owned.read hLb1))) ((Owned.read hLb2))) ?_; rintro u1 w5 ⟨E5, hO1⟩; have ichO1 := OwnedB.isC (Owned.toB hO1); have hs5 := E5.size; refine Zq rfl (Vw (a := u1) Tryz.call175 rfl) (k2 _ _ ((Owned.read hO1))) ?_; rintro _ w6 ⟨u2, rfl, E6, hO2⟩; have ichO2 := OwnedB.isC (Owned.toB hO2); have hs6 := E6.size; refine Un u2 rfl<|Xr rfl<|Yp u2 rfl<|Zx rfl<|Zm<|Zy ?_; refine Vd (v := .tuple #[u2, .bool _]) rfl ?_
    exact ⟨_, rfl, exq, hO2.toB.o.mono Ka⟩
theorem TogetherOf_ok (w : World) (v u : Value) (p q : List (List Int)) (h : ESl Ints w v p) (h' : ESl Ints w u q) (a b : Nat) (ha : Nod p a) (hb : Nod q b) : Does Tryz.prog 142 [v, .int .i64 (a : Int), u, .int .i64 (b : Int)] w (RetOB w XR (og (togV p a q b)) (togV p a q b).isSome) := by
  have la : a < p.length := by have := ha.2; omega
  have lb : b < q.length := by have := hb.2; omega
  have hle := h.le
  have hle' := h'.le
  have hG := ha.1.bes5 hb.1
  have n1 : ∀ (w : World) (v : Value), ESl Ints w v p → Does Tryz.prog 118 [v, .int .i64 (a : Int)] w (Ret w (.bool true)) := fun w v h => by
    have := Qr w v p h (a : Int); rwa [decide_eq_true ha] at this
  have n2 : ∀ (w : World) (v : Value), ESl Ints w v q → Does Tryz.prog 118 [v, .int .i64 (b : Int)] w (Ret w (.bool true)) := fun w v h => by
    have := Qr w v q h (b : Int); rwa [decide_eq_true hb] at this
  have c1 : ∀ (w : World) (v : Value), ESl Ints w v p → Does Tryz.prog 119 [v, .int .i64 (a : Int)] w (RetO w XI (ints (arr p a))) := fun w v h => Td w v p h ha.1.gr a la
  have c2 : ∀ (w : World) (v : Value), ESl Ints w v q → Does Tryz.prog 119 [v, .int .i64 (b : Int)] w (RetO w XI (ints (arr q b))) := fun w v h => Td w v q h hb.1.gr b lb
  have k1 : ∀ (w : World) (v u vl vr : Value), ESl Ints w v p → ESl Ints w u q → Ints w vl (ints (arr p a)) → Ints w vr (ints (arr q b)) → Does Tryz.prog 176 [v, u, vl, vr] w (RetO w XR (put (bes p q) (arr p a ++ (arr q b).map (p.length + ·)))) := fun w v u vl vr h1 h2 h3 h4 =>
    l6Put_ok w v u vl vr p q _ _ h1 h2 h3 h4 ha.1 (.inl hb.1) (fun x hx => Xv ha.1.gr la hx) (fun x hx => Xv hb.1.gr lb hx) (by have := Ma ha.1.gr la; have := ha.1.2.1; omega) (by have := Ma hb.1.gr lb; have := hb.1.2.1; omega)
  have k2 : ∀ (w : World) (v : Value), ESl Ints w v (put (bes p q) (arr p a ++ (arr q b).map (p.length + ·))) → Does Tryz.prog 175 [v] w (RetOB w XR (og (togV p a q b)) (togV p a q b).isSome) := fun w v h => by
    rw [togV_eq ha.1.gr hb.1.gr la lb]
    exact l6Least_put w v _ _ h hG.1 hG.2
  refine Xl Tryz.func142 rfl Tryz.results142 Tryz.ntmps142 rfl ?_
  focus
    refine Zo<|Yt rfl<|Zx rfl<|Zm<|Zp<|Zo<|Va v rfl<|Zt rfl<|Zq rfl (Yh (a := v) (b := .int _ _) Ga rfl rfl) (n1 _ _ (h)) ?_; rintro _ w1 ⟨rfl, E1⟩; have hs1 := E1.size; refine Yl rfl<|Yo rfl (Vp (v := .bool _) rfl) (fun h1 => ?_) (fun h1 => ?_); contradiction; refine Va u rfl<|Zt rfl<|Zq rfl (Yh (a := u) (b := .int _ _) Ga rfl rfl) (n2 _ _ ((Mono.mono E1 h'))) ?_; rintro _ w2 ⟨rfl, E2⟩; have hs2 := E2.size; refine Yl rfl<|Vo rfl<|Zm<|Yz rfl fun h2 => ?_; refine Zu<|Zo<|Va v rfl<|Va u rfl<|Va v rfl<|Zt rfl<|Zq rfl (Yh (a := v) (b := .int _ _) Zc rfl rfl) (c1 _ _ ((Mono.mono exq h))) ?_; rintro u1 w3 ⟨E3, hO1⟩; have hs3 := E3.size
    refine Va u rfl<|Zt rfl<|Zq rfl (Yh (a := u) (b := .int _ _) Zc rfl rfl) (c2 _ _ ((Mono.mono exq h'))) ?_; rintro u2 w4 ⟨E4, hO2⟩; have hs4 := E4.size; refine Zq rfl (Qy (a := v) (b := u) (c := u1) (d := u2) Tryz.call176 rfl rfl rfl rfl) (k1 _ _ _ _ _ ((Mono.mono exq h)) ((Mono.mono exq h')) ((Mono.mono E4 (Owned.read hO1))) ((Owned.read hO2))) ?_; rintro u3 w5 ⟨E5, hO3⟩; have hs5 := E5.size; refine Zq rfl (Vw (a := u3) Tryz.call175 rfl) (k2 _ _ ((Owned.read hO3))) ?_; rintro _ w6 ⟨u4, rfl, E6, hO4⟩; have hs6 := E6.size; refine Un u4 rfl<|Xr rfl<|Yp u4 rfl<|Zx rfl<|Zm<|Zy ?_; refine Vd (v := .tuple #[u4, .bool _]) rfl ?_; exact ⟨_, rfl, exq, hO4.toB.o.mono Ka⟩
open Classical in
theorem WithoutSet_ok (w : World) (v u : Value) (p q : List (List Int)) (h : ESl Ints w v p) (h' : ESl Ints w u q) (a b : Nat) (ha : Nod p a) (hb : Nod q b) : Does Tryz.prog 143 [v, .int .i64 (a : Int), u, .int .i64 (b : Int)] w (RetOB w XR (og (wosV p a q b)) (wosV p a q b).isSome) := by
  have la : a < p.length := by have := ha.2; omega
  have lb : b < q.length := by have := hb.2; omega
  have hle := h.le
  have hle' := h'.le
  have n1 : ∀ (w : World) (v : Value), ESl Ints w v p → Does Tryz.prog 118 [v, .int .i64 (a : Int)] w (Ret w (.bool true)) := fun w v h => by
    have := Qr w v p h (a : Int); rwa [decide_eq_true ha] at this
  have n2 : ∀ (w : World) (v : Value), ESl Ints w v q → Does Tryz.prog 118 [v, .int .i64 (b : Int)] w (Ret w (.bool true)) := fun w v h => by
    have := Qr w v q h (b : Int); rwa [decide_eq_true hb] at this
  have c1 : ∀ (w : World) (v : Value), ESl Ints w v p → Does Tryz.prog 119 [v, .int .i64 (a : Int)] w (RetO w XI (ints (arr p a))) := fun w v h => Td w v p h ha.1.gr a la
  have hal := Ma ha.1.gr la
  have hail := Yx (arr p a)
  have hp5 := ha.1.2.1
  refine Xl Tryz.func143 rfl Tryz.results143 Tryz.ntmps143 rfl ?_
  focus
    refine Zo<|Yt rfl<|Zx rfl<|Zm<|Zp<|Zo<|Va v rfl<|Zt rfl<|Zq rfl (Yh (a := v) (b := .int _ _) Ga rfl rfl) (n1 _ _ (h)) ?_; rintro _ w1 ⟨rfl, E1⟩; have hs1 := E1.size; refine Yl rfl<|Yo rfl (Vp (v := .bool _) rfl) (fun h1 => ?_) (fun h1 => ?_); contradiction; refine Va u rfl<|Zt rfl<|Zq rfl (Yh (a := u) (b := .int _ _) Ga rfl rfl) (n2 _ _ ((Mono.mono E1 h'))) ?_; rintro _ w2 ⟨rfl, E2⟩; have hs2 := E2.size; refine Yl rfl<|Vo rfl<|Zm<|Yz rfl fun h2 => ?_; refine Zu<|Zo<|Xa XInt rfl Uv Kl ?_; rintro b1 w3 hb1 b1lt E3 hO1; have hs3 := E3.size; refine Yt rfl<|Zm<|Zo<|Va v rfl<|Zt rfl<|Zq rfl (Yh (a := v) (b := .int _ _) Zc rfl rfl) (c1 _ _ ((Mono.mono exq h))) ?_; rintro u1 w4 ⟨E4, hO2⟩; have hs4 := E4.size
    refine Yp u1 rfl<|Zm<|Zp<|Zo<|Vg rfl<|Zm<|Zw ?_
  have hO3 : Owned w.heap.size XI w4 (.slice (some ⟨b1, 0, none⟩) 0 0) (ints []) := (hO1.ext E4).mono Ka
  have hBe : Besides (Value.ownBlock (.slice (some ⟨b1, 0, none⟩) 0 0)) Ints w4 u1 (ints (arr p a)) := Besides.start hO1 hO2.above
  clear hO1 hO2
  have E0 : Ext w w4 := by exact (((E1.trans E2).trans E3).trans E4)
  refine Vz [10, 12, 28, 29, 30, 31, 32, 33, 34, 35, 36, 37, 38, 39, 40, 41, 42, 43, 44, 45, 46, 47, 48, 49] (fun ((k, u, L) : Nat × Value × List Nat) => [(12, .int .i64 (k : Nat)), (10, u)]) (fun (k, u, L) w' => Ext w w' ∧ k ≤ (arr p a).length ∧ Owned w.heap.size XI w' u (ints L) ∧ Besides u.ownBlock Ints w' u1 (ints (arr p a)) ∧ L = ((arr p a).take k).filter fun v => !decide (Bis p v q b)) (fun x => (arr p a).length - x.1) (0, .slice (some ⟨b1, 0, none⟩) 0 0, []) Kg ?_ ?_
  · exact ⟨by exact E0, Nat.zero_le _, hO3, hBe, Ki⟩
  clear hO3 hBe
  rintro ⟨k, uk, L⟩ ρj w5 ⟨E5, hk, hO3, hBe, hL⟩
  have hLle : L.length ≤ (arr p a).length := by rw [hL]; exact Nat.le_trans (List.length_filter_le _ _) (by rw [List.length_take]; omega)
  have hLil := Yx L
  by_cases hkl : k < (arr p a).length
  · have hm := Xv ha.1.gr la (List.getElem_mem hkl)
    have hgk : (ints (arr p a))[k]'Ka = ((arr p a)[k] : Int) := Xw hkl
    have hts := Ye _ _ hkl
    have hnk : Nod p ((arr p a)[k] : Nat) := ⟨ha.1, Ka, Ka⟩
    by_cases hB : Bis p (arr p a)[k] q b
    · have k3 : ∀ (w : World) (v u : Value), ESl Ints w v p → ESl Ints w u q → Does Tryz.prog 121 [v, .int .i64 ((ints (arr p a))[k]'Ka), u, .int .i64 (b : Int)] w (Ret w (.bool true)) := fun w v u h1 h2 => by
        have := Sb w v u p q h1 h2 (((arr p a)[k] : Nat) : Int) (b : Int) hnk hb
        rw [hgk]; simp only [Int.toNat_natCast] at this
        rwa [decide_eq_true hB] at this
      focus
        have szE5 := E5.size; have szE0 := E0.size; have szE4 := E4.size; have szE3 := E3.size; have szE2 := E2.size; have szE1 := E1.size; refine Zp<|Zo<|Zt rfl<|Va u1 rfl<|Vm Kn rfl (Besides.here hBe)<|Vl rfl<|Zm<|Zr rfl (fun h3 => ?_) (fun h3 => ?_); refine Zu<|Zp<|Zw<|Zo<|Va v rfl<|Va u1 rfl<|Zt rfl<|Yb Kn Kl Km rfl (fun _ => rfl) rfl (Besides.here hBe) (Ext.refl _) rfl Kf ?_; rintro _ _ rfl; refine Va u rfl<|Zt rfl<|Zq rfl (Qy (a := v) (b := .int _ _) (c := u) (d := .int _ _) Gu rfl rfl rfl rfl) (k3 _ _ _ ((Mono.mono E5 h)) ((Mono.mono E5 h'))) ?_; rintro _ w6 ⟨rfl, E6⟩; have hs5 := E6.size; refine Yl rfl<|Zm<|Yz rfl fun h4 => ?_
        refine Zu<|Ve<|Zt rfl<|Vq rfl<|Vg rfl<|Zm ?_; rotate_left; (exfalso; omega)
      refine ⟨((k + 1, uk, L)), Kg, Kh, ?_, ?_⟩
      · refine ⟨by exact (E5.trans E6), Ka, by exact (Mono.mono E6 hO3), by exact (hBe.ext E6), ?_⟩
        rw [hL, hts, List.filter_append]; simp [hB]
      · simp only; omega
    · have k3 : ∀ (w : World) (v u : Value), ESl Ints w v p → ESl Ints w u q → Does Tryz.prog 121 [v, .int .i64 ((ints (arr p a))[k]'Ka), u, .int .i64 (b : Int)] w (Ret w (.bool false)) := fun w v u h1 h2 => by
        have := Sb w v u p q h1 h2 (((arr p a)[k] : Nat) : Int) (b : Int) hnk hb
        rw [hgk]; simp only [Int.toNat_natCast] at this
        rwa [decide_eq_false hB] at this
      focus
        have szE5 := E5.size; have szE0 := E0.size; have szE4 := E4.size; have szE3 := E3.size; have szE2 := E2.size; have szE1 := E1.size; refine Zp<|Zo<|Zt rfl<|Va u1 rfl<|Vm Kn rfl (Besides.here hBe)<|Vl rfl<|Zm<|Zr rfl (fun h3 => ?_) (fun h3 => ?_); refine Zu<|Zp<|Zw<|Zo<|Va v rfl<|Va u1 rfl<|Zt rfl<|Yb Kn Kl Km rfl (fun _ => rfl) rfl (Besides.here hBe) (Ext.refl _) rfl Kf ?_; rintro _ _ rfl; refine Va u rfl<|Zt rfl<|Zq rfl (Qy (a := v) (b := .int _ _) (c := u) (d := .int _ _) Gu rfl rfl rfl rfl) (k3 _ _ _ ((Mono.mono E5 h)) ((Mono.mono E5 h'))) ?_; rintro _ w6 ⟨rfl, E6⟩; have hs5 := E6.size; refine Yl rfl<|Zm<|Xd rfl (fun h4 => ?_) (fun h4 => ?_)
        refine Ve<|Va uk rfl<|Va u1 rfl<|Zt rfl<|Yb Kn Kl Km rfl (fun _ => rfl) rfl (Besides.here hBe) E6 rfl Kf ?_; rintro _ _ rfl; refine Yd (ps := [(0, .int _ _)]) (cs := [_]) rfl Kn Kl Jf rfl rfl rfl rfl ?_; rintro b2 w7 hb2 E7 hB1 hHb2; have hlb2 := hB1.lt; have hs6 := E7.size; refine Xf rfl Uv rfl rfl hB1 (hO3.toB.ext (E6.trans E7)) Owned.int (Nat.le_refl _) Kf Ka Ka ((E5.trans E6).trans E7) Ka ?_; have hT1 := (hO3.toB.ext (E6.trans E7)); rintro v1 w8 hO3 E8 M1; have hBe := (hBe.ext exq).moves M1; have hB1 := hB1.moves M1 hT1 Ka; have hs7 := E8.size; refine Yp v1 rfl<|Zm<|Ve<|Zt rfl<|Vq rfl<|Vg rfl<|Zm ?_; rotate_left; contradiction; (exfalso; omega)
      refine ⟨((k + 1, v1, L ++ [(arr p a)[k]])), Kg, Kh, ?_, ?_⟩
      · refine ⟨by exact E8, Ka, ?_, by exact hBe, ?_⟩
        · rw [ints_append, show ints [(arr p a)[k]] = [(ints (arr p a))[k]'Ka] by rw [hgk]; rfl]
          assumption
        · rw [hL, hts, List.filter_append]; simp [hB]
      · simp only; omega
  · obtain rfl : k = (arr p a).length := by omega
    rw [List.take_length] at hL
    have hLm : ∀ x ∈ L, x < p.length := fun x hx => Xv ha.1.gr la (List.mem_filter.1 (hL ▸ hx)).1
    have rL := hO3.read
    have rA := hBe.here
    clear hO3 hBe
    have hpp := ha.1.gr
    have k1 : ∀ (w : World) (v u vl vr : Value), ESl Ints w v p → ESl Ints w u [] → Ints w vl (ints L) → Ints w vr [] → Does Tryz.prog 176 [v, u, vl, vr] w (RetO w XR (put (bes p []) (L ++ ([] : List Nat).map (p.length + ·)))) := fun w v u vl vr h1 h2 h3 h4 =>
      l6Put_ok w v u vl vr p [] _ [] h1 h2 h3 h4 ha.1 (.inr rfl) hLm (fun x hx => by cases hx) Ka Ki
    have k2 : ∀ (w : World) (v : Value), ESl Ints w v (put (bes p []) (L ++ ([] : List Nat).map (p.length + ·))) → Does Tryz.prog 175 [v] w (RetOB w XR (og (wosV p a q b)) (wosV p a q b).isSome) := fun w v h => by
      rw [wosV_eq, ← hL]
      exact l6Least_put w v _ _ h (by rw [bes_nil]; exact hpp) (by rw [bes_nil]; omega)
    focus
      have szE5 := E5.size; have szE0 := E0.size; have szE4 := E4.size; have szE3 := E3.size; have szE2 := E2.size; have szE1 := E1.size; refine Zp<|Zo<|Zt rfl<|Va u1 rfl<|Vm Kn rfl rA<|Vl rfl<|Zm<|Zs rfl fun h3 => ?_; refine Vv ?_; refine Vc ?_; refine Zo<|Va v rfl<|Xa (XSl 3 XInt) rfl Qz Kt ?_; rintro b2 w6 hb2 b2lt E6 hO1; have hs5 := E6.size; refine Va uk rfl<|Xa XInt rfl Uv Kl ?_; rintro b3 w7 hb3 b3lt E7 hO2; have hs6 := E7.size; refine Zq rfl (Qy (a := v) (b := .slice _ _ _) (c := uk) (d := .slice _ _ _) Tryz.call176 rfl rfl rfl rfl) (k1 _ _ _ _ _ ((Mono.mono exq h)) ((Mono.mono E7 (Owned.read hO1))) ((Mono.mono exq rL)) ((Owned.read hO2))) ?_; rintro u2 w8 ⟨E8, hO3⟩; have hs7 := E8.size
      refine Zq rfl (Vw (a := u2) Tryz.call175 rfl) (k2 _ _ ((Owned.read hO3))) ?_; rintro _ w9 ⟨u3, rfl, E9, hO4⟩; have hs8 := E9.size; refine Un u3 rfl<|Xr rfl<|Yp u3 rfl<|Zx rfl<|Zm<|Zy ?_; refine Vd (v := .tuple #[u3, .bool _]) rfl ?_; exact ⟨_, rfl, exq, hO4.toB.o.mono Ka⟩
end Go.Proofs.YtbgpppaljpngmaaGreatDoor
namespace Go.Proofs.YtbgpppaljpngmaaGreatDoor
open Go.Hs
set_option maxRecDepth 10000
set_option maxHeartbeats 4000000
set_option linter.unusedVariables false
set_option linter.unusedSimpArgs false
theorem l11Rows_ok (w : World) (v : Value) (p : List (List Int)) (h : ESl Ints w v p) (hp : p.length ≤ 100) (hr : ∀ r ∈ p, r.length ≤ 100) : Does Tryz.prog 113 [v] w (RetO w XR p) := by
  refine Vf Tryz.func113 rfl Tryz.results113 Tryz.ntmps113 rfl ?_
  focus
    refine Zo<|Yt rfl<|Zm<|Zo<|Xa (XSl 3 XInt) rfl Qz Kt ?_; rintro b1 w1 hb1 b1lt E1 hO1; refine Yt rfl<|Zm<|Zp<|Zo<|Vg rfl<|Zm<|Zw ?_
  refine Vz [3, 4, 6, 7, 8, 9, 10, 11, 12, 13, 14, 15, 16, 17, 18, 19, 20] (fun ((k, u) : Nat × Value) => [(4, .int .i64 (k : Nat)), (3, u)]) (fun (k, u) w' => Ext w w' ∧ k ≤ p.length ∧ Owned w.heap.size XR w' u (p.take k)) (fun x => p.length - x.1) (0, .slice (some ⟨b1, 0, none⟩) 0 0) Kg ?_ ?_
  · exact ⟨by exact E1, Nat.zero_le _, by simpa using hO1⟩
  clear hO1
  rintro ⟨k, u⟩ ρj w2 ⟨E2, hk, hO1⟩
  have hlt' : (p.take k).length = k := by simp; omega
  by_cases hlt : k < p.length
  · have hrl := hr _ (List.getElem_mem hlt)
    have heldS : w = w := rfl
    focus
      have szE2 := E2.size; refine Zp<|Zo<|Zt rfl<|Va v rfl<|Vm Ko rfl h<|Vl rfl<|Zm<|Zr rfl (fun h1 => ?_) (fun h1 => ?_); refine Zu<|Zp<|Zw<|Ve<|Va u rfl<|Xa XInt rfl Uv Kl ?_; rintro b2 w3 hb2 b2lt E3 hO2; have hs2 := E3.size; refine Va v rfl<|Zt rfl<|Yb Ko Kt Kz rfl (fun _ => rfl) rfl h exq rfl Kf ?_; rintro _ u1 hu1; refine Wo_appS rfl Uv rfl rfl (Mono.mono (E2.trans E3) hu1) hO2.toB Kf Ka Ka (E2.trans E3) Ka ?_; have hT1 := hO2.toB; rintro v1 w4 hO2 E4 M1; have hO1 := (hO1.toB.ext E3).moves M1 hT1 Ka; have szM1 := M1.1.size; refine Xy rfl Ko Kt Jv rfl (OwnedB.isC hO2.toB) rfl ?_
      rintro b3 w5 hb3 E6 hB1 hHb3; have hs4 := E6.size; refine Xf rfl Qz rfl rfl hB1 (hO1.ext E6) (hO2.toB.ext E6).o Ka Kf Ka Ka (E4.trans E6) Ka ?_; rintro v2 w6 hO1 E7 M2; refine Yp v2 rfl<|Zm<|Ve<|Zt rfl<|Vq rfl<|Vg rfl<|Zm ?_; rotate_left; (exfalso; omega)
    refine ⟨((k + 1, v2)), Kg, Kh, ?_, ?_⟩
    · refine ⟨by exact E7, Ka, ?_⟩
      rw [Ye _ _ hlt]
      exact hO1
    · simp only; omega
  · obtain rfl : k = p.length := by omega
    rw [List.take_length] at hO1
    focus
      refine Zp<|Zo<|Zt rfl<|Va v rfl<|Vm Ko rfl h<|Vl rfl<|Zm<|Zs rfl fun h1 => ?_; refine Vv ?_; refine Vc ?_; refine Zp<|Ve<|Va u rfl<|Yp u rfl<|Zm<|Zy ?_; exact ⟨E2, hO1.toB.o.mono Ka⟩
theorem l11Copy_ok (w : World) (u1 u2 : Value) (now : List (List Int)) (past : List (List (List Int))) (h1 : ESl Ints w u1 now) (h2 : ESl (ESl Ints) w u2 past) (hn : now.length ≤ 100 ∧ ∀ r ∈ now, r.length ≤ 100) (hpl : past.length ≤ 100) (hp : ∀ p ∈ past, p.length ≤ 100 ∧ ∀ r ∈ p, r.length ≤ 100) :
    Does Tryz.prog 60 [.agg #[u1, u2]] w (RetDk w 23 88 3 now past) := by
  have k1 : ∀ (w : World) (v : Value), ESl Ints w v now → Does Tryz.prog 113 [v] w (RetO w XR now) := fun w v h => l11Rows_ok w v now h hn.1 hn.2
  have k2 : ∀ (k : Nat) (hk : k < past.length) (w : World) (v : Value), ESl Ints w v past[k] → Does Tryz.prog 113 [v] w (RetO w XR past[k]) := fun k hk w v h => l11Rows_ok w v _ h (hp _ (List.getElem_mem hk)).1 (hp _ (List.getElem_mem hk)).2
  refine fn_of_Wc Tryz.func60 rfl Tryz.results60 Tryz.ntmps60 rfl Ks Kp ?_
  focus
    refine Zo<|Yk rfl rfl rfl ?_; rintro b1 w1 hb1 E1 hB1; have hlb1 := hB1.lt; refine Ys rfl Xi ?_; rintro b2 w2 hb2 E2 hB2; have hlb2 := hB2.lt; have hs2 := E2.size; refine Zm<|Zo<|Vk Ky Ja rfl<|Yr u1 Ku (hB1.ext E2) rfl<|Zq rfl (Vw (a := u1) Tryz.call113 rfl) (k1 _ _ ((Mono.mono exq h1))) ?_; rintro u3 w3 ⟨E3, hO1⟩; have ichO1 := OwnedB.isC (Owned.toB hO1); have hs3 := E3.size; refine Wo rfl (opv_buildF0 Xi rfl (OwnedB.isC hO1.toB))<|Ys rfl Xi ?_; rintro b3 w4 hb3 E4 hB3; have hlb3 := hB3.lt; have hs4 := E4.size; refine Xk rfl Kp rfl rfl Ke Ke hB3 Ka (((E1.trans E2).trans E3).trans E4) ?_; rintro w5 E5 hB3 K1 hz1; have E6 := ((E2.trans E3).trans E4).wroteAt exq E5 K1 hz1 Ka; have szE6 := E6.size
    have E7 := (E3.trans E4).wroteAt exq E5 K1 hz1 Ka; have szE7 := E7.size; have E8 := E4.wroteAt exq E5 K1 hz1 Ka; simp only [List.set] at hB3; have hB1 := (hB1.ext exq).of_heap (K1 _ Ka); have hB2 := (hB2.ext exq).of_heap (K1 _ Ka); have hO1 := (hO1.toB.ext E4).wrote K1 Ka; refine Zm<|Zp<|Zo<|Vg rfl<|Zm<|Zw ?_
  have hO0 : Owned w4.heap.size (XSl 23 XR) w5 (.slice none 0 0) ([] : List (List (List Int))) := Owned.nil
  have hN := hO1
  clear hO1 hB1 hB2 k1
  refine Vz [4, 9, 10, 11, 12, 13, 14, 15, 16, 17, 18, 19, 20, 21, 22, 23, 24, 25, 26] (fun ((k, u) : Nat × Value) => [(4, .int .i64 (k : Nat))]) (fun (k, u) w' => Ext w3 w' ∧ k ≤ past.length ∧ w4.heap.size ≤ w'.heap.size ∧ Blk w' b3 [u3, u] ∧ Owned w4.heap.size (XSl 23 XR) w' u (past.take k) ∧ OwnedB w2.heap.size w3.heap.size XR w' u3 now) (fun x => past.length - x.1) (0, .slice none 0 0) Kg ?_ ?_
  · exact ⟨by exact E8, Nat.zero_le _, Ka, hB3, by simpa using hO0, hN⟩
  clear hO0 hB3 hN
  rintro ⟨k, u⟩ ρj w6 ⟨E6, hk, hsz, hB4, hO1, hN⟩
  have icu : isCell u = true := OwnedB.isC hO1.toB
  have hlt' : (past.take k).length = k := by simp; omega
  by_cases hlt : k < past.length
  · have k2k := k2 k hlt
    have ht := Ye _ _ hlt
    have heldS : w = w := rfl
    focus
      have szE5 := E5.size; have szE4 := E4.size; refine Zp<|Zp<|Ve<|Zt rfl<|Vk Ky Jb rfl<|Yr u2 Je (hB1.ext exq) rfl<|Vm Jc rfl h2<|Vl rfl<|Zm<|Zr rfl (fun h3 => ?_) (fun h3 => ?_); refine Zu<|Zp<|Zw<|Rg (fun w' => Ext w w') Xt rfl Kb ?_; intro w7 E9 K2 hz2; have hs5 := E9.size; refine Sq 0 Ky Jb rfl rfl exq<|Sq 2 Ky Jb rfl rfl exq<|WtmI 4 rfl rfl exq<|Wha [1, 3]<|Vs rfl ?_ ?_
      refine Yr u Je (hB4.ext E9) rfl<|Wnx exq<|Wha [3]<|Wh1 rfl<|Yr u2 Je (hB1.ext exq) rfl<|Wnx exq<|Wh_get 5 6 rfl Kb Kb rfl rfl Kb Kb (fun _ => rfl) Jc Ja Ku rfl h2 (fun w' hw' => Ext.trans (Ext.refl _) hw') rfl Kf exq ?_; rintro _ u4 hu1; refine Wha [7]<|Wh1 rfl<|Zq rfl (Vw (a := u4) Tryz.call113 rfl) (k2k _ _ ((Mono.mono exq hu1))) ?_; rintro u5 w8 ⟨E10, hO2⟩; have hs6 := E10.size; refine Wnx exq<|Wha [8]<|Wh1 rfl<|Xy rfl Jc Ja Gc rfl (OwnedB.isC hO2.toB) rfl ?_; rintro b4 w9 hb4 E11 hB5 hHb4; have hlb4 := hB5.lt; have hs7 := E11.size
      refine Wnx exq<|Wha [9]<|Wh1 rfl<|Xf rfl el24 rfl rfl hB5 (hO1.toB.ext ((E9.trans E10).trans E11)) (hO2.toB.ext E11).o Ka Kf Ka Ka ((((((E1.trans E2).trans E3).trans E6).trans E9).trans E10).trans E11) Ka ?_; have hT1 := (hO1.toB.ext ((E9.trans E10).trans E11)); rintro v1 w10 hO1 E12 M1; have E15 := M1.ext hT1 (((E6.trans E9).trans E10).trans E11) Ka; have hB4 := (hB4.ext exq).moves M1 hT1 Ka; have hN := (hN.ext exq).moves M1 hT1 Ka; have szM1 := M1.1.size; refine Wnx E12<|Sq 10 Ky Jb rfl rfl E12<|Wha [11]<|Wh1 rfl<|Xh (v := v1) rfl Jb rfl rfl (OwnedB.isC hO1.toB) hB4 Ki Ka E12 ?_; rintro w11 E16 hB4 K3 hz3; have E19 := E15.wroteAt E12 E16 K3 hz3 Ka; simp only [List.set] at hB4
      have hO1 := hO1.toB.wrote K3 Ka; have hN := hN.wrote K3 Ka; refine Wnx E16<|Yg Kb ?_; refine Ve<|Zt rfl<|Vq rfl<|Vg rfl<|Zm ?_; rotate_left; refine Wh1 rfl<|Yr u2 Je (hB1.ext exq) rfl<|Wnx exq<|Wh_get 5 6 rfl Kb Kb rfl rfl Kb Kb (fun _ => rfl) Jc Ja Ku rfl h2 (fun w' hw' => Ext.trans (Ext.refl _) hw') rfl Kf exq ?_; rintro _ u4 hu1; refine Wha [1, 7]<|Vs rfl ?_ ?_; refine Yr u Je (hB4.ext E9) rfl<|Wnx exq<|Wha [7]<|Wh1 rfl<|Zq rfl (Vw (a := u4) Tryz.call113 rfl) (k2k _ _ ((Mono.mono exq hu1))) ?_; rintro u5 w8 ⟨E10, hO2⟩; have hs6 := E10.size
      refine Wnx exq<|Wha [8]<|Wh1 rfl<|Xy rfl Jc Ja Gc rfl (OwnedB.isC hO2.toB) rfl ?_; rintro b4 w9 hb4 E11 hB5 hHb4; have hlb4 := hB5.lt; have hs7 := E11.size; refine Wnx exq<|Wha [9]<|Wh1 rfl<|Xf rfl el24 rfl rfl hB5 (hO1.toB.ext ((E9.trans E10).trans E11)) (hO2.toB.ext E11).o Ka Kf Ka Ka ((((((E1.trans E2).trans E3).trans E6).trans E9).trans E10).trans E11) Ka ?_; have hT1 := (hO1.toB.ext ((E9.trans E10).trans E11)); rintro v1 w10 hO1 E12 M1; have E15 := M1.ext hT1 (((E6.trans E9).trans E10).trans E11) Ka; have hB4 := (hB4.ext exq).moves M1 hT1 Ka; have hN := (hN.ext exq).moves M1 hT1 Ka; have szM1 := M1.1.size
      refine Wnx E12<|Sq 10 Ky Jb rfl rfl E12<|Wha [11]<|Wh1 rfl<|Xh (v := v1) rfl Jb rfl rfl (OwnedB.isC hO1.toB) hB4 Ki Ka E12 ?_; rintro w11 E16 hB4 K3 hz3; have E19 := E15.wroteAt E12 E16 K3 hz3 Ka; simp only [List.set] at hB4; have hO1 := hO1.toB.wrote K3 Ka; have hN := hN.wrote K3 Ka; refine Wnx E16<|Yg Kb ?_; refine Ve<|Zt rfl<|Vq rfl<|Vg rfl<|Zm ?_; rotate_left; refine Wh1 rfl<|Zq rfl (Vw (a := u4) Tryz.call113 rfl) (k2k _ _ ((Mono.mono exq hu1))) ?_; rintro u5 w8 ⟨E10, hO2⟩; have hs6 := E10.size; refine Wnx exq<|Wha [1, 8]<|Vs rfl ?_ ?_; refine Yr u Je (hB4.ext exq) rfl<|Wnx exq<|Wha [8]<|Wh1 rfl<|Xy rfl Jc Ja Gc rfl (OwnedB.isC hO2.toB) rfl ?_
      rintro b4 w9 hb4 E11 hB5 hHb4; have hlb4 := hB5.lt; have hs7 := E11.size; refine Wnx exq<|Wha [9]<|Wh1 rfl<|Xf rfl el24 rfl rfl hB5 (hO1.toB.ext ((E9.trans E10).trans E11)) (hO2.toB.ext E11).o Ka Kf Ka Ka ((((((E1.trans E2).trans E3).trans E6).trans E9).trans E10).trans E11) Ka ?_; have hT1 := (hO1.toB.ext ((E9.trans E10).trans E11)); rintro v1 w10 hO1 E12 M1; have E15 := M1.ext hT1 (((E6.trans E9).trans E10).trans E11) Ka; have hB4 := (hB4.ext exq).moves M1 hT1 Ka; have hN := (hN.ext exq).moves M1 hT1 Ka; have szM1 := M1.1.size; refine Wnx E12<|Sq 10 Ky Jb rfl rfl E12<|Wha [11]<|Wh1 rfl<|Xh (v := v1) rfl Jb rfl rfl (OwnedB.isC hO1.toB) hB4 Ki Ka E12 ?_; rintro w11 E16 hB4 K3 hz3
      have E19 := E15.wroteAt E12 E16 K3 hz3 Ka; simp only [List.set] at hB4; have hO1 := hO1.toB.wrote K3 Ka; have hN := hN.wrote K3 Ka; refine Wnx E16<|Yg Kb ?_; refine Ve<|Zt rfl<|Vq rfl<|Vg rfl<|Zm ?_; rotate_left; refine Wh1 rfl<|Xy rfl Jc Ja Gc rfl (OwnedB.isC hO2.toB) rfl ?_; rintro b4 w9 hb4 E11 hB5 hHb4; have hlb4 := hB5.lt; have hs7 := E11.size; refine Wnx exq<|Wha [1]<|Wh1 rfl<|Yr u Je (hB4.ext exq) rfl<|Wnx exq<|Wha [9]<|Wh1 rfl<|Xf rfl el24 rfl rfl hB5 (hO1.toB.ext ((E9.trans E10).trans E11)) (hO2.toB.ext E11).o Ka Kf Ka Ka ((((((E1.trans E2).trans E3).trans E6).trans E9).trans E10).trans E11) Ka ?_; have hT1 := (hO1.toB.ext ((E9.trans E10).trans E11))
      rintro v1 w10 hO1 E12 M1; have E15 := M1.ext hT1 (((E6.trans E9).trans E10).trans E11) Ka; have hB4 := (hB4.ext exq).moves M1 hT1 Ka; have hN := (hN.ext exq).moves M1 hT1 Ka; have szM1 := M1.1.size; refine Wnx E12<|Sq 10 Ky Jb rfl rfl E12<|Wha [11]<|Wh1 rfl<|Xh (v := v1) rfl Jb rfl rfl (OwnedB.isC hO1.toB) hB4 Ki Ka E12 ?_; rintro w11 E16 hB4 K3 hz3; have E19 := E15.wroteAt E12 E16 K3 hz3 Ka; simp only [List.set] at hB4; have hO1 := hO1.toB.wrote K3 Ka; have hN := hN.wrote K3 Ka; refine Wnx E16<|Yg Kb ?_; refine Ve<|Zt rfl<|Vq rfl<|Vg rfl<|Zm ?_; rotate_left; (exfalso; omega)
    · refine ⟨((k + 1, v1)), Kg, Kh, ?_, ?_⟩
      · refine ⟨by exact E19, Ka, Ka, hB4, ?_, hN⟩
        rw [ht]; exact hO1.o
      · simp only; omega
    · refine ⟨((k + 1, v1)), Kg, Kh, ?_, ?_⟩
      · refine ⟨by exact E19, Ka, Ka, hB4, ?_, hN⟩
        rw [ht]; exact hO1.o
      · simp only; omega
    · refine ⟨((k + 1, v1)), Kg, Kh, ?_, ?_⟩
      · refine ⟨by exact E19, Ka, Ka, hB4, ?_, hN⟩
        rw [ht]; exact hO1.o
      · simp only; omega
    · refine ⟨((k + 1, v1)), Kg, Kh, ?_, ?_⟩
      · refine ⟨by exact E19, Ka, Ka, hB4, ?_, hN⟩
        rw [ht]; exact hO1.o
      · simp only; omega
  · obtain rfl : k = past.length := by omega
    rw [List.take_length] at hO1
    focus
      have szE6 := E6.size; have szE4 := E4.size; refine Zp<|Zp<|Ve<|Zt rfl<|Vk Ky Jb rfl<|Yr u2 Je (hB1.ext exq) rfl<|Vm Jc rfl h2<|Vl rfl<|Zm<|Zs rfl fun h3 => ?_; refine Vv ?_; refine Vc ?_; refine Zo<|Xe Ks Kp hB4 rfl<|Xk rfl Kp rfl rfl Ke Ke (hB2.ext (E3.trans E6)) Ka (((E1.trans E2).trans E3).trans E6) ?_; rintro w7 E9 hB2 K2 hz2; have hN := hN.wrote K2 Ka; have hO1 := hO1.toB.wrote K2 Ka; refine Zm<|Zy ?_
    refine ⟨b2, u3, u, rfl, Kd, u3, u, w3.heap.size, rfl, by exact E9, ?_, hO1.o.mono Ka, Ka, Ka⟩
    exact hN.wide Ka (Nat.le_refl _)
end Go.Proofs.YtbgpppaljpngmaaGreatDoor
namespace Go.Proofs.YtbgpppaljpngmaaGreatDoor
open Go.Hs
set_option maxRecDepth 10000
set_option maxHeartbeats 4000000
set_option linter.unusedVariables false
set_option linter.unusedSimpArgs false
open Classical in
theorem l11Made_ok (w : World) (v : Value) (p : List (List Int)) (h : ESl Ints w v p) (hp : Pic p) (k n : Int) (t : List UInt8) (ht : t.length ≤ 1048576) :
    Does Tryz.prog 93 [v, .agg #[.int .i64 k, str t, .int .i64 n]] w (RetOB w XR (og (madeV p ⟨k, t, n⟩)) (madeV p ⟨k, t, n⟩).isSome) := by
  have hle := h.le
  have hp1 := hp.1
  have hp5 := hp.2.1
  have hN : Nod p (0 : Nat) := ⟨hp, Kc, Ka⟩
  obtain ⟨Q, hQ⟩ : ∃ Q, Q = (rdP t).getD [] := ⟨_, rfl⟩
  obtain ⟨B, hB⟩ : ∃ B, B = (rdP t).isSome := ⟨_, rfl⟩
  obtain ⟨M, hM⟩ : ∃ M, M = madeV p ⟨k, t, n⟩ := ⟨_, rfl⟩
  rw [← hM]
  have k0 : ∀ w, Does Tryz.prog 122 [str t] w (RetOB w XR Q B) := fun w => hQ ▸ hB ▸ Rx w t ht
  refine Xl Tryz.func93 rfl Tryz.results93 Tryz.ntmps93 rfl ?_
  by_cases e0 : k = 0
  · subst e0
    by_cases e : t = [] ∧ n = 0
    · obtain ⟨rfl, rfl⟩ := e
      have hm : M = pairV p 0 p 0 := hM.trans (by simp [madeV])
      rw [hm]
      have k1 : ∀ (w : World) (v u : Value), ESl Ints w v p → ESl Ints w u p → Does Tryz.prog 141 [v, .int .i64 0, u, .int .i64 0] w (RetOB w XR (og (pairV p 0 p 0)) (pairV p 0 p 0).isSome) := fun w v u h1 h2 => PairOf_ok w v u p p h1 h2 0 0 hN hN
      focus
        refine Zo<|Yk rfl rfl rfl ?_; rintro b1 w1 hb1 E1 hB1; have hlb1 := hB1.lt; refine Yt rfl<|Zx rfl<|Zm<|Zo<|Vk Kq Kx rfl<|Uj Kv hB1 rfl<|Zq rfl (Vw (a := .string _) Jm rfl) (k0 _) ?_; rintro _ w2 ⟨u1, rfl, E2, hO1⟩; have hs2 := E2.size; refine Xj rfl<|Un u1 rfl<|Xr rfl<|Yp u1 rfl<|Zx rfl<|Zm<|Zp<|Zw<|Zo<|Vk Kq Kl rfl<|Yj Km (hB1.ext E2) rfl<|Vi rfl<|Yc rfl (fun h1 => ?_) (fun h1 => ?_); refine Vk Kq Kx rfl<|Uj Kv (hB1.ext E2) rfl<|Wo rfl (Vb rfl rfl)<|Ym rfl<|Yc rfl (fun h2 => ?_) (fun h2 => ?_)
        refine Vk Kq Kl rfl<|Yj Km (hB1.ext E2) rfl<|Vi rfl<|Ym rfl<|Zx rfl<|Zm<|Zr rfl (fun h3 => ?_) (fun h3 => ?_); refine Zo<|Va v rfl<|Va v rfl<|Zq rfl (Qy (a := v) (b := .int _ _) (c := v) (d := .int _ _) Tryz.call141 rfl rfl rfl rfl) (k1 _ _ _ ((Mono.mono exq h)) ((Mono.mono exq h))) ?_; rintro _ w3 ⟨u2, rfl, E3, hO2⟩; refine Un u2 rfl<|Xr rfl<|Yp u2 rfl<|Zx rfl<|Zm<|Zy ?_; refine Vd (v := .tuple #[u2, .bool _]) rfl ?_; exact ⟨_, rfl, exq, hO2.toB.o.mono Ka⟩; contradiction; contradiction; contradiction
    · have hm : M = none := hM.trans (by simp only [madeV]; rw [if_neg (fun h => e ⟨h.2.1, h.2.2⟩), if_neg (fun h => absurd h.1 Kc), if_neg (fun h => absurd h.1 Kc), if_neg (fun h => absurd h.1 Kc)])
      rw [hm, show og none = [] from rfl, show (none : Option (List (List Int))).isSome = false from rfl]
      by_cases et : t = []
      · have en : ¬ n = 0 := fun h => e ⟨et, h⟩
        subst et
        focus
          refine Zo<|Yk rfl rfl rfl ?_; rintro b1 w1 hb1 E1 hB1; have hlb1 := hB1.lt; refine Yt rfl<|Zx rfl<|Zm<|Zo<|Vk Kq Kx rfl<|Uj Kv hB1 rfl<|Zq rfl (Vw (a := .string _) Jm rfl) (k0 _) ?_; rintro _ w2 ⟨u1, rfl, E2, hO1⟩; have hs2 := E2.size; refine Xj rfl<|Un u1 rfl<|Xr rfl<|Yp u1 rfl<|Zx rfl<|Zm<|Zp<|Zw<|Zo<|Vk Kq Kl rfl<|Yj Km (hB1.ext E2) rfl<|Vi rfl<|Yc rfl (fun h1 => ?_) (fun h1 => ?_); refine Vk Kq Kx rfl<|Uj Kv (hB1.ext E2) rfl<|Wo rfl (Vb rfl rfl)<|Ym rfl<|Yc rfl (fun h2 => ?_) (fun h2 => ?_)
          refine Vk Kq Kl rfl<|Yj Km (hB1.ext E2) rfl<|Vi rfl<|Ym rfl<|Zx rfl<|Zm<|Vj rfl fun h3 => ?_; refine Zo<|Vk Kq Kl rfl<|Yj Km (hB1.ext E2) rfl<|Vi rfl<|Yu rfl fun h4 => ?_; refine Zn rfl<|Vo rfl<|Yf rfl<|Zn rfl<|Zn rfl<|Zn rfl<|Vo rfl<|Zx rfl<|Zm<|Zv rfl ?_; refine Zo<|Vk Kq Kl rfl<|Yj Km (hB1.ext E2) rfl<|Vi rfl<|Yu rfl fun h5 => ?_; refine Zn rfl<|Vo rfl<|Yf rfl<|Zn rfl<|Zn rfl<|Zn rfl<|Vo rfl<|Zx rfl<|Zm<|Zv rfl ?_; refine Zp<|Xx Xt Kb rfl ?_
          refine Uu Kq Kl rfl<|Xs (v := .int _ _) rfl (fun w' hw' => Vr Km rfl (((hB1.ext E2).ext hw').cell rfl)) ?_; refine Rc rfl<|Ux rfl (fun h6 => ?_) (fun h6 => ?_); contradiction; refine Zz rfl<|Zz rfl<|Zz rfl<|Ra rfl<|Rt rfl<|Zz rfl<|Zz rfl<|Zz rfl<|Zz rfl<|Zz rfl<|Zz rfl<|Ra rfl<|Rt rfl<|Zz rfl<|Zz rfl<|Zz rfl<|Zz rfl<|Zz rfl<|Zz rfl<|Zz rfl<|Zz rfl<|Ra rfl<|Tl rfl<|Xu (fun w3 E3 => ?_); have hs3 := E3.size; refine Zv rfl ?_; refine Zu<|Zo<|Xa (XSl 3 XInt) rfl Qz Kt ?_; rintro b2 w4 hb2 b2lt E4 hO2; refine Yt rfl<|Zx rfl<|Zm<|Zy ?_; refine Vd (v := .tuple #[.slice _ _ _, .bool _]) rfl ?_
          exact ⟨_, rfl, exq, hO2.toB.o.mono Ka⟩; contradiction; contradiction
      · focus
          refine Zo<|Yk rfl rfl rfl ?_; rintro b1 w1 hb1 E1 hB1; have hlb1 := hB1.lt; refine Yt rfl<|Zx rfl<|Zm<|Zo<|Vk Kq Kx rfl<|Uj Kv hB1 rfl<|Zq rfl (Vw (a := .string _) Jm rfl) (k0 _) ?_; rintro _ w2 ⟨u1, rfl, E2, hO1⟩; have hs2 := E2.size; refine Xj rfl<|Un u1 rfl<|Xr rfl<|Yp u1 rfl<|Zx rfl<|Zm<|Zp<|Zw<|Zo<|Vk Kq Kl rfl<|Yj Km (hB1.ext E2) rfl<|Vi rfl<|Yc rfl (fun h1 => ?_) (fun h1 => ?_); refine Vk Kq Kx rfl<|Uj Kv (hB1.ext E2) rfl<|Wo rfl (Vb rfl rfl)<|Ym rfl<|Yu rfl fun h2 => ?_; refine Zn rfl<|Zn rfl<|Zn rfl<|Vo rfl<|Zx rfl<|Zm<|Zv rfl ?_
          refine Zo<|Vk Kq Kl rfl<|Yj Km (hB1.ext E2) rfl<|Vi rfl<|Yu rfl fun h3 => ?_; refine Zn rfl<|Vo rfl<|Yf rfl<|Zn rfl<|Zn rfl<|Zn rfl<|Vo rfl<|Zx rfl<|Zm<|Zv rfl ?_; refine Zo<|Vk Kq Kl rfl<|Yj Km (hB1.ext E2) rfl<|Vi rfl<|Yu rfl fun h4 => ?_; refine Zn rfl<|Vo rfl<|Yf rfl<|Zn rfl<|Zn rfl<|Zn rfl<|Vo rfl<|Zx rfl<|Zm<|Zv rfl ?_; refine Zp<|Xx Xt Kb rfl ?_; refine Uu Kq Kl rfl<|Xs (v := .int _ _) rfl (fun w' hw' => Vr Km rfl (((hB1.ext E2).ext hw').cell rfl)) ?_; refine Rc rfl<|Ux rfl (fun h5 => ?_) (fun h5 => ?_); contradiction
          refine Zz rfl<|Zz rfl<|Zz rfl<|Ra rfl<|Rt rfl<|Zz rfl<|Zz rfl<|Zz rfl<|Zz rfl<|Zz rfl<|Zz rfl<|Ra rfl<|Rt rfl<|Zz rfl<|Zz rfl<|Zz rfl<|Zz rfl<|Zz rfl<|Zz rfl<|Zz rfl<|Zz rfl<|Ra rfl<|Tl rfl<|Xu (fun w3 E3 => ?_); have hs3 := E3.size; refine Zv rfl ?_; refine Zu<|Zo<|Xa (XSl 3 XInt) rfl Qz Kt ?_; rintro b2 w4 hb2 b2lt E4 hO2; refine Yt rfl<|Zx rfl<|Zm<|Zy ?_; refine Vd (v := .tuple #[.slice _ _ _, .bool _]) rfl ?_; exact ⟨_, rfl, exq, hO2.toB.o.mono Ka⟩; contradiction
  by_cases e1 : k = 1
  · subst e1
    by_cases en : n = 0
    · subst en
      have hm : M = (rdP t).bind fun q => (pairV q 0 q 0).bind fun s => togV p 0 s 0 := hM.trans (by simp only [madeV]; rw [if_neg (fun h => absurd h.1 Kc), if_pos Ki])
      cases hr : rdP t with
      | none =>
        rw [hr] at hm hB hQ
        rw [hm, show og (none.bind fun q => (pairV q 0 q 0).bind fun s => togV p 0 s 0) = [] from rfl, show (none.bind fun q => (pairV q 0 q 0).bind fun s => togV p 0 s 0).isSome = false from rfl]
        rw [hB, show (none : Option (List (List Int))).isSome = false from rfl] at k0
        focus
          refine Zo<|Yk rfl rfl rfl ?_; rintro b1 w1 hb1 E1 hB1; have hlb1 := hB1.lt; refine Yt rfl<|Zx rfl<|Zm<|Zo<|Vk Kq Kx rfl<|Uj Kv hB1 rfl<|Zq rfl (Vw (a := .string _) Jm rfl) (k0 _) ?_; rintro _ w2 ⟨u1, rfl, E2, hO1⟩; have hs2 := E2.size; refine Xj rfl<|Un u1 rfl<|Xr rfl<|Yp u1 rfl<|Zx rfl<|Zm<|Zp<|Zw<|Zo<|Vk Kq Kl rfl<|Yj Km (hB1.ext E2) rfl<|Vi rfl<|Yu rfl fun h1 => ?_; refine Zn rfl<|Zn rfl<|Zn rfl<|Vo rfl<|Yf rfl<|Zn rfl<|Zn rfl<|Zn rfl<|Vo rfl<|Zx rfl<|Zm<|Zv rfl ?_; refine Zo<|Vk Kq Kl rfl<|Yj Km (hB1.ext E2) rfl<|Vi rfl<|Yc rfl (fun h2 => ?_) (fun h2 => ?_)
          refine Yf rfl<|Ym rfl<|Yf rfl<|Zn rfl<|Zn rfl<|Zn rfl<|Vo rfl<|Zx rfl<|Zm<|Zv rfl ?_; refine Zo<|Vk Kq Kl rfl<|Yj Km (hB1.ext E2) rfl<|Vi rfl<|Yu rfl fun h3 => ?_; refine Zn rfl<|Vo rfl<|Yf rfl<|Zn rfl<|Zn rfl<|Zn rfl<|Vo rfl<|Zx rfl<|Zm<|Zv rfl ?_; refine Zp<|Xx Xt Kb rfl ?_; refine Uu Kq Kl rfl<|Xs (v := .int _ _) rfl (fun w' hw' => Vr Km rfl (((hB1.ext E2).ext hw').cell rfl)) ?_; refine Rc rfl<|Ux rfl (fun h4 => ?_) (fun h4 => ?_); contradiction
          refine Zz rfl<|Zz rfl<|Zz rfl<|Ra rfl<|Rt rfl<|Zz rfl<|Zz rfl<|Zz rfl<|Zz rfl<|Zz rfl<|Zz rfl<|Ra rfl<|Rt rfl<|Zz rfl<|Zz rfl<|Zz rfl<|Zz rfl<|Zz rfl<|Zz rfl<|Zz rfl<|Zz rfl<|Ra rfl<|Tl rfl<|Xu (fun w3 E3 => ?_); have hs3 := E3.size; refine Zv rfl ?_; refine Zu<|Zo<|Xa (XSl 3 XInt) rfl Qz Kt ?_; rintro b2 w4 hb2 b2lt E4 hO2; refine Yt rfl<|Zx rfl<|Zm<|Zy ?_; refine Vd (v := .tuple #[.slice _ _ _, .bool _]) rfl ?_; exact ⟨_, rfl, exq, hO2.toB.o.mono Ka⟩; contradiction
      | some q =>
        rw [hr] at hm hB hQ
        rw [hB, hQ, show (some q).isSome = true from rfl, show (some q).getD [] = q from rfl] at k0
        have hq := (Rz hr).1
        have hNq : Nod q (0 : Nat) := ⟨hq, Kc, by have := hq.1; omega⟩
        have k1 : ∀ (w : World) (v u : Value), ESl Ints w v q → ESl Ints w u q → Does Tryz.prog 141 [v, .int .i64 0, u, .int .i64 0] w (RetOB w XR (og (pairV q 0 q 0)) (pairV q 0 q 0).isSome) := fun w v u h1 h2 => PairOf_ok w v u q q h1 h2 0 0 hNq hNq
        rw [hm, show ((some q).bind fun q => (pairV q 0 q 0).bind fun s => togV p 0 s 0) = (pairV q 0 q 0).bind fun s => togV p 0 s 0 from rfl]
        cases hs : pairV q 0 q 0 with
        | none =>
          rw [hs] at k1
          rw [show (none.bind fun s => togV p 0 s 0) = none from rfl]
          rw [show og none = [] from rfl, show (none : Option (List (List Int))).isSome = false from rfl] at k1 ⊢
          focus
            refine Zo<|Yk rfl rfl rfl ?_; rintro b1 w1 hb1 E1 hB1; have hlb1 := hB1.lt; refine Yt rfl<|Zx rfl<|Zm<|Zo<|Vk Kq Kx rfl<|Uj Kv hB1 rfl<|Zq rfl (Vw (a := .string _) Jm rfl) (k0 _) ?_; rintro _ w2 ⟨u1, rfl, E2, hO1⟩; have hs2 := E2.size; refine Xj rfl<|Un u1 rfl<|Xr rfl<|Yp u1 rfl<|Zx rfl<|Zm<|Zp<|Zw<|Zo<|Vk Kq Kl rfl<|Yj Km (hB1.ext E2) rfl<|Vi rfl<|Yu rfl fun h1 => ?_; refine Zn rfl<|Zn rfl<|Zn rfl<|Vo rfl<|Yf rfl<|Zn rfl<|Zn rfl<|Zn rfl<|Vo rfl<|Zx rfl<|Zm<|Zv rfl ?_; refine Zo<|Vk Kq Kl rfl<|Yj Km (hB1.ext E2) rfl<|Vi rfl<|Yc rfl (fun h2 => ?_) (fun h2 => ?_)
            refine Yf rfl<|Ym rfl<|Yf rfl<|Vk Kq Kl rfl<|Yj Km (hB1.ext E2) rfl<|Vi rfl<|Ym rfl<|Zx rfl<|Zm<|Zr rfl (fun h3 => ?_) (fun h3 => ?_); refine Zp<|Ve<|Va u1 rfl<|Va u1 rfl<|Zq rfl (Qy (a := u1) (b := .int _ _) (c := u1) (d := .int _ _) Tryz.call141 rfl rfl rfl rfl) (k1 _ _ _ ((Owned.read hO1)) ((Owned.read hO1))) ?_; rintro _ w3 ⟨u2, rfl, E3, hO2⟩; have hs3 := E3.size; refine Xj rfl<|Un u2 rfl<|Xr rfl<|Yp u2 rfl<|Zx rfl<|Zm<|Zp<|Zo<|Yf rfl<|Yl rfl<|Zm<|Xd rfl (fun h4 => ?_) (fun h4 => ?_); refine Zo<|Xa (XSl 3 XInt) rfl Qz Kt ?_; rintro b2 w4 hb2 b2lt E4 hO3; refine Yt rfl<|Zx rfl<|Zm<|Zy ?_; refine Vd (v := .tuple #[.slice _ _ _, .bool _]) rfl ?_
            exact ⟨_, rfl, exq, hO3.toB.o.mono Ka⟩; contradiction; contradiction; contradiction
        | some s =>
          rw [hs] at k1
          rw [show ((some s).bind fun s => togV p 0 s 0) = togV p 0 s 0 from rfl]
          rw [show og (some s) = s from rfl, show (some s).isSome = true from rfl] at k1
          have hsp := (Md hq hq hs).1
          have hNs : Nod s (0 : Nat) := ⟨hsp, Kc, by have := hsp.1; omega⟩
          have k2 : ∀ (w : World) (v u : Value), ESl Ints w v p → ESl Ints w u s → Does Tryz.prog 142 [v, .int .i64 0, u, .int .i64 0] w (RetOB w XR (og (togV p 0 s 0)) (togV p 0 s 0).isSome) := fun w v u h1 h2 => TogetherOf_ok w v u p s h1 h2 0 0 hN hNs
          focus
            refine Zo<|Yk rfl rfl rfl ?_; rintro b1 w1 hb1 E1 hB1; have hlb1 := hB1.lt; refine Yt rfl<|Zx rfl<|Zm<|Zo<|Vk Kq Kx rfl<|Uj Kv hB1 rfl<|Zq rfl (Vw (a := .string _) Jm rfl) (k0 _) ?_; rintro _ w2 ⟨u1, rfl, E2, hO1⟩; have hs2 := E2.size; refine Xj rfl<|Un u1 rfl<|Xr rfl<|Yp u1 rfl<|Zx rfl<|Zm<|Zp<|Zw<|Zo<|Vk Kq Kl rfl<|Yj Km (hB1.ext E2) rfl<|Vi rfl<|Yu rfl fun h1 => ?_; refine Zn rfl<|Zn rfl<|Zn rfl<|Vo rfl<|Yf rfl<|Zn rfl<|Zn rfl<|Zn rfl<|Vo rfl<|Zx rfl<|Zm<|Zv rfl ?_; refine Zo<|Vk Kq Kl rfl<|Yj Km (hB1.ext E2) rfl<|Vi rfl<|Yc rfl (fun h2 => ?_) (fun h2 => ?_)
            refine Yf rfl<|Ym rfl<|Yf rfl<|Vk Kq Kl rfl<|Yj Km (hB1.ext E2) rfl<|Vi rfl<|Ym rfl<|Zx rfl<|Zm<|Zr rfl (fun h3 => ?_) (fun h3 => ?_); refine Zp<|Ve<|Va u1 rfl<|Va u1 rfl<|Zq rfl (Qy (a := u1) (b := .int _ _) (c := u1) (d := .int _ _) Tryz.call141 rfl rfl rfl rfl) (k1 _ _ _ ((Owned.read hO1)) ((Owned.read hO1))) ?_; rintro _ w3 ⟨u2, rfl, E3, hO2⟩; have hs3 := E3.size; refine Xj rfl<|Un u2 rfl<|Xr rfl<|Yp u2 rfl<|Zx rfl<|Zm<|Zp<|Zo<|Yf rfl<|Yl rfl<|Zm<|Yz rfl fun h4 => ?_; refine Zu<|Zo<|Va v rfl<|Va u2 rfl<|Zq rfl (Qy (a := v) (b := .int _ _) (c := u2) (d := .int _ _) Tryz.call142 rfl rfl rfl rfl) (k2 _ _ _ ((Mono.mono exq h)) ((Owned.read hO2))) ?_; rintro _ w4 ⟨u3, rfl, E4, hO3⟩
            refine Un u3 rfl<|Xr rfl<|Yp u3 rfl<|Zx rfl<|Zm<|Zy ?_; refine Vd (v := .tuple #[u3, .bool _]) rfl ?_; exact ⟨_, rfl, exq, hO3.toB.o.mono Ka⟩; contradiction; contradiction
    · have hm : M = none := hM.trans (by simp only [madeV]; rw [if_neg (fun h => absurd h.1 Kc), if_neg (fun h => en h.2), if_neg (fun h => absurd h.1 Kc), if_neg (fun h => absurd h.1 Kc)])
      rw [hm, show og none = [] from rfl, show (none : Option (List (List Int))).isSome = false from rfl]
      cases B
      · focus
          refine Zo<|Yk rfl rfl rfl ?_; rintro b1 w1 hb1 E1 hB1; have hlb1 := hB1.lt; refine Yt rfl<|Zx rfl<|Zm<|Zo<|Vk Kq Kx rfl<|Uj Kv hB1 rfl<|Zq rfl (Vw (a := .string _) Jm rfl) (k0 _) ?_; rintro _ w2 ⟨u1, rfl, E2, hO1⟩; have hs2 := E2.size; refine Xj rfl<|Un u1 rfl<|Xr rfl<|Yp u1 rfl<|Zx rfl<|Zm<|Zp<|Zw<|Zo<|Vk Kq Kl rfl<|Yj Km (hB1.ext E2) rfl<|Vi rfl<|Yu rfl fun h1 => ?_; refine Zn rfl<|Zn rfl<|Zn rfl<|Vo rfl<|Yf rfl<|Zn rfl<|Zn rfl<|Zn rfl<|Vo rfl<|Zx rfl<|Zm<|Zv rfl ?_; refine Zo<|Vk Kq Kl rfl<|Yj Km (hB1.ext E2) rfl<|Vi rfl<|Yc rfl (fun h2 => ?_) (fun h2 => ?_)
          refine Yf rfl<|Ym rfl<|Yf rfl<|Zn rfl<|Zn rfl<|Zn rfl<|Vo rfl<|Zx rfl<|Zm<|Zv rfl ?_; refine Zo<|Vk Kq Kl rfl<|Yj Km (hB1.ext E2) rfl<|Vi rfl<|Yu rfl fun h3 => ?_; refine Zn rfl<|Vo rfl<|Yf rfl<|Zn rfl<|Zn rfl<|Zn rfl<|Vo rfl<|Zx rfl<|Zm<|Zv rfl ?_; refine Zp<|Xx Xt Kb rfl ?_; refine Uu Kq Kl rfl<|Xs (v := .int _ _) rfl (fun w' hw' => Vr Km rfl (((hB1.ext E2).ext hw').cell rfl)) ?_; refine Rc rfl<|Ux rfl (fun h4 => ?_) (fun h4 => ?_); contradiction
          refine Zz rfl<|Zz rfl<|Zz rfl<|Ra rfl<|Rt rfl<|Zz rfl<|Zz rfl<|Zz rfl<|Zz rfl<|Zz rfl<|Zz rfl<|Ra rfl<|Rt rfl<|Zz rfl<|Zz rfl<|Zz rfl<|Zz rfl<|Zz rfl<|Zz rfl<|Zz rfl<|Zz rfl<|Ra rfl<|Tl rfl<|Xu (fun w3 E3 => ?_); have hs3 := E3.size; refine Zv rfl ?_; refine Zu<|Zo<|Xa (XSl 3 XInt) rfl Qz Kt ?_; rintro b2 w4 hb2 b2lt E4 hO2; refine Yt rfl<|Zx rfl<|Zm<|Zy ?_; refine Vd (v := .tuple #[.slice _ _ _, .bool _]) rfl ?_; exact ⟨_, rfl, exq, hO2.toB.o.mono Ka⟩; contradiction
      · focus
          refine Zo<|Yk rfl rfl rfl ?_; rintro b1 w1 hb1 E1 hB1; have hlb1 := hB1.lt; refine Yt rfl<|Zx rfl<|Zm<|Zo<|Vk Kq Kx rfl<|Uj Kv hB1 rfl<|Zq rfl (Vw (a := .string _) Jm rfl) (k0 _) ?_; rintro _ w2 ⟨u1, rfl, E2, hO1⟩; have hs2 := E2.size; refine Xj rfl<|Un u1 rfl<|Xr rfl<|Yp u1 rfl<|Zx rfl<|Zm<|Zp<|Zw<|Zo<|Vk Kq Kl rfl<|Yj Km (hB1.ext E2) rfl<|Vi rfl<|Yu rfl fun h1 => ?_; refine Zn rfl<|Zn rfl<|Zn rfl<|Vo rfl<|Yf rfl<|Zn rfl<|Zn rfl<|Zn rfl<|Vo rfl<|Zx rfl<|Zm<|Zv rfl ?_; refine Zo<|Vk Kq Kl rfl<|Yj Km (hB1.ext E2) rfl<|Vi rfl<|Yc rfl (fun h2 => ?_) (fun h2 => ?_)
          refine Yf rfl<|Ym rfl<|Yf rfl<|Vk Kq Kl rfl<|Yj Km (hB1.ext E2) rfl<|Vi rfl<|Ym rfl<|Zx rfl<|Zm<|Vj rfl fun h3 => ?_; refine Zo<|Vk Kq Kl rfl<|Yj Km (hB1.ext E2) rfl<|Vi rfl<|Yu rfl fun h4 => ?_; refine Zn rfl<|Vo rfl<|Yf rfl<|Zn rfl<|Zn rfl<|Zn rfl<|Vo rfl<|Zx rfl<|Zm<|Zv rfl ?_; refine Zp<|Xx Xt Kb rfl ?_; refine Uu Kq Kl rfl<|Xs (v := .int _ _) rfl (fun w' hw' => Vr Km rfl (((hB1.ext E2).ext hw').cell rfl)) ?_; refine Rc rfl<|Ux rfl (fun h5 => ?_) (fun h5 => ?_); contradiction
          refine Zz rfl<|Zz rfl<|Zz rfl<|Ra rfl<|Rt rfl<|Zz rfl<|Zz rfl<|Zz rfl<|Zz rfl<|Zz rfl<|Zz rfl<|Ra rfl<|Rt rfl<|Zz rfl<|Zz rfl<|Zz rfl<|Zz rfl<|Zz rfl<|Zz rfl<|Zz rfl<|Zz rfl<|Ra rfl<|Tl rfl<|Xu (fun w3 E3 => ?_); have hs3 := E3.size; refine Zv rfl ?_; refine Zu<|Zo<|Xa (XSl 3 XInt) rfl Qz Kt ?_; rintro b2 w4 hb2 b2lt E4 hO2; refine Yt rfl<|Zx rfl<|Zm<|Zy ?_; refine Vd (v := .tuple #[.slice _ _ _, .bool _]) rfl ?_; exact ⟨_, rfl, exq, hO2.toB.o.mono Ka⟩; contradiction
  by_cases e2 : k = 2
  · subst e2
    by_cases en : n = 0
    · subst en
      have hm : M = (rdP t).bind fun q => wosV p 0 q 0 := hM.trans (by simp only [madeV]; rw [if_neg (fun h => absurd h.1 Kc), if_neg (fun h => absurd h.1 Kc), if_pos Ki])
      cases hr : rdP t with
      | none =>
        rw [hr] at hm hB hQ
        rw [hm, show og (none.bind fun q => wosV p 0 q 0) = [] from rfl, show (none.bind fun q => wosV p 0 q 0).isSome = false from rfl]
        rw [hB, show (none : Option (List (List Int))).isSome = false from rfl] at k0
        focus
          refine Zo<|Yk rfl rfl rfl ?_; rintro b1 w1 hb1 E1 hB1; have hlb1 := hB1.lt; refine Yt rfl<|Zx rfl<|Zm<|Zo<|Vk Kq Kx rfl<|Uj Kv hB1 rfl<|Zq rfl (Vw (a := .string _) Jm rfl) (k0 _) ?_; rintro _ w2 ⟨u1, rfl, E2, hO1⟩; have hs2 := E2.size; refine Xj rfl<|Un u1 rfl<|Xr rfl<|Yp u1 rfl<|Zx rfl<|Zm<|Zp<|Zw<|Zo<|Vk Kq Kl rfl<|Yj Km (hB1.ext E2) rfl<|Vi rfl<|Yu rfl fun h1 => ?_; refine Zn rfl<|Zn rfl<|Zn rfl<|Vo rfl<|Yf rfl<|Zn rfl<|Zn rfl<|Zn rfl<|Vo rfl<|Zx rfl<|Zm<|Zv rfl ?_; refine Zo<|Vk Kq Kl rfl<|Yj Km (hB1.ext E2) rfl<|Vi rfl<|Yu rfl fun h2 => ?_
          refine Zn rfl<|Vo rfl<|Yf rfl<|Zn rfl<|Zn rfl<|Zn rfl<|Vo rfl<|Zx rfl<|Zm<|Zv rfl ?_; refine Zo<|Vk Kq Kl rfl<|Yj Km (hB1.ext E2) rfl<|Vi rfl<|Yc rfl (fun h3 => ?_) (fun h3 => ?_); refine Yf rfl<|Ym rfl<|Yf rfl<|Zn rfl<|Zn rfl<|Zn rfl<|Vo rfl<|Zx rfl<|Zm<|Zv rfl ?_; refine Zp<|Xx Xt Kb rfl ?_; refine Uu Kq Kl rfl<|Xs (v := .int _ _) rfl (fun w' hw' => Vr Km rfl (((hB1.ext E2).ext hw').cell rfl)) ?_; refine Rc rfl<|Ux rfl (fun h4 => ?_) (fun h4 => ?_); contradiction
          refine Zz rfl<|Zz rfl<|Zz rfl<|Ra rfl<|Rt rfl<|Zz rfl<|Zz rfl<|Zz rfl<|Zz rfl<|Zz rfl<|Zz rfl<|Ra rfl<|Rt rfl<|Zz rfl<|Zz rfl<|Zz rfl<|Zz rfl<|Zz rfl<|Zz rfl<|Zz rfl<|Zz rfl<|Ra rfl<|Tl rfl<|Xu (fun w3 E3 => ?_); have hs3 := E3.size; refine Zv rfl ?_; refine Zu<|Zo<|Xa (XSl 3 XInt) rfl Qz Kt ?_; rintro b2 w4 hb2 b2lt E4 hO2; refine Yt rfl<|Zx rfl<|Zm<|Zy ?_; refine Vd (v := .tuple #[.slice _ _ _, .bool _]) rfl ?_; exact ⟨_, rfl, exq, hO2.toB.o.mono Ka⟩; contradiction
      | some q =>
        rw [hr] at hm hB hQ
        rw [hB, hQ, show (some q).isSome = true from rfl, show (some q).getD [] = q from rfl] at k0
        have hq := (Rz hr).1
        have hNq : Nod q (0 : Nat) := ⟨hq, Kc, by have := hq.1; omega⟩
        have k1 : ∀ (w : World) (v u : Value), ESl Ints w v p → ESl Ints w u q → Does Tryz.prog 143 [v, .int .i64 0, u, .int .i64 0] w (RetOB w XR (og (wosV p 0 q 0)) (wosV p 0 q 0).isSome) := fun w v u h1 h2 => WithoutSet_ok w v u p q h1 h2 0 0 hN hNq
        rw [hm, show ((some q).bind fun q => wosV p 0 q 0) = wosV p 0 q 0 from rfl]
        focus
          refine Zo<|Yk rfl rfl rfl ?_; rintro b1 w1 hb1 E1 hB1; have hlb1 := hB1.lt; refine Yt rfl<|Zx rfl<|Zm<|Zo<|Vk Kq Kx rfl<|Uj Kv hB1 rfl<|Zq rfl (Vw (a := .string _) Jm rfl) (k0 _) ?_; rintro _ w2 ⟨u1, rfl, E2, hO1⟩; have hs2 := E2.size; refine Xj rfl<|Un u1 rfl<|Xr rfl<|Yp u1 rfl<|Zx rfl<|Zm<|Zp<|Zw<|Zo<|Vk Kq Kl rfl<|Yj Km (hB1.ext E2) rfl<|Vi rfl<|Yu rfl fun h1 => ?_; refine Zn rfl<|Zn rfl<|Zn rfl<|Vo rfl<|Yf rfl<|Zn rfl<|Zn rfl<|Zn rfl<|Vo rfl<|Zx rfl<|Zm<|Zv rfl ?_; refine Zo<|Vk Kq Kl rfl<|Yj Km (hB1.ext E2) rfl<|Vi rfl<|Yu rfl fun h2 => ?_
          refine Zn rfl<|Vo rfl<|Yf rfl<|Zn rfl<|Zn rfl<|Zn rfl<|Vo rfl<|Zx rfl<|Zm<|Zv rfl ?_; refine Zo<|Vk Kq Kl rfl<|Yj Km (hB1.ext E2) rfl<|Vi rfl<|Yc rfl (fun h3 => ?_) (fun h3 => ?_); refine Yf rfl<|Ym rfl<|Yf rfl<|Vk Kq Kl rfl<|Yj Km (hB1.ext E2) rfl<|Vi rfl<|Ym rfl<|Zx rfl<|Zm<|Zr rfl (fun h4 => ?_) (fun h4 => ?_); refine Zp<|Ve<|Va v rfl<|Va u1 rfl<|Zq rfl (Qy (a := v) (b := .int _ _) (c := u1) (d := .int _ _) Tryz.call143 rfl rfl rfl rfl) (k1 _ _ _ ((Mono.mono exq h)) ((Owned.read hO1))) ?_; rintro _ w3 ⟨u2, rfl, E3, hO2⟩; refine Un u2 rfl<|Xr rfl<|Yp u2 rfl<|Zx rfl<|Zm<|Zy ?_; refine Vd (v := .tuple #[u2, .bool _]) rfl ?_
          exact ⟨_, rfl, exq, hO2.toB.o.mono Ka⟩; contradiction; contradiction
    · have hm : M = none := hM.trans (by simp only [madeV]; rw [if_neg (fun h => absurd h.1 Kc), if_neg (fun h => absurd h.1 Kc), if_neg (fun h => en h.2), if_neg (fun h => absurd h.1 Kc)])
      rw [hm, show og none = [] from rfl, show (none : Option (List (List Int))).isSome = false from rfl]
      cases B
      · focus
          refine Zo<|Yk rfl rfl rfl ?_; rintro b1 w1 hb1 E1 hB1; have hlb1 := hB1.lt; refine Yt rfl<|Zx rfl<|Zm<|Zo<|Vk Kq Kx rfl<|Uj Kv hB1 rfl<|Zq rfl (Vw (a := .string _) Jm rfl) (k0 _) ?_; rintro _ w2 ⟨u1, rfl, E2, hO1⟩; have hs2 := E2.size; refine Xj rfl<|Un u1 rfl<|Xr rfl<|Yp u1 rfl<|Zx rfl<|Zm<|Zp<|Zw<|Zo<|Vk Kq Kl rfl<|Yj Km (hB1.ext E2) rfl<|Vi rfl<|Yu rfl fun h1 => ?_; refine Zn rfl<|Zn rfl<|Zn rfl<|Vo rfl<|Yf rfl<|Zn rfl<|Zn rfl<|Zn rfl<|Vo rfl<|Zx rfl<|Zm<|Zv rfl ?_; refine Zo<|Vk Kq Kl rfl<|Yj Km (hB1.ext E2) rfl<|Vi rfl<|Yu rfl fun h2 => ?_
          refine Zn rfl<|Vo rfl<|Yf rfl<|Zn rfl<|Zn rfl<|Zn rfl<|Vo rfl<|Zx rfl<|Zm<|Zv rfl ?_; refine Zo<|Vk Kq Kl rfl<|Yj Km (hB1.ext E2) rfl<|Vi rfl<|Yc rfl (fun h3 => ?_) (fun h3 => ?_); refine Yf rfl<|Ym rfl<|Yf rfl<|Zn rfl<|Zn rfl<|Zn rfl<|Vo rfl<|Zx rfl<|Zm<|Zv rfl ?_; refine Zp<|Xx Xt Kb rfl ?_; refine Uu Kq Kl rfl<|Xs (v := .int _ _) rfl (fun w' hw' => Vr Km rfl (((hB1.ext E2).ext hw').cell rfl)) ?_; refine Rc rfl<|Ux rfl (fun h4 => ?_) (fun h4 => ?_); contradiction
          refine Zz rfl<|Zz rfl<|Zz rfl<|Ra rfl<|Rt rfl<|Zz rfl<|Zz rfl<|Zz rfl<|Zz rfl<|Zz rfl<|Zz rfl<|Ra rfl<|Rt rfl<|Zz rfl<|Zz rfl<|Zz rfl<|Zz rfl<|Zz rfl<|Zz rfl<|Zz rfl<|Zz rfl<|Ra rfl<|Tl rfl<|Xu (fun w3 E3 => ?_); have hs3 := E3.size; refine Zv rfl ?_; refine Zu<|Zo<|Xa (XSl 3 XInt) rfl Qz Kt ?_; rintro b2 w4 hb2 b2lt E4 hO2; refine Yt rfl<|Zx rfl<|Zm<|Zy ?_; refine Vd (v := .tuple #[.slice _ _ _, .bool _]) rfl ?_; exact ⟨_, rfl, exq, hO2.toB.o.mono Ka⟩; contradiction
      · focus
          refine Zo<|Yk rfl rfl rfl ?_; rintro b1 w1 hb1 E1 hB1; have hlb1 := hB1.lt; refine Yt rfl<|Zx rfl<|Zm<|Zo<|Vk Kq Kx rfl<|Uj Kv hB1 rfl<|Zq rfl (Vw (a := .string _) Jm rfl) (k0 _) ?_; rintro _ w2 ⟨u1, rfl, E2, hO1⟩; have hs2 := E2.size; refine Xj rfl<|Un u1 rfl<|Xr rfl<|Yp u1 rfl<|Zx rfl<|Zm<|Zp<|Zw<|Zo<|Vk Kq Kl rfl<|Yj Km (hB1.ext E2) rfl<|Vi rfl<|Yu rfl fun h1 => ?_; refine Zn rfl<|Zn rfl<|Zn rfl<|Vo rfl<|Yf rfl<|Zn rfl<|Zn rfl<|Zn rfl<|Vo rfl<|Zx rfl<|Zm<|Zv rfl ?_; refine Zo<|Vk Kq Kl rfl<|Yj Km (hB1.ext E2) rfl<|Vi rfl<|Yu rfl fun h2 => ?_
          refine Zn rfl<|Vo rfl<|Yf rfl<|Zn rfl<|Zn rfl<|Zn rfl<|Vo rfl<|Zx rfl<|Zm<|Zv rfl ?_; refine Zo<|Vk Kq Kl rfl<|Yj Km (hB1.ext E2) rfl<|Vi rfl<|Yc rfl (fun h3 => ?_) (fun h3 => ?_); refine Yf rfl<|Ym rfl<|Yf rfl<|Vk Kq Kl rfl<|Yj Km (hB1.ext E2) rfl<|Vi rfl<|Ym rfl<|Zx rfl<|Zm<|Vj rfl fun h4 => ?_; refine Zp<|Xx Xt Kb rfl ?_; refine Uu Kq Kl rfl<|Xs (v := .int _ _) rfl (fun w' hw' => Vr Km rfl (((hB1.ext E2).ext hw').cell rfl)) ?_; refine Rc rfl<|Ux rfl (fun h5 => ?_) (fun h5 => ?_); contradiction
          refine Zz rfl<|Zz rfl<|Zz rfl<|Ra rfl<|Rt rfl<|Zz rfl<|Zz rfl<|Zz rfl<|Zz rfl<|Zz rfl<|Zz rfl<|Ra rfl<|Rt rfl<|Zz rfl<|Zz rfl<|Zz rfl<|Zz rfl<|Zz rfl<|Zz rfl<|Zz rfl<|Zz rfl<|Ra rfl<|Tl rfl<|Xu (fun w3 E3 => ?_); have hs3 := E3.size; refine Zv rfl ?_; refine Zu<|Zo<|Xa (XSl 3 XInt) rfl Qz Kt ?_; rintro b2 w4 hb2 b2lt E4 hO2; refine Yt rfl<|Zx rfl<|Zm<|Zy ?_; refine Vd (v := .tuple #[.slice _ _ _, .bool _]) rfl ?_; exact ⟨_, rfl, exq, hO2.toB.o.mono Ka⟩; contradiction
  by_cases e3 : k = 3
  · subst e3
    by_cases et : t = []
    · subst et
      by_cases en : 0 ≤ n ∧ n ≤ (p.length : Int) - 1
      · have k2 : ∀ w, Does Tryz.prog 116 [.int .i64 n, .int .i64 0, .int .i64 ((p.length : Int) - 1)] w (Ret w (.bool true)) := fun w => by
          have := Uy n 0 ((p.length : Int) - 1) w; rwa [decide_eq_true en] at this
        have hrow : p[0].length = p.length := hp.row hp1
        obtain ⟨i, rfl⟩ : ∃ i : Nat, n = i := ⟨n.toNat, Ka⟩
        have hbit : bit p 0 i = p[0][i] := by unfold bit; rw [Vy hp1, Vy (show i < p[0].length by omega)]
        by_cases eb : p[0][i] = 1
        · have hm : M = some (lst p i) := hM.trans (by simp only [madeV]; rw [if_neg (fun h => absurd h.1 Kc), if_neg (fun h => absurd h.1 Kc), if_neg (fun h => absurd h.1 Kc), if_pos ⟨trivial, trivial, Ka, Ka, by rw [Int.toNat_natCast, hbit, eb]⟩, Int.toNat_natCast])
          have hNi : Nod p (i : Int) := ⟨hp, Ka, Ka⟩
          have k3 : ∀ (w : World) (v : Value), ESl Ints w v p → Does Tryz.prog 126 [v, .int .i64 (i : Int)] w (RetO w XR (lst p i)) := fun w v h => by
            have := St w v p h (i : Int); rw [if_pos hNi] at this; exact this
          rw [hm, show og (some (lst p i)) = lst p i from rfl, show (some (lst p i)).isSome = true from rfl]
          focus
            refine Zo<|Yk rfl rfl rfl ?_; rintro b1 w1 hb1 E1 hB1; have hlb1 := hB1.lt; refine Yt rfl<|Zx rfl<|Zm<|Zo<|Vk Kq Kx rfl<|Uj Kv hB1 rfl<|Zq rfl (Vw (a := .string _) Jm rfl) (k0 _) ?_; rintro _ w2 ⟨u1, rfl, E2, hO1⟩; have hs2 := E2.size; refine Xj rfl<|Un u1 rfl<|Xr rfl<|Yp u1 rfl<|Zx rfl<|Zm<|Zp<|Zw<|Zo<|Vk Kq Kl rfl<|Yj Km (hB1.ext E2) rfl<|Vi rfl<|Yu rfl fun h1 => ?_; refine Zn rfl<|Zn rfl<|Zn rfl<|Vo rfl<|Yf rfl<|Zn rfl<|Zn rfl<|Zn rfl<|Vo rfl<|Zx rfl<|Zm<|Zv rfl ?_; refine Zo<|Vk Kq Kl rfl<|Yj Km (hB1.ext E2) rfl<|Vi rfl<|Yu rfl fun h2 => ?_
            refine Zn rfl<|Vo rfl<|Yf rfl<|Zn rfl<|Zn rfl<|Zn rfl<|Vo rfl<|Zx rfl<|Zm<|Zv rfl ?_; refine Zo<|Vk Kq Kl rfl<|Yj Km (hB1.ext E2) rfl<|Vi rfl<|Yu rfl fun h3 => ?_; refine Zn rfl<|Vo rfl<|Yf rfl<|Zn rfl<|Zn rfl<|Zn rfl<|Vo rfl<|Zx rfl<|Zm<|Zv rfl ?_; refine Zp<|Xx Xt Kb rfl ?_; refine Uu Kq Kl rfl<|Xs (v := .int _ _) rfl (fun w' hw' => Vr Km rfl (((hB1.ext E2).ext hw').cell rfl)) ?_; refine Rc rfl<|Ux rfl (fun h4 => ?_) (fun h4 => ?_); refine Uu Kq Kx rfl<|Xs (v := .string _) rfl (fun w' hw' => Vr Kv rfl (((hB1.ext E2).ext hw').cell rfl)) ?_
            refine Xs rfl (fun _ _ => Vb rfl rfl) ?_; refine Nn rfl<|Ux rfl (fun h5 => ?_) (fun h5 => ?_); refine Uu Kq Kl rfl<|Xs (v := .int _ _) rfl (fun w' hw' => Vr Km rfl (((hB1.ext E2).ext hw').cell rfl)) ?_; refine Qm v rfl<|Xs rfl (fun _ _ => Rr Ko rfl h) ?_; refine Xs rfl (fun _ _ => opv_sub rfl rfl Ka) ?_; refine Ur rfl (fun _ _ => Uc (a := .int _ _) (b := .int _ _) (c := .int _ _) Jl rfl rfl rfl) (fun w' hw' => (k2 _)) ?_; refine Nn rfl<|Rt rfl<|Qm v rfl<|Xp (k := 0) Ko Kt Kz rfl (fun _ => rfl) rfl h exq rfl Kf ?_; rintro _ u2 hu1; refine Uu Kq Kl rfl<|Xs (v := .int _ _) rfl (fun w' hw' => Vr Km rfl (((hB1.ext E2).ext hw').cell rfl)) ?_
            refine Xp Kn Kl Km rfl (fun _ => rfl) rfl hu1 exq rfl Kf ?_; rintro _ _ rfl; refine Rc rfl<|Nn rfl<|Tl rfl<|Xu (fun w3 E3 => ?_); have hs3 := E3.size; refine Zr rfl (fun h6 => ?_) (fun h6 => ?_); refine Zo<|Va v rfl<|Vk Kq Kl rfl<|Yj Km (hB1.ext exq) rfl<|Zq rfl (Yh (a := v) (b := .int _ _) Za rfl rfl) (k3 _ _ ((Mono.mono exq h))) ?_; rintro u3 w4 ⟨E4, hO2⟩; refine Yp u3 rfl<|Zx rfl<|Zm<|Zy ?_; refine Vd (v := .tuple #[u3, .bool _]) rfl ?_; exact ⟨_, rfl, exq, hO2.toB.o.mono Ka⟩; contradiction; contradiction; contradiction
        · have hm : M = none := hM.trans (by simp only [madeV]; rw [if_neg (fun h => absurd h.1 Kc), if_neg (fun h => absurd h.1 Kc), if_neg (fun h => absurd h.1 Kc), if_neg (fun h => eb (by have := h.2.2.2.2; rwa [Int.toNat_natCast, hbit] at this))])
          rw [hm, show og none = [] from rfl, show (none : Option (List (List Int))).isSome = false from rfl]
          focus
            refine Zo<|Yk rfl rfl rfl ?_; rintro b1 w1 hb1 E1 hB1; have hlb1 := hB1.lt; refine Yt rfl<|Zx rfl<|Zm<|Zo<|Vk Kq Kx rfl<|Uj Kv hB1 rfl<|Zq rfl (Vw (a := .string _) Jm rfl) (k0 _) ?_; rintro _ w2 ⟨u1, rfl, E2, hO1⟩; have hs2 := E2.size; refine Xj rfl<|Un u1 rfl<|Xr rfl<|Yp u1 rfl<|Zx rfl<|Zm<|Zp<|Zw<|Zo<|Vk Kq Kl rfl<|Yj Km (hB1.ext E2) rfl<|Vi rfl<|Yu rfl fun h1 => ?_; refine Zn rfl<|Zn rfl<|Zn rfl<|Vo rfl<|Yf rfl<|Zn rfl<|Zn rfl<|Zn rfl<|Vo rfl<|Zx rfl<|Zm<|Zv rfl ?_; refine Zo<|Vk Kq Kl rfl<|Yj Km (hB1.ext E2) rfl<|Vi rfl<|Yu rfl fun h2 => ?_
            refine Zn rfl<|Vo rfl<|Yf rfl<|Zn rfl<|Zn rfl<|Zn rfl<|Vo rfl<|Zx rfl<|Zm<|Zv rfl ?_; refine Zo<|Vk Kq Kl rfl<|Yj Km (hB1.ext E2) rfl<|Vi rfl<|Yu rfl fun h3 => ?_; refine Zn rfl<|Vo rfl<|Yf rfl<|Zn rfl<|Zn rfl<|Zn rfl<|Vo rfl<|Zx rfl<|Zm<|Zv rfl ?_; refine Zp<|Xx Xt Kb rfl ?_; refine Uu Kq Kl rfl<|Xs (v := .int _ _) rfl (fun w' hw' => Vr Km rfl (((hB1.ext E2).ext hw').cell rfl)) ?_; refine Rc rfl<|Ux rfl (fun h4 => ?_) (fun h4 => ?_); refine Uu Kq Kx rfl<|Xs (v := .string _) rfl (fun w' hw' => Vr Kv rfl (((hB1.ext E2).ext hw').cell rfl)) ?_
            refine Xs rfl (fun _ _ => Vb rfl rfl) ?_; refine Nn rfl<|Ux rfl (fun h5 => ?_) (fun h5 => ?_); refine Uu Kq Kl rfl<|Xs (v := .int _ _) rfl (fun w' hw' => Vr Km rfl (((hB1.ext E2).ext hw').cell rfl)) ?_; refine Qm v rfl<|Xs rfl (fun _ _ => Rr Ko rfl h) ?_; refine Xs rfl (fun _ _ => opv_sub rfl rfl Ka) ?_; refine Ur rfl (fun _ _ => Uc (a := .int _ _) (b := .int _ _) (c := .int _ _) Jl rfl rfl rfl) (fun w' hw' => (k2 _)) ?_; refine Nn rfl<|Rt rfl<|Qm v rfl<|Xp (k := 0) Ko Kt Kz rfl (fun _ => rfl) rfl h exq rfl Kf ?_; rintro _ u2 hu1; refine Uu Kq Kl rfl<|Xs (v := .int _ _) rfl (fun w' hw' => Vr Km rfl (((hB1.ext E2).ext hw').cell rfl)) ?_
            refine Xp Kn Kl Km rfl (fun _ => rfl) rfl hu1 exq rfl Kf ?_; rintro _ _ rfl; refine Rc rfl<|Nn rfl<|Tl rfl<|Xu (fun w3 E3 => ?_); have hs3 := E3.size; refine Vj rfl fun h6 => ?_; refine Zu<|Zo<|Xa (XSl 3 XInt) rfl Qz Kt ?_; rintro b2 w4 hb2 b2lt E4 hO2; refine Yt rfl<|Zx rfl<|Zm<|Zy ?_; refine Vd (v := .tuple #[.slice _ _ _, .bool _]) rfl ?_; exact ⟨_, rfl, exq, hO2.toB.o.mono Ka⟩; contradiction; contradiction
      · have k2 : ∀ w, Does Tryz.prog 116 [.int .i64 n, .int .i64 0, .int .i64 ((p.length : Int) - 1)] w (Ret w (.bool false)) := fun w => by
          have := Uy n 0 ((p.length : Int) - 1) w; rwa [decide_eq_false en] at this
        have hm : M = none := hM.trans (by simp only [madeV]; rw [if_neg (fun h => absurd h.1 Kc), if_neg (fun h => absurd h.1 Kc), if_neg (fun h => absurd h.1 Kc), if_neg (fun h => en ⟨h.2.2.1, by have := h.2.2.2.1; omega⟩)])
        rw [hm, show og none = [] from rfl, show (none : Option (List (List Int))).isSome = false from rfl]
        focus
          refine Zo<|Yk rfl rfl rfl ?_; rintro b1 w1 hb1 E1 hB1; have hlb1 := hB1.lt; refine Yt rfl<|Zx rfl<|Zm<|Zo<|Vk Kq Kx rfl<|Uj Kv hB1 rfl<|Zq rfl (Vw (a := .string _) Jm rfl) (k0 _) ?_; rintro _ w2 ⟨u1, rfl, E2, hO1⟩; have hs2 := E2.size; refine Xj rfl<|Un u1 rfl<|Xr rfl<|Yp u1 rfl<|Zx rfl<|Zm<|Zp<|Zw<|Zo<|Vk Kq Kl rfl<|Yj Km (hB1.ext E2) rfl<|Vi rfl<|Yu rfl fun h1 => ?_; refine Zn rfl<|Zn rfl<|Zn rfl<|Vo rfl<|Yf rfl<|Zn rfl<|Zn rfl<|Zn rfl<|Vo rfl<|Zx rfl<|Zm<|Zv rfl ?_; refine Zo<|Vk Kq Kl rfl<|Yj Km (hB1.ext E2) rfl<|Vi rfl<|Yu rfl fun h2 => ?_
          refine Zn rfl<|Vo rfl<|Yf rfl<|Zn rfl<|Zn rfl<|Zn rfl<|Vo rfl<|Zx rfl<|Zm<|Zv rfl ?_; refine Zo<|Vk Kq Kl rfl<|Yj Km (hB1.ext E2) rfl<|Vi rfl<|Yu rfl fun h3 => ?_; refine Zn rfl<|Vo rfl<|Yf rfl<|Zn rfl<|Zn rfl<|Zn rfl<|Vo rfl<|Zx rfl<|Zm<|Zv rfl ?_; refine Zp<|Xx Xt Kb rfl ?_; refine Uu Kq Kl rfl<|Xs (v := .int _ _) rfl (fun w' hw' => Vr Km rfl (((hB1.ext E2).ext hw').cell rfl)) ?_; refine Rc rfl<|Ux rfl (fun h4 => ?_) (fun h4 => ?_); refine Uu Kq Kx rfl<|Xs (v := .string _) rfl (fun w' hw' => Vr Kv rfl (((hB1.ext E2).ext hw').cell rfl)) ?_
          refine Xs rfl (fun _ _ => Vb rfl rfl) ?_; refine Nn rfl<|Ux rfl (fun h5 => ?_) (fun h5 => ?_); refine Uu Kq Kl rfl<|Xs (v := .int _ _) rfl (fun w' hw' => Vr Km rfl (((hB1.ext E2).ext hw').cell rfl)) ?_; refine Qm v rfl<|Xs rfl (fun _ _ => Rr Ko rfl h) ?_; refine Xs rfl (fun _ _ => opv_sub rfl rfl Ka) ?_; refine Ur rfl (fun _ _ => Uc (a := .int _ _) (b := .int _ _) (c := .int _ _) Jl rfl rfl rfl) (fun w' hw' => (k2 _)) ?_; refine Nn rfl<|Rt rfl<|Zz rfl<|Zz rfl<|Zz rfl<|Zz rfl<|Zz rfl<|Zz rfl<|Zz rfl<|Zz rfl<|Ra rfl<|Tl rfl<|Xu (fun w3 E3 => ?_); have hs3 := E3.size; refine Zv rfl ?_; refine Zu<|Zo<|Xa (XSl 3 XInt) rfl Qz Kt ?_; rintro b2 w4 hb2 b2lt E4 hO2
          refine Yt rfl<|Zx rfl<|Zm<|Zy ?_; refine Vd (v := .tuple #[.slice _ _ _, .bool _]) rfl ?_; exact ⟨_, rfl, exq, hO2.toB.o.mono Ka⟩; contradiction; contradiction
    · have hm : M = none := hM.trans (by simp only [madeV]; rw [if_neg (fun h => absurd h.1 Kc), if_neg (fun h => absurd h.1 Kc), if_neg (fun h => absurd h.1 Kc), if_neg (fun h => et h.2.1)])
      rw [hm, show og none = [] from rfl, show (none : Option (List (List Int))).isSome = false from rfl]
      focus
        refine Zo<|Yk rfl rfl rfl ?_; rintro b1 w1 hb1 E1 hB1; have hlb1 := hB1.lt; refine Yt rfl<|Zx rfl<|Zm<|Zo<|Vk Kq Kx rfl<|Uj Kv hB1 rfl<|Zq rfl (Vw (a := .string _) Jm rfl) (k0 _) ?_; rintro _ w2 ⟨u1, rfl, E2, hO1⟩; have hs2 := E2.size; refine Xj rfl<|Un u1 rfl<|Xr rfl<|Yp u1 rfl<|Zx rfl<|Zm<|Zp<|Zw<|Zo<|Vk Kq Kl rfl<|Yj Km (hB1.ext E2) rfl<|Vi rfl<|Yu rfl fun h1 => ?_; refine Zn rfl<|Zn rfl<|Zn rfl<|Vo rfl<|Yf rfl<|Zn rfl<|Zn rfl<|Zn rfl<|Vo rfl<|Zx rfl<|Zm<|Zv rfl ?_; refine Zo<|Vk Kq Kl rfl<|Yj Km (hB1.ext E2) rfl<|Vi rfl<|Yu rfl fun h2 => ?_
        refine Zn rfl<|Vo rfl<|Yf rfl<|Zn rfl<|Zn rfl<|Zn rfl<|Vo rfl<|Zx rfl<|Zm<|Zv rfl ?_; refine Zo<|Vk Kq Kl rfl<|Yj Km (hB1.ext E2) rfl<|Vi rfl<|Yu rfl fun h3 => ?_; refine Zn rfl<|Vo rfl<|Yf rfl<|Zn rfl<|Zn rfl<|Zn rfl<|Vo rfl<|Zx rfl<|Zm<|Zv rfl ?_; refine Zp<|Xx Xt Kb rfl ?_; refine Uu Kq Kl rfl<|Xs (v := .int _ _) rfl (fun w' hw' => Vr Km rfl (((hB1.ext E2).ext hw').cell rfl)) ?_; refine Rc rfl<|Ux rfl (fun h4 => ?_) (fun h4 => ?_); refine Uu Kq Kx rfl<|Xs (v := .string _) rfl (fun w' hw' => Vr Kv rfl (((hB1.ext E2).ext hw').cell rfl)) ?_
        refine Xs rfl (fun _ _ => Vb rfl rfl) ?_; refine Nn rfl<|Ux rfl (fun h5 => ?_) (fun h5 => ?_); contradiction; refine Zz rfl<|Zz rfl<|Zz rfl<|Zz rfl<|Zz rfl<|Zz rfl<|Ra rfl<|Rt rfl<|Zz rfl<|Zz rfl<|Zz rfl<|Zz rfl<|Zz rfl<|Zz rfl<|Zz rfl<|Zz rfl<|Ra rfl<|Tl rfl<|Xu (fun w3 E3 => ?_); have hs3 := E3.size; refine Zv rfl ?_; refine Zu<|Zo<|Xa (XSl 3 XInt) rfl Qz Kt ?_; rintro b2 w4 hb2 b2lt E4 hO2; refine Yt rfl<|Zx rfl<|Zm<|Zy ?_; refine Vd (v := .tuple #[.slice _ _ _, .bool _]) rfl ?_; exact ⟨_, rfl, exq, hO2.toB.o.mono Ka⟩; contradiction
  have hm : M = none := hM.trans (by simp only [madeV]; rw [if_neg (fun h => e0 h.1), if_neg (fun h => e1 h.1), if_neg (fun h => e2 h.1), if_neg (fun h => e3 h.1)])
  rw [hm, show og none = [] from rfl, show (none : Option (List (List Int))).isSome = false from rfl]
  focus
    refine Zo<|Yk rfl rfl rfl ?_; rintro b1 w1 hb1 E1 hB1; have hlb1 := hB1.lt; refine Yt rfl<|Zx rfl<|Zm<|Zo<|Vk Kq Kx rfl<|Uj Kv hB1 rfl<|Zq rfl (Vw (a := .string _) Jm rfl) (k0 _) ?_; rintro _ w2 ⟨u1, rfl, E2, hO1⟩; have hs2 := E2.size; refine Xj rfl<|Un u1 rfl<|Xr rfl<|Yp u1 rfl<|Zx rfl<|Zm<|Zp<|Zw<|Zo<|Vk Kq Kl rfl<|Yj Km (hB1.ext E2) rfl<|Vi rfl<|Yu rfl fun h1 => ?_; refine Zn rfl<|Zn rfl<|Zn rfl<|Vo rfl<|Yf rfl<|Zn rfl<|Zn rfl<|Zn rfl<|Vo rfl<|Zx rfl<|Zm<|Zv rfl ?_; refine Zo<|Vk Kq Kl rfl<|Yj Km (hB1.ext E2) rfl<|Vi rfl<|Yu rfl fun h2 => ?_
    refine Zn rfl<|Vo rfl<|Yf rfl<|Zn rfl<|Zn rfl<|Zn rfl<|Vo rfl<|Zx rfl<|Zm<|Zv rfl ?_; refine Zo<|Vk Kq Kl rfl<|Yj Km (hB1.ext E2) rfl<|Vi rfl<|Yu rfl fun h3 => ?_; refine Zn rfl<|Vo rfl<|Yf rfl<|Zn rfl<|Zn rfl<|Zn rfl<|Vo rfl<|Zx rfl<|Zm<|Zv rfl ?_; refine Zp<|Xx Xt Kb rfl ?_; refine Uu Kq Kl rfl<|Xs (v := .int _ _) rfl (fun w' hw' => Vr Km rfl (((hB1.ext E2).ext hw').cell rfl)) ?_; refine Rc rfl<|Ux rfl (fun h4 => ?_) (fun h4 => ?_); contradiction
    refine Zz rfl<|Zz rfl<|Zz rfl<|Ra rfl<|Rt rfl<|Zz rfl<|Zz rfl<|Zz rfl<|Zz rfl<|Zz rfl<|Zz rfl<|Ra rfl<|Rt rfl<|Zz rfl<|Zz rfl<|Zz rfl<|Zz rfl<|Zz rfl<|Zz rfl<|Zz rfl<|Zz rfl<|Ra rfl<|Tl rfl<|Xu (fun w3 E3 => ?_); have hs3 := E3.size; refine Zv rfl ?_; refine Zu<|Zo<|Xa (XSl 3 XInt) rfl Qz Kt ?_; rintro b2 w4 hb2 b2lt E4 hO2; refine Yt rfl<|Zx rfl<|Zm<|Zy ?_; refine Vd (v := .tuple #[.slice _ _ _, .bool _]) rfl ?_; exact ⟨_, rfl, exq, hO2.toB.o.mono Ka⟩
end Go.Proofs.YtbgpppaljpngmaaGreatDoor
namespace Go.Proofs.YtbgpppaljpngmaaGreatDoor
open Go.Hs
set_option maxRecDepth 10000
set_option maxHeartbeats 4000000
set_option linter.unusedVariables false
set_option linter.unusedSimpArgs false
open Classical in
theorem spec_DeskDo_ok (w : World) (u1 u2 : Value) (d : Dsk) (h1 : ESl Ints w u1 d.now) (h2 : ESl (ESl Ints) w u2 d.past) (k n : Int) (t : List UInt8) (ht : t.length ≤ 1048576) :
    Does Tryz.prog 37 [.agg #[u1, u2], .agg #[.int .i64 k, str t, .int .i64 n]] w (RetDkAB w (if DkOk d then (doV d ⟨k, t, n⟩).1.now else []) (if DkOk d then (doV d ⟨k, t, n⟩).1.past else []) (decide (DkOk d) && (doV d ⟨k, t, n⟩).2)) := by
  obtain ⟨p, pp⟩ := d
  have hle := h2.le
  have i1 : isCell u1 = true := Uw h1
  have i2 : isCell u2 = true := Uw h2
  simp only at h1 h2 hle
  refine Ts Tryz.func37 rfl Tryz.results37 Tryz.ntmps37 rfl Ks Kp ?_
  by_cases hd : DkOk ⟨p, pp⟩
  · have k0 : ∀ w, ESl Ints w u1 p → ESl (ESl Ints) w u2 pp → Does Tryz.prog 16 [.agg #[u1, u2]] w (Ret w (.bool true)) := fun w h1 h2 => by
      have := Sj w u1 u2 ⟨p, pp⟩ h1 h2; rwa [decide_eq_true hd] at this
    have hpp : Pic p := hd.1.1
    have hppl : pp.length ≤ 8 := hd.2.1
    have hb1 : p.length ≤ 100 ∧ ∀ r ∈ p, r.length ≤ 100 := ⟨by have := hpp.2.1; omega, fun r hr => by rw [(hpp.2.2 r hr).1]; have := hpp.2.1; omega⟩
    have hb2 : ∀ q ∈ pp, q.length ≤ 100 ∧ ∀ r ∈ q, r.length ≤ 100 := fun q hq => by
      have hq := (hd.2.2 q hq).1
      exact ⟨by have := hq.2.1; omega, fun r hr => by rw [(hq.2.2 r hr).1]; have := hq.2.1; omega⟩
    have k1 : ∀ w, ESl Ints w u1 p → ESl (ESl Ints) w u2 pp → Does Tryz.prog 60 [.agg #[u1, u2]] w (RetDk w 23 88 3 p pp) := fun w h1 h2 => l11Copy_ok w u1 u2 p pp h1 h2 hb1 Ka hb2
    rw [if_pos hd, if_pos hd, decide_eq_true hd, Bool.true_and]
    by_cases hb : isBack ⟨p, pp⟩ ⟨k, t, n⟩
    · obtain ⟨e, hne⟩ := hb
      cases e
      have hpl : 0 < pp.length := List.length_pos_iff.2 hne
      have hdo : doV ⟨p, pp⟩ ⟨4, [], 0⟩ = (⟨pp.getLastD [], pp.dropLast⟩, true) := by unfold doV; rw [if_pos ⟨rfl, hne⟩]
      rw [hdo]
      simp only
      have stop6 : True := trivial
      focus
        refine Zo<|Yk rfl rfl rfl ?_; rintro b1 w1 hb3 E1 hB1; have hlb1 := hB1.lt; have hs1 := E1.size; refine Yk rfl rfl rfl ?_; rintro b2 w2 hb4 E2 hB2; have hlb2 := hB2.lt; refine Ys rfl Xi ?_; rintro b3 w3 hb5 E3 hB3; have hlb3 := hB3.lt; refine Zx rfl<|Zm<|Zp<|Zp<|Ve<|Xe Ks Kp (hB1.ext exq) rfl<|Zq rfl (Vw (a := .agg _) Gk rfl) (k0 _ ((Mono.mono exq h1)) ((Mono.mono exq h2))) ?_; rintro _ w4 ⟨rfl, E4⟩; have hs4 := E4.size; refine Yl rfl<|Zm<|Yz rfl fun h3 => ?_; refine Zu<|Zo<|Xe Ks Kp (hB1.ext exq) rfl<|Zq rfl (Vw (a := .agg _) Gp rfl) (k1 _ ((Mono.mono exq h1)) ((Mono.mono exq h2))) ?_; rintro _ w5 ⟨u3, q1, m1, rfl, E5, hO1, hQ1, hm1, hn1⟩; have icu3 := OwnedB.isC hO1; have icq1 := OwnedB.isC (Owned.toB hQ1)
        have cpq1 := OwnedB.capOk (Owned.toB hQ1); have hs5 := E5.size; refine Ys rfl Xi ?_; rintro b4 w6 hb6 E6 hB4; refine Xk rfl Kp rfl rfl Ke Ke hB4 Ka (((((E1.trans E2).trans E3).trans E4).trans E5).trans E6) ?_; rintro w7 E7 hB4 K1 hz1; have E8 := ((((E2.trans E3).trans E4).trans E5).trans E6).wroteAt exq E7 K1 hz1 Ka; have szE8 := E8.size; have E9 := (((E3.trans E4).trans E5).trans E6).wroteAt exq E7 K1 hz1 Ka; have E10 := ((E4.trans E5).trans E6).wroteAt exq E7 K1 hz1 Ka; have E11 := (E5.trans E6).wroteAt exq E7 K1 hz1 Ka; have E12 := E6.wroteAt exq E7 K1 hz1 Ka; have hB1 := (hB1.ext exq).of_heap (K1 _ Ka); have hB2 := (hB2.ext exq).of_heap (K1 _ Ka); have hB3 := (hB3.ext exq).of_heap (K1 _ Ka); have hO1 := (hO1.ext E6).wrote K1 Ka
        have hQ1 := (hQ1.toB.ext E6).wrote K1 Ka; refine Zm<|Zp<|Zo<|Qq Jd Kw hB2 rfl<|Wo rfl (Vt (ps := [(0, .int _ _)]) (cs := [_, _, _]) Yv rfl rfl)<|Wo rfl (Me rfl rfl)<|Yc rfl (fun h4 => ?_) (fun h4 => ?_); refine Vk Ky Jb rfl<|Yr u2 Je hB1 rfl<|Vm Jc rfl h2<|Qo rfl<|Ym rfl<|Zm<|Zr rfl (fun h5 => ?_) (fun h5 => ?_); refine Zo<|Vk Ky Jb rfl<|Yr q1 Je hB4 rfl<|Vm Jc rfl (OwnedB.read hQ1)<|Qp rfl<|Vg rfl<|Zm<|Zp ?_; rotate_left; (exfalso; omega); contradiction
      clear stop6
      obtain ⟨qb, qc, ur, rfl, hqc, hcl, hel, hqb, hqb2, icr⟩ := hQ1.elem (i := pp.length - 1) Ka
      have hcl : w7.cell? ⟨qb, 0 + ((pp.length : Int) - 1).toNat, none⟩ = some ur := by rw [Nat.zero_add, show ((pp.length : Int) - 1).toNat = pp.length - 1 by omega]; exact hcl
      focus
        have szE7 := E7.size; refine Ve<|Vk Ky Jb rfl<|Qh Je hB4 rfl<|Zt rfl<|Wo rfl (Uo Jc Ja rfl rfl Ka) ?_; refine Wo rfl (Vr Ku rfl Kd) ?_; refine Vk Ky Ja rfl<|Xh (v := ur) rfl Ja rfl rfl (OwnedB.isC hel) hB4 Ki Ka E7 ?_; rintro w8 E13 hB4 K2 hz2; have E14 := E8.wroteAt E7 E13 K2 hz2 Ka; have E15 := E9.wroteAt E7 E13 K2 hz2 Ka; simp only [List.set] at hB4; have hB3 := hB3.of_heap (K2 _ Ka); have hQ1 := hQ1.wrote K2 Ka; have hel := hel.wrote K2 Ka; refine Zm<|Zp<|Ve<|Vk Ky Jb rfl<|Qh Je hB4 rfl<|Zt rfl<|Wo rfl (Sa Jc Ja rfl rfl Ka) ?_
        refine Vk Ky Jb rfl<|Xh (v := .slice _ _ _) rfl Jb rfl rfl rfl hB4 Ki Ka E13 ?_; rintro w9 E19 hB4 K3 hz3; simp only [List.set] at hB4; have hB3 := hB3.of_heap (K3 _ Ka); have hQ1 := hQ1.wrote K3 Ka; have hel := hel.wrote K3 Ka; refine Zm<|Zo<|Xe Ks Kp hB4 rfl<|Ul Kp hB3 rfl E19 ?_; rintro w10 E25 hB3 K4 hz4; have hQ1 := hQ1.wrote K4 Ka; have hel := hel.wrote K4 Ka; refine Zx rfl<|Zm<|Zy ?_
      have hlast : pp.getLastD [] = pp[pp.length - 1] := by rw [List.getLastD_eq_getLast?, List.getLast?_eq_getElem?, List.getElem?_eq_getElem Ka]; rfl
      rw [hlast, List.dropLast_eq_take]
      refine ⟨b3, ur, _, rfl, hB3, ur, _, rfl, E25, hel.above.mono Ka, ?_, icr, rfl, Ka⟩
      rw [show ((pp.length : Int) - 1).toNat = pp.length - 1 by omega]
      exact (hQ1.above.mono Ka).takeS Ka
    · have hdo : doV ⟨p, pp⟩ ⟨k, t, n⟩ = match nextV p ⟨k, t, n⟩ with
        | some c => (⟨c, last8 (pp ++ [p])⟩, true)
        | none => (⟨p, pp⟩, false) := by unfold doV; rw [if_neg hb]; rfl
      rw [hdo]
      have hback : (⟨k, t, n⟩ : Deed) = ⟨4, [], 0⟩ → pp.length = 0 := fun e => Classical.byContradiction fun h => hb ⟨e, fun h' => h (by rw [show pp = [] from h']; rfl)⟩
      have k2 : ∀ w, ESl Ints w u1 p → Does Tryz.prog 93 [u1, .agg #[.int .i64 k, str t, .int .i64 n]] w (RetOB w XR (og (madeV p ⟨k, t, n⟩)) (madeV p ⟨k, t, n⟩).isSome) := fun w h => l11Made_ok w u1 p h hpp k n t ht
      have litown : True := trivial
      by_cases ha : (⟨k, t, n⟩ : Deed) = ⟨4, [], 0⟩
      · have hpl0 := hback ha
        cases ha
        have hmv : madeV p ⟨4, [], 0⟩ = none := by simp [madeV]
        have hnx : nextV p ⟨4, [], 0⟩ = none := by unfold nextV; rw [hmv]
        rw [hmv, show og none = [] from rfl, show (none : Option (List (List Int))).isSome = false from rfl] at k2
        rw [hnx]
        simp only
        focus
          refine Zo<|Yk rfl rfl rfl ?_; rintro b1 w1 hb3 E1 hB1; have hlb1 := hB1.lt; refine Yk rfl rfl rfl ?_; rintro b2 w2 hb4 E2 hB2; have hlb2 := hB2.lt; refine Ys rfl Xi ?_; rintro b3 w3 hb5 E3 hB3; have hlb3 := hB3.lt; refine Zx rfl<|Zm<|Zp<|Zp<|Ve<|Xe Ks Kp (hB1.ext exq) rfl<|Zq rfl (Vw (a := .agg _) Gk rfl) (k0 _ ((Mono.mono exq h1)) ((Mono.mono exq h2))) ?_; rintro _ w4 ⟨rfl, E4⟩; have hs4 := E4.size; refine Yl rfl<|Zm<|Yz rfl fun h3 => ?_; refine Zu<|Zo<|Xe Ks Kp (hB1.ext exq) rfl<|Zq rfl (Vw (a := .agg _) Gp rfl) (k1 _ ((Mono.mono exq h1)) ((Mono.mono exq h2))) ?_; rintro _ w5 ⟨u3, q1, m1, rfl, E5, hO1, hQ1, hm1, hn1⟩; have icu3 := OwnedB.isC hO1; have icq1 := OwnedB.isC (Owned.toB hQ1); have hs5 := E5.size
          refine Ys rfl Xi ?_; rintro b4 w6 hb6 E6 hB4; refine Xk rfl Kp rfl rfl Ke Ke hB4 Ka (((((E1.trans E2).trans E3).trans E4).trans E5).trans E6) ?_; rintro w7 E7 hB4 K1 hz1; have E8 := ((((E2.trans E3).trans E4).trans E5).trans E6).wroteAt exq E7 K1 hz1 Ka; have hB1 := (hB1.ext exq).of_heap (K1 _ Ka); have hB2 := (hB2.ext exq).of_heap (K1 _ Ka); have hB3 := (hB3.ext exq).of_heap (K1 _ Ka); have hO1 := (hO1.ext E6).wrote K1 Ka; have hQ1 := (hQ1.toB.ext E6).wrote K1 Ka; refine Zm<|Zp<|Zo<|Qq Jd Kw hB2 rfl<|Wo rfl (Vt (ps := [(0, .int _ _)]) (cs := [_, _, _]) Yv rfl rfl)<|Wo rfl (Me rfl rfl)<|Yc rfl (fun h4 => ?_) (fun h4 => ?_)
          refine Vk Ky Jb rfl<|Yr u2 Je hB1 rfl<|Vm Jc rfl h2<|Qo rfl<|Ym rfl<|Zm<|Zs rfl fun h5 => ?_; refine Zu<|Zp<|Ve<|Vk Ky Ja rfl<|Yr u1 Ku hB1 rfl<|Qq Jd Kw hB2 rfl<|Zq rfl (Yh (a := u1) (b := .agg _) Tryz.call93 rfl rfl) (k2 _ ((Mono.mono E7 h1))) ?_; rintro _ w8 ⟨u4, rfl, E13, hO2⟩; refine Xj rfl<|Un u4 rfl<|Xr rfl<|Yp u4 rfl<|Zx rfl<|Zm<|Zp<|Zp<|Xx Xt Kb rfl ?_; refine Rt rfl<|Wqnot rfl<|Ry rfl (fun _ _ => Vp (v := .bool _) rfl) (fun h6 => ?_) (fun h6 => ?_)
          refine Zz rfl<|Zz rfl<|Zz rfl<|Zz rfl<|Zz rfl<|Zz rfl<|Zz rfl<|Zz rfl<|Zz rfl<|Zz rfl<|Zz rfl<|Zz rfl<|Zz rfl<|Zz rfl<|Nn rfl<|Xu (fun w9 E14 => ?_); refine Vu rfl ?_; refine Zo<|Xe Ks Kp (hB4.ext exq) rfl<|Ul Kp (hB3.ext (E13.trans E14)) rfl ((E7.trans E13).trans E14) ?_; rintro w10 E15 hB3 K2 hz2; have E16 := ((E8.trans E13).trans E14).wroteAt exq E15 K2 hz2 Ka; have szE16 := E16.size; have hO1 := (hO1.ext exq).wrote K2 Ka; have hQ1 := (hQ1.ext exq).wrote K2 Ka; refine Zx rfl<|Zm<|Zy ?_; rotate_left; contradiction; contradiction
        exact ⟨b3, u3, q1, rfl, hB3, u3, q1, rfl, by exact E15, hO1.above.mono Ka, hQ1.above.mono Ka, icu3, icq1, Ka⟩
      · cases hmv : madeV p ⟨k, t, n⟩ with
        | none =>
          have hnx : nextV p ⟨k, t, n⟩ = none := by unfold nextV; rw [hmv]
          rw [hmv, show og none = [] from rfl, show (none : Option (List (List Int))).isSome = false from rfl] at k2
          rw [hnx]
          simp only
          focus
            refine Zo<|Yk rfl rfl rfl ?_; rintro b1 w1 hb3 E1 hB1; have hlb1 := hB1.lt; refine Yk rfl rfl rfl ?_; rintro b2 w2 hb4 E2 hB2; have hlb2 := hB2.lt; refine Ys rfl Xi ?_; rintro b3 w3 hb5 E3 hB3; have hlb3 := hB3.lt; refine Zx rfl<|Zm<|Zp<|Zp<|Ve<|Xe Ks Kp (hB1.ext exq) rfl<|Zq rfl (Vw (a := .agg _) Gk rfl) (k0 _ ((Mono.mono exq h1)) ((Mono.mono exq h2))) ?_; rintro _ w4 ⟨rfl, E4⟩; have hs4 := E4.size; refine Yl rfl<|Zm<|Yz rfl fun h3 => ?_; refine Zu<|Zo<|Xe Ks Kp (hB1.ext exq) rfl<|Zq rfl (Vw (a := .agg _) Gp rfl) (k1 _ ((Mono.mono exq h1)) ((Mono.mono exq h2))) ?_; rintro _ w5 ⟨u3, q1, m1, rfl, E5, hO1, hQ1, hm1, hn1⟩; have icu3 := OwnedB.isC hO1; have icq1 := OwnedB.isC (Owned.toB hQ1); have hs5 := E5.size
            refine Ys rfl Xi ?_; rintro b4 w6 hb6 E6 hB4; refine Xk rfl Kp rfl rfl Ke Ke hB4 Ka (((((E1.trans E2).trans E3).trans E4).trans E5).trans E6) ?_; rintro w7 E7 hB4 K1 hz1; have E8 := ((((E2.trans E3).trans E4).trans E5).trans E6).wroteAt exq E7 K1 hz1 Ka; have hB1 := (hB1.ext exq).of_heap (K1 _ Ka); have hB2 := (hB2.ext exq).of_heap (K1 _ Ka); have hB3 := (hB3.ext exq).of_heap (K1 _ Ka); have hO1 := (hO1.ext E6).wrote K1 Ka; have hQ1 := (hQ1.toB.ext E6).wrote K1 Ka; refine Zm<|Zp<|Zo<|Qq Jd Kw hB2 rfl<|Wo rfl (Vt (ps := [(0, .int _ _)]) (cs := [_, _, _]) Yv rfl rfl)<|Wo rfl (Me rfl rfl)<|Yu rfl fun h4 => ?_
            refine Zn rfl<|Zn rfl<|Zn rfl<|Zn rfl<|Vo rfl<|Zm<|Zv rfl ?_; refine Zu<|Zp<|Ve<|Vk Ky Ja rfl<|Yr u1 Ku hB1 rfl<|Qq Jd Kw hB2 rfl<|Zq rfl (Yh (a := u1) (b := .agg _) Tryz.call93 rfl rfl) (k2 _ ((Mono.mono E7 h1))) ?_; rintro _ w8 ⟨u4, rfl, E13, hO2⟩; refine Xj rfl<|Un u4 rfl<|Xr rfl<|Yp u4 rfl<|Zx rfl<|Zm<|Zp<|Zp<|Xx Xt Kb rfl ?_; refine Rt rfl<|Wqnot rfl<|Ry rfl (fun _ _ => Vp (v := .bool _) rfl) (fun h5 => ?_) (fun h5 => ?_); refine Zz rfl<|Zz rfl<|Zz rfl<|Zz rfl<|Zz rfl<|Zz rfl<|Zz rfl<|Zz rfl<|Zz rfl<|Zz rfl<|Zz rfl<|Zz rfl<|Zz rfl<|Zz rfl<|Nn rfl<|Xu (fun w9 E14 => ?_)
            refine Vu rfl ?_; refine Zo<|Xe Ks Kp (hB4.ext exq) rfl<|Ul Kp (hB3.ext (E13.trans E14)) rfl ((E7.trans E13).trans E14) ?_; rintro w10 E15 hB3 K2 hz2; have E16 := ((E8.trans E13).trans E14).wroteAt exq E15 K2 hz2 Ka; have szE16 := E16.size; have hO1 := (hO1.ext exq).wrote K2 Ka; have hQ1 := (hQ1.ext exq).wrote K2 Ka; refine Zx rfl<|Zm<|Zy ?_; rotate_left; contradiction
          exact ⟨b3, u3, q1, rfl, hB3, u3, q1, rfl, by exact E15, hO1.above.mono Ka, hQ1.above.mono Ka, icu3, icq1, Ka⟩
        | some c =>
          rw [hmv, show og (some c) = c from rfl, show (some c).isSome = true from rfl] at k2
          have hc : LeastP c := madeV_least hpp hmv
          have hcp := hc.1
          have k3 : ∀ (w : World) (v : Value), ESl Ints w v c → Does Tryz.prog 62 [v] w (Ret w (str (txt c))) := fun w v h => by
            have := Uk w v _ h
            rwa [if_pos hcp] at this
          by_cases hcq : c = p
          · subst hcq
            have hnx : nextV c ⟨k, t, n⟩ = none := by unfold nextV; rw [hmv]; simp
            rw [hnx]
            simp only
            focus
              refine Zo<|Yk rfl rfl rfl ?_; rintro b1 w1 hb3 E1 hB1; have hlb1 := hB1.lt; refine Yk rfl rfl rfl ?_; rintro b2 w2 hb4 E2 hB2; have hlb2 := hB2.lt; refine Ys rfl Xi ?_; rintro b3 w3 hb5 E3 hB3; have hlb3 := hB3.lt; refine Zx rfl<|Zm<|Zp<|Zp<|Ve<|Xe Ks Kp (hB1.ext exq) rfl<|Zq rfl (Vw (a := .agg _) Gk rfl) (k0 _ ((Mono.mono exq h1)) ((Mono.mono exq h2))) ?_; rintro _ w4 ⟨rfl, E4⟩; have hs4 := E4.size; refine Yl rfl<|Zm<|Yz rfl fun h3 => ?_; refine Zu<|Zo<|Xe Ks Kp (hB1.ext exq) rfl<|Zq rfl (Vw (a := .agg _) Gp rfl) (k1 _ ((Mono.mono exq h1)) ((Mono.mono exq h2))) ?_; rintro _ w5 ⟨u3, q1, m1, rfl, E5, hO1, hQ1, hm1, hn1⟩; have icu3 := OwnedB.isC hO1; have icq1 := OwnedB.isC (Owned.toB hQ1); have hs5 := E5.size
              refine Ys rfl Xi ?_; rintro b4 w6 hb6 E6 hB4; refine Xk rfl Kp rfl rfl Ke Ke hB4 Ka (((((E1.trans E2).trans E3).trans E4).trans E5).trans E6) ?_; rintro w7 E7 hB4 K1 hz1; have E8 := ((((E2.trans E3).trans E4).trans E5).trans E6).wroteAt exq E7 K1 hz1 Ka; have hB1 := (hB1.ext exq).of_heap (K1 _ Ka); have hB2 := (hB2.ext exq).of_heap (K1 _ Ka); have hB3 := (hB3.ext exq).of_heap (K1 _ Ka); have hO1 := (hO1.ext E6).wrote K1 Ka; have hQ1 := (hQ1.toB.ext E6).wrote K1 Ka; refine Zm<|Zp<|Zo<|Qq Jd Kw hB2 rfl<|Wo rfl (Vt (ps := [(0, .int _ _)]) (cs := [_, _, _]) Yv rfl rfl)<|Wo rfl (Me rfl rfl)<|Yu rfl fun h4 => ?_
              refine Zn rfl<|Zn rfl<|Zn rfl<|Zn rfl<|Vo rfl<|Zm<|Zv rfl ?_; refine Zu<|Zp<|Ve<|Vk Ky Ja rfl<|Yr u1 Ku hB1 rfl<|Qq Jd Kw hB2 rfl<|Zq rfl (Yh (a := u1) (b := .agg _) Tryz.call93 rfl rfl) (k2 _ ((Mono.mono E7 h1))) ?_; rintro _ w8 ⟨u4, rfl, E13, hO2⟩; refine Xj rfl<|Un u4 rfl<|Xr rfl<|Yp u4 rfl<|Zx rfl<|Zm<|Zp<|Zp<|Xx Xt Kb rfl ?_; refine Rt rfl<|Wqnot rfl<|Ry rfl (fun _ _ => Vp (v := .bool _) rfl) (fun h5 => ?_) (fun h5 => ?_); contradiction; refine Qm u4 rfl<|Xs rfl (fun _ _ => Rr Ko rfl (Owned.read hO2)) ?_
              refine Uu Ky Ja rfl<|Xs (v := u1) rfl (fun w' hw' => Vr Ku rfl (((hB1.ext E13).ext hw').cell rfl)) ?_; refine Xs rfl (fun _ _ => Rr Ko rfl h1) ?_; refine Rc rfl<|Ux rfl (fun h6 => ?_) (fun h6 => ?_); refine Qm u4 rfl<|Ur rfl (fun _ _ => Vw (a := u4) Jx rfl) (fun w' hw' => (k3 _ _ ((Mono.mono hw' (Owned.read hO2))))) ?_; refine Uu Ky Ja rfl<|Xs (v := u1) rfl (fun w' hw' => Vr Ku rfl (((hB1.ext E13).ext hw').cell rfl)) ?_; refine Ur rfl (fun _ _ => Vw (a := u1) Jx rfl) (fun w' hw' => (k3 _ _ ((Mono.mono exq h1)))) ?_; refine Xs rfl (fun _ _ => Vb rfl rfl) ?_; refine Nn rfl<|Ra rfl<|Xu (fun w9 E14 => ?_); refine Zr rfl (fun h7 => ?_) (fun h7 => ?_)
              refine Zo<|Xe Ks Kp (hB4.ext exq) rfl<|Ul Kp (hB3.ext (E13.trans E14)) rfl ((E7.trans E13).trans E14) ?_; rintro w10 E15 hB3 K2 hz2; have E16 := ((E8.trans E13).trans E14).wroteAt exq E15 K2 hz2 Ka; have szE16 := E16.size; have hO1 := (hO1.ext exq).wrote K2 Ka; have hQ1 := (hQ1.ext exq).wrote K2 Ka; refine Zx rfl<|Zm<|Zy ?_; rotate_left; contradiction; contradiction
            exact ⟨b3, u3, q1, rfl, hB3, u3, q1, rfl, by exact E15, hO1.above.mono Ka, hQ1.above.mono Ka, icu3, icq1, Ka⟩
          · have hnx : nextV p ⟨k, t, n⟩ = some c := by unfold nextV; rw [hmv]; simp [hcq]
            rw [hnx]
            simp only
            have k4 : ∀ (w : World) (v : Value), ESl Ints w v p → Does Tryz.prog 62 [v] w (Ret w (str (txt p))) := fun w v h => by
              have := Uk w v _ h
              rwa [if_pos hpp] at this
            have htx : txt c ≠ txt p := fun e => hcq (txt_inj hcp.gr hpp.gr e)
            have stop12 : True := trivial
            focus
              refine Zo<|Yk rfl rfl rfl ?_; rintro b1 w1 hb3 E1 hB1; have hlb1 := hB1.lt; have hs1 := E1.size; refine Yk rfl rfl rfl ?_; rintro b2 w2 hb4 E2 hB2; have hlb2 := hB2.lt; refine Ys rfl Xi ?_; rintro b3 w3 hb5 E3 hB3; have hlb3 := hB3.lt; refine Zx rfl<|Zm<|Zp<|Zp<|Ve<|Xe Ks Kp (hB1.ext exq) rfl<|Zq rfl (Vw (a := .agg _) Gk rfl) (k0 _ ((Mono.mono exq h1)) ((Mono.mono exq h2))) ?_; rintro _ w4 ⟨rfl, E4⟩; have hs4 := E4.size; refine Yl rfl<|Zm<|Yz rfl fun h3 => ?_; refine Zu<|Zo<|Xe Ks Kp (hB1.ext exq) rfl<|Zq rfl (Vw (a := .agg _) Gp rfl) (k1 _ ((Mono.mono exq h1)) ((Mono.mono exq h2))) ?_; rintro _ w5 ⟨u3, q1, m1, rfl, E5, hO1, hQ1, hm1, hn1⟩; have icu3 := OwnedB.isC hO1; have icq1 := OwnedB.isC (Owned.toB hQ1); have hs5 := E5.size
              refine Ys rfl Xi ?_; rintro b4 w6 hb6 E6 hB4; have hlb4 := hB4.lt; have hs6 := E6.size; refine Xk rfl Kp rfl rfl Ke Ke hB4 Ka (((((E1.trans E2).trans E3).trans E4).trans E5).trans E6) ?_; rintro w7 E7 hB4 K1 hz1; have E8 := ((((E2.trans E3).trans E4).trans E5).trans E6).wroteAt exq E7 K1 hz1 Ka; have E9 := (((E3.trans E4).trans E5).trans E6).wroteAt exq E7 K1 hz1 Ka; have E10 := ((E4.trans E5).trans E6).wroteAt exq E7 K1 hz1 Ka; have E11 := (E5.trans E6).wroteAt exq E7 K1 hz1 Ka; have hB1 := (hB1.ext exq).of_heap (K1 _ Ka); have hB2 := (hB2.ext exq).of_heap (K1 _ Ka); have hB3 := (hB3.ext exq).of_heap (K1 _ Ka); have hO1 := (hO1.ext E6).wrote K1 Ka; have hQ1 := (hQ1.toB.ext E6).wrote K1 Ka
              refine Zm<|Zp<|Zo<|Qq Jd Kw hB2 rfl<|Wo rfl (Vt (ps := [(0, .int _ _)]) (cs := [_, _, _]) Yv rfl rfl)<|Wo rfl (Me rfl rfl)<|Yu rfl fun h4 => ?_; refine Zn rfl<|Zn rfl<|Zn rfl<|Zn rfl<|Vo rfl<|Zm<|Zv rfl ?_; refine Zu<|Zp<|Ve<|Vk Ky Ja rfl<|Yr u1 Ku hB1 rfl<|Qq Jd Kw hB2 rfl<|Zq rfl (Yh (a := u1) (b := .agg _) Tryz.call93 rfl rfl) (k2 _ ((Mono.mono E7 h1))) ?_; rintro _ w8 ⟨u4, rfl, E13, hO2⟩; have ichO2 := OwnedB.isC (Owned.toB hO2); have hs7 := E13.size; refine Xj rfl<|Un u4 rfl<|Xr rfl<|Yp u4 rfl<|Zx rfl<|Zm<|Zp<|Zp<|Xx Xt Kb rfl ?_
              refine Rt rfl<|Wqnot rfl<|Ry rfl (fun _ _ => Vp (v := .bool _) rfl) (fun h5 => ?_) (fun h5 => ?_); contradiction; refine Qm u4 rfl<|Xs rfl (fun _ _ => Rr Ko rfl (Owned.read hO2)) ?_; refine Uu Ky Ja rfl<|Xs (v := u1) rfl (fun w' hw' => Vr Ku rfl (((hB1.ext E13).ext hw').cell rfl)) ?_; refine Xs rfl (fun _ _ => Rr Ko rfl h1) ?_; refine Rc rfl<|Ux rfl (fun h6 => ?_) (fun h6 => ?_); refine Qm u4 rfl<|Ur rfl (fun _ _ => Vw (a := u4) Jx rfl) (fun w' hw' => (k3 _ _ ((Mono.mono hw' (Owned.read hO2))))) ?_; refine Uu Ky Ja rfl<|Xs (v := u1) rfl (fun w' hw' => Vr Ku rfl (((hB1.ext E13).ext hw').cell rfl)) ?_
              refine Ur rfl (fun _ _ => Vw (a := u1) Jx rfl) (fun w' hw' => (k4 _ _ ((Mono.mono exq h1)))) ?_; refine Xs rfl (fun _ _ => Vb rfl rfl) ?_; refine Nn rfl<|Ra rfl<|Xu (fun w9 E14 => ?_); have hs8 := E14.size; refine Vj rfl fun h7 => ?_; refine Zu<|Zp ?_; rotate_left; refine Zz rfl<|Zz rfl<|Zz rfl<|Zz rfl<|Zz rfl<|Zz rfl<|Ra rfl<|Ra rfl<|Xu (fun w9 E14 => ?_); have hs8 := E14.size; refine Zv rfl ?_; refine Zu<|Zp ?_; rotate_left
            · clear stop12
              have stop13 : True := trivial
              have hQ0 := hQ1
              focus
                refine Ve<|Vk Ky Jb rfl<|Yr q1 Je (hB4.ext exq) rfl<|Vk Ky Ja rfl<|Yr u3 Ku (hB4.ext exq) rfl<|Xy rfl Jc Ja Gc rfl (OwnedB.isC (hO1.ext exq)) rfl ?_; rintro b5 w10 hb7 E15 hB5 hHb5; have hs9 := E15.size; refine Wo_app1r rfl el24 rfl rfl hB5 (hQ0.ext ((E13.trans E14).trans E15)) (hO1.ext ((E13.trans E14).trans E15)) Kf Ka Ka (((E7.trans E13).trans E14).trans E15) Ka ?_; have hT1 := (hQ0.ext ((E13.trans E14).trans E15)); rintro v1 w11 hQ0 E16 M1; have E17 := M1.ext hT1 (((E8.trans E13).trans E14).trans E15) Ka; have szE17 := E17.size; have E18 := M1.ext hT1 (((E9.trans E13).trans E14).trans E15) Ka; have E19 := M1.ext hT1 (((E10.trans E13).trans E14).trans E15) Ka
                have E20 := M1.ext hT1 (((E11.trans E13).trans E14).trans E15) Ka; have hB4 := (hB4.ext exq).moves M1 hT1 Ka; have hB1 := (hB1.ext exq).moves M1 hT1 Ka; have hB2 := (hB2.ext exq).moves M1 hT1 Ka; have hB3 := (hB3.ext exq).moves M1 hT1 Ka; have hO1 := (hO1.ext exq).moves M1 hT1 Ka; have hO2 := (hO2.toB.ext exq).moves M1 hT1 Ka; have hB5 := hB5.moves M1 hT1 Ka; have hs10 := E16.size; have icv1 := OwnedB.isC (Owned.toB hQ0); refine Vk Ky Jb rfl<|Xh (v := v1) rfl Jb rfl rfl (OwnedB.isC hQ0.toB) hB4 Ki Ka E16 ?_; rintro w12 E21 hB4 K2 hz2; have E22 := E17.wroteAt E16 E21 K2 hz2 Ka; have E23 := E18.wroteAt E16 E21 K2 hz2 Ka; have E24 := E19.wroteAt E16 E21 K2 hz2 Ka; have E25 := E20.wroteAt E16 E21 K2 hz2 Ka; simp only [List.set] at hB4
                have hB1 := hB1.of_heap (K2 _ Ka); have hB2 := hB2.of_heap (K2 _ Ka); have hB3 := hB3.of_heap (K2 _ Ka); have hO1 := hO1.wrote K2 Ka; have hO2 := hO2.wrote K2 Ka; have hB5 := hB5.of_heap (K2 _ Ka); refine Zm<|Zp<|Zp ?_
              clear stop13
              have hM : Moves w10 q1 w11 v1 := M1
              have hne := hM.ne hQ1 (b := b4) Ka Ka
              clear hQ1
              obtain ⟨nb, nc, rfl, hnc⟩ := hQ0.lit Ki
              have hnl : (pp ++ [p]).length = pp.length + 1 := Ki
              rw [hnl] at hB4 hQ0 hne hnc
              focus
                have szE7 := E7.size; refine Ve<|Vk Ky Jb rfl<|Qh Je hB4 rfl<|Vm Jc rfl (Owned.read hQ0)<|Qo rfl<|Zm<|Zr rfl (fun h8 => ?_) (fun h8 => ?_); refine Ve<|Vk Ky Jb rfl<|Qh Je hB4 rfl<|Wo rfl (Rk Jc Ja rfl rfl Ka) ?_; refine Vk Ky Jb rfl<|Xh (v := .slice _ _ _) rfl Jb rfl rfl rfl hB4 Ki Ka E21 ?_; rintro w13 E26 hB4 K3 hz3; have E27 := E22.wroteAt E21 E26 K3 hz3 Ka; have E28 := E23.wroteAt E21 E26 K3 hz3 Ka; simp only [List.set] at hB4; have hB3 := hB3.of_heap (K3 _ Ka); have hO2 := hO2.wrote K3 Ka
                refine Zm<|Zo<|Va u4 rfl<|Vk Ky Ja rfl<|Xh (v := u4) rfl Ja rfl rfl (OwnedB.isC hO2) hB4 Ki Ka E26 ?_; rintro w14 E31 hB4 K4 hz4; simp only [List.set] at hB4; have hB3 := hB3.of_heap (K4 _ Ka); have hO2 := hO2.wrote K4 Ka; refine Zm<|Zo<|Xe Ks Kp hB4 rfl<|Ul Kp hB3 rfl E31 ?_; rintro w15 E36 hB3 K5 hz5; have hO2 := hO2.wrote K5 Ka; refine Zx rfl<|Zm<|Zy ?_; rotate_left; refine Zu<|Zo<|Va u4 rfl<|Vk Ky Ja rfl<|Xh (v := u4) rfl Ja rfl rfl (OwnedB.isC hO2) hB4 Ki Ka E21 ?_; rintro w13 E26 hB4 K3 hz3; simp only [List.set] at hB4; have hB3 := hB3.of_heap (K3 _ Ka); have hO2 := hO2.wrote K3 Ka
                refine Zm<|Zo<|Xe Ks Kp hB4 rfl<|Ul Kp hB3 rfl E26 ?_; rintro w14 E31 hB3 K4 hz4; have hO2 := hO2.wrote K4 Ka; refine Zx rfl<|Zm<|Zy ?_; rotate_left
              · have hQ3 := (hQ0.wroteLt (w' := w15) (fun k h1 h2 => (K5 k Ka).trans ((K4 k h2).trans ((K3 k h2).trans (K2 k h2)))) Ka hne).above.mono (show w.heap.size ≤ w4.heap.size by omega)
                refine ⟨b3, u4, _, rfl, hB3, u4, _, rfl, by exact E36, hO2.above.mono Ka, ?_, Kd, rfl, Ka⟩
                rw [show last8 (pp ++ [p]) = (pp ++ [p]).drop 1 from if_pos Ka]
                exact hQ3.dropS Ka
              · have hQ3 := (hQ0.wroteLt (w' := w14) (fun k h1 h2 => (K4 k Ka).trans ((K3 k h2).trans (K2 k h2))) Ka hne).above.mono (show w.heap.size ≤ w4.heap.size by omega)
                refine ⟨b3, u4, _, rfl, hB3, u4, _, rfl, by exact E31, hO2.above.mono Ka, ?_, Kd, rfl, Ka⟩
                rw [show last8 (pp ++ [p]) = pp ++ [p] from if_neg Ka]
                exact hQ3
            · clear stop12
              have stop13 : True := trivial
              have hQ0 := hQ1
              focus
                refine Ve<|Vk Ky Jb rfl<|Yr q1 Je (hB4.ext exq) rfl<|Vk Ky Ja rfl<|Yr u3 Ku (hB4.ext exq) rfl<|Xy rfl Jc Ja Gc rfl (OwnedB.isC (hO1.ext exq)) rfl ?_; rintro b5 w10 hb7 E15 hB5 hHb5; have hs9 := E15.size; refine Wo_app1r rfl el24 rfl rfl hB5 (hQ0.ext ((E13.trans E14).trans E15)) (hO1.ext ((E13.trans E14).trans E15)) Kf Ka Ka (((E7.trans E13).trans E14).trans E15) Ka ?_; have hT1 := (hQ0.ext ((E13.trans E14).trans E15)); rintro v1 w11 hQ0 E16 M1; have E17 := M1.ext hT1 (((E8.trans E13).trans E14).trans E15) Ka; have szE17 := E17.size; have E18 := M1.ext hT1 (((E9.trans E13).trans E14).trans E15) Ka; have E19 := M1.ext hT1 (((E10.trans E13).trans E14).trans E15) Ka
                have E20 := M1.ext hT1 (((E11.trans E13).trans E14).trans E15) Ka; have hB4 := (hB4.ext exq).moves M1 hT1 Ka; have hB1 := (hB1.ext exq).moves M1 hT1 Ka; have hB2 := (hB2.ext exq).moves M1 hT1 Ka; have hB3 := (hB3.ext exq).moves M1 hT1 Ka; have hO1 := (hO1.ext exq).moves M1 hT1 Ka; have hO2 := (hO2.toB.ext exq).moves M1 hT1 Ka; have hB5 := hB5.moves M1 hT1 Ka; have hs10 := E16.size; have icv1 := OwnedB.isC (Owned.toB hQ0); refine Vk Ky Jb rfl<|Xh (v := v1) rfl Jb rfl rfl (OwnedB.isC hQ0.toB) hB4 Ki Ka E16 ?_; rintro w12 E21 hB4 K2 hz2; have E22 := E17.wroteAt E16 E21 K2 hz2 Ka; have E23 := E18.wroteAt E16 E21 K2 hz2 Ka; have E24 := E19.wroteAt E16 E21 K2 hz2 Ka; have E25 := E20.wroteAt E16 E21 K2 hz2 Ka; simp only [List.set] at hB4
                have hB1 := hB1.of_heap (K2 _ Ka); have hB2 := hB2.of_heap (K2 _ Ka); have hB3 := hB3.of_heap (K2 _ Ka); have hO1 := hO1.wrote K2 Ka; have hO2 := hO2.wrote K2 Ka; have hB5 := hB5.of_heap (K2 _ Ka); refine Zm<|Zp<|Zp ?_
              clear stop13
              have hM : Moves w10 q1 w11 v1 := M1
              have hne := hM.ne hQ1 (b := b4) Ka Ka
              clear hQ1
              obtain ⟨nb, nc, rfl, hnc⟩ := hQ0.lit Ki
              have hnl : (pp ++ [p]).length = pp.length + 1 := Ki
              rw [hnl] at hB4 hQ0 hne hnc
              focus
                have szE7 := E7.size; refine Ve<|Vk Ky Jb rfl<|Qh Je hB4 rfl<|Vm Jc rfl (Owned.read hQ0)<|Qo rfl<|Zm<|Zr rfl (fun h7 => ?_) (fun h7 => ?_); refine Ve<|Vk Ky Jb rfl<|Qh Je hB4 rfl<|Wo rfl (Rk Jc Ja rfl rfl Ka) ?_; refine Vk Ky Jb rfl<|Xh (v := .slice _ _ _) rfl Jb rfl rfl rfl hB4 Ki Ka E21 ?_; rintro w13 E26 hB4 K3 hz3; have E27 := E22.wroteAt E21 E26 K3 hz3 Ka; have E28 := E23.wroteAt E21 E26 K3 hz3 Ka; simp only [List.set] at hB4; have hB3 := hB3.of_heap (K3 _ Ka); have hO2 := hO2.wrote K3 Ka
                refine Zm<|Zo<|Va u4 rfl<|Vk Ky Ja rfl<|Xh (v := u4) rfl Ja rfl rfl (OwnedB.isC hO2) hB4 Ki Ka E26 ?_; rintro w14 E31 hB4 K4 hz4; simp only [List.set] at hB4; have hB3 := hB3.of_heap (K4 _ Ka); have hO2 := hO2.wrote K4 Ka; refine Zm<|Zo<|Xe Ks Kp hB4 rfl<|Ul Kp hB3 rfl E31 ?_; rintro w15 E36 hB3 K5 hz5; have hO2 := hO2.wrote K5 Ka; refine Zx rfl<|Zm<|Zy ?_; rotate_left; refine Zu<|Zo<|Va u4 rfl<|Vk Ky Ja rfl<|Xh (v := u4) rfl Ja rfl rfl (OwnedB.isC hO2) hB4 Ki Ka E21 ?_; rintro w13 E26 hB4 K3 hz3; simp only [List.set] at hB4; have hB3 := hB3.of_heap (K3 _ Ka); have hO2 := hO2.wrote K3 Ka
                refine Zm<|Zo<|Xe Ks Kp hB4 rfl<|Ul Kp hB3 rfl E26 ?_; rintro w14 E31 hB3 K4 hz4; have hO2 := hO2.wrote K4 Ka; refine Zx rfl<|Zm<|Zy ?_; rotate_left
              · have hQ3 := (hQ0.wroteLt (w' := w15) (fun k h1 h2 => (K5 k Ka).trans ((K4 k h2).trans ((K3 k h2).trans (K2 k h2)))) Ka hne).above.mono (show w.heap.size ≤ w4.heap.size by omega)
                refine ⟨b3, u4, _, rfl, hB3, u4, _, rfl, by exact E36, hO2.above.mono Ka, ?_, Kd, rfl, Ka⟩
                rw [show last8 (pp ++ [p]) = (pp ++ [p]).drop 1 from if_pos Ka]
                exact hQ3.dropS Ka
              · have hQ3 := (hQ0.wroteLt (w' := w14) (fun k h1 h2 => (K4 k Ka).trans ((K3 k h2).trans (K2 k h2))) Ka hne).above.mono (show w.heap.size ≤ w4.heap.size by omega)
                refine ⟨b3, u4, _, rfl, hB3, u4, _, rfl, by exact E31, hO2.above.mono Ka, ?_, Kd, rfl, Ka⟩
                rw [show last8 (pp ++ [p]) = pp ++ [p] from if_neg Ka]
                exact hQ3
  · have k0 : ∀ w, ESl Ints w u1 p → ESl (ESl Ints) w u2 pp → Does Tryz.prog 16 [.agg #[u1, u2]] w (Ret w (.bool false)) := fun w h1 h2 => by
      have := Sj w u1 u2 ⟨p, pp⟩ h1 h2; rwa [decide_eq_false hd] at this
    rw [if_neg hd, if_neg hd, decide_eq_false hd, Bool.false_and]
    focus
      refine Zo<|Yk rfl rfl rfl ?_; rintro b1 w1 hb1 E1 hB1; have hlb1 := hB1.lt; refine Yk rfl rfl rfl ?_; rintro b2 w2 hb2 E2 hB2; have hlb2 := hB2.lt; refine Ys rfl Xi ?_; rintro b3 w3 hb3 E3 hB3; refine Zx rfl<|Zm<|Zp<|Zp<|Ve<|Xe Ks Kp (hB1.ext exq) rfl<|Zq rfl (Vw (a := .agg _) Gk rfl) (k0 _ ((Mono.mono exq h1)) ((Mono.mono exq h2))) ?_; rintro _ w4 ⟨rfl, E4⟩; refine Yl rfl<|Zm<|Xd rfl (fun h3 => ?_) (fun h3 => ?_); refine Zo<|Wo rfl (Vt (ps := []) (cs := [_, _]) Xi rfl rfl)<|Xk rfl Kp rfl rfl Ke Ke (hB3.ext E4) Ka (((E1.trans E2).trans E3).trans E4) ?_; rintro w5 E5 hB3 K1 hz1; have E6 := ((E2.trans E3).trans E4).wroteAt exq E5 K1 hz1 Ka; have szE6 := E6.size
      refine Zx rfl<|Zm<|Zy ?_; rotate_left; contradiction
    exact ⟨b3, _, _, rfl, hB3, _, _, rfl, by exact E5, (Owned.nil (e := 0) (X := XSl 0 XInt)).above, (Owned.nil (e := 0) (X := XSl 0 (XSl 0 XInt))).above, rfl, rfl, Ka⟩
end Go.Proofs.YtbgpppaljpngmaaGreatDoor
