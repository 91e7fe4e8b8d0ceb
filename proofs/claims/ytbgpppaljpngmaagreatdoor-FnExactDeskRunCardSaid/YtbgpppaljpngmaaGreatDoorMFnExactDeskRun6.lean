/- Lemmas for FnExactDeskRun. -/
import Derived.Test.YtbgpppaljpngmaaGreatDoorMFnExactDeskRun5
namespace Go.Proofs.YtbgpppaljpngmaaGreatDoor
open Go.Hs
set_option maxRecDepth 10000
set_option maxHeartbeats 4000000
set_option linter.unusedVariables false
set_option linter.unusedSimpArgs false
def mDig (n : Nat) (o : List UInt8) : List UInt8 := if h : n = 0 then o else mDig (n / 10) (UInt8.ofNat (48 + n % 10) :: o)
termination_by n
decreasing_by omega
theorem mDig_zero (o : List UInt8) : mDig 0 o = o := by rw [mDig]; simp
theorem mDig_pos {n : Nat} (h : 0 < n) (o : List UInt8) : mDig n o = mDig (n / 10) (UInt8.ofNat (48 + n % 10) :: o) := by
  rw [mDig, dif_neg Ka]
def mtx (k : Int) : List UInt8 := if k ≤ 0 then [109, 48] else 109 :: mDig k.toNat []
theorem mDig_len : ∀ (n m : Nat) (o : List UInt8), n ≤ m → (mDig n o).length ≤ o.length + n := by
  intro n m
  induction m generalizing n with
  | zero => intro o h; obtain rfl : n = 0 := by omega
            rw [mDig_zero]; omega
  | succ m ih =>
    intro o h
    rcases Nat.eq_zero_or_pos n with rfl | hp
    · rw [mDig_zero]; omega
    · rw [mDig_pos hp]
      have := ih (n / 10) (UInt8.ofNat (48 + n % 10) :: o) Ka
      simp only [List.length_cons] at this; omega
theorem mtx_len {k : Int} (h : k ≤ 9223372036854) : (mtx k).length ≤ 9223372036855 := by
  unfold mtx
  split
  · simp
  · have := mDig_len k.toNat _ [] (Nat.le_refl _)
    simp only [List.length_nil, Nat.zero_add] at this
    simp only [List.length_cons]; omega
theorem markText_ok (w : World) (k : Int) (hk : k ≤ 9223372036854) : Does Tryz.prog 88 [.int .i64 k] w (Ret w (str (mtx k))) := by
  by_cases h0 : k ≤ 0
  · refine Zb Tryz.func88 rfl Tryz.results88 Tryz.ntmps88 rfl ?_
    focus
      refine Gh<|Qq rfl<|Ge<|Gg<|Gh<|Gk rfl<|Wsleq rfl<|Ge<|Gf rfl (fun h1 => ?_) (fun h1 => ?_); refine Gh<|Qq rfl<|Ge<|Gv ?_; refine Gz (v := .string _) rfl ?_; refine ⟨congrArg str ?_, (Ext.refl _)⟩; rotate_left; contradiction
    rw [mtx, if_pos Kd]
  obtain ⟨K, rfl⟩ := Int.eq_ofNat_of_zero_le (show 0 ≤ k by omega)
  refine Zb Tryz.func88 rfl Tryz.results88 Tryz.ntmps88 rfl ?_
  focus
    refine Gh<|Qq rfl<|Ge<|Gg<|Gh<|Gk rfl<|Wsleq rfl<|Ge<|Gf rfl (fun h1 => ?_) (fun h1 => ?_); contradiction; refine Gn<|Gh<|Qq rfl<|Ge<|Gg<|Gl ?_
  refine Zf [0, 3, 6, 7, 8, 9, 10, 11, 12, 13, 14, 15, 16, 17] (fun ((n, o) : Nat × List UInt8) => [(0, .int .i64 (n : Nat)), (3, str o)]) (fun (n, o) w' => Ext w w' ∧ o.length + n ≤ K ∧ mDig n o = mDig K []) (fun x => x.1) (K, []) Kg ?_ ?_
  · exact ⟨by first | assumption | exact Ext.refl _, Ki, rfl⟩
  rintro ⟨n, o⟩ ρj w2 ⟨E2, hlen, hm⟩
  by_cases hn : 0 < n
  · focus
      refine Gg<|Gh<|Gk rfl<|Xo rfl<|Ge<|Gf rfl (fun h2 => ?_) (fun h2 => ?_); refine Gn<|Gl<|Gh<|Gk rfl<|Wo rfl (opv_rem rfl rfl Ka) ?_; refine Ze rfl<|Wo rfl (opv_conv_u8 Ju Jp rfl Ka) ?_; refine Zi (ps := [(0, .int _ _)]) (cs := [_]) rfl Tryz.underlying22 Tryz.sizeOf5 Tryz.zeroValue5 rfl rfl rfl rfl ?_; rintro b1 w1 hb1 E1 hB1 hHb1; refine Wo rfl (opv_conv_b1 Tryz.underlying22 Jp Jj rfl Kd) ?_; refine Qg rfl<|Wo rfl (Uc rfl rfl (by simp <;> omega)) ?_; refine Qq rfl<|Ge<|Gy<|Gk rfl<|Wo rfl (opv_quo rfl rfl Ka) ?_; refine Gw rfl<|Ge ?_; rotate_left; (exfalso; omega)
    refine ⟨((n / 10, UInt8.ofNat (48 + n % 10) :: o)), Kg, Kh, ?_, ?_⟩
    · refine ⟨E2.trans Kd, by simp; omega, ?_⟩
      rw [← mDig_pos hn, hm]
    · simp only; omega
  · focus
      refine Gg<|Gh<|Gk rfl<|Xo rfl<|Ge<|Gf rfl (fun h2 => ?_) (fun h2 => ?_); (exfalso; omega); refine Zd ?_; refine Gp ?_; refine Gh<|Qg rfl<|Wo rfl (Uc rfl rfl (by simp <;> omega)) ?_; refine Qq rfl<|Ge<|Gv ?_; refine Gz (v := .string _) rfl ?_; refine ⟨congrArg str ?_, E2⟩
    obtain rfl : n = 0 := Ka
    rw [mtx, if_neg h0, Int.toNat_natCast, ← hm, mDig_zero]
    rfl
def mkD (k0 : Int) (n : Nat) : List Deed := (List.range n).map fun (i : Nat) => ⟨k0 + 3 * (i : Int), mtx (k0 + 3 * (i : Int) + 1), k0 + 3 * (i : Int) + 1 + 1⟩
theorem mkD_len (k0 : Int) (n : Nat) : (mkD k0 n).length = n := by simp [mkD]
theorem mkD_set {k0 : Int} {l : List Deed} {k : Nat} (h : k < l.length) : (mkD k0 k ++ l.drop k).set k ⟨k0 + 3 * (k : Int), mtx (k0 + 3 * (k : Int) + 1), k0 + 3 * (k : Int) + 1 + 1⟩ = mkD k0 (k + 1) ++ l.drop (k + 1) := by
  rw [List.set_append_right _ _ (by rw [mkD_len]; omega), mkD_len, Nat.sub_self, List.drop_eq_getElem_cons h, List.set_cons_zero]
  simp [mkD, List.range_succ]
theorem markDeedS2_ok (w : World) {e : TypeId} {lo hi : Nat} (v : Value) (l : List Deed) (h : OD e lo w v l) (hhi : ∀ k, v.ownBlock = some k → k < hi) (k0 : Int) (hk0 : 0 ≤ k0 ∧ k0 ≤ 4194304) (hn : l.length ≤ 1048576) :
    Does Tryz.prog 48 [v, .int .i64 k0] w (RetS lo hi w (Value.int .i64) (fun z w' => z = k0 + 3 * (l.length : Int) ∧ OD e lo w' v (mkD k0 l.length))) := by
  by_cases h0 : l = []
  · subst h0
    have hR := h.read
    refine Zb Tryz.func48 rfl Tryz.results48 Tryz.ntmps48 rfl ?_
    focus
      refine Gh<|Gw rfl<|Ge<|Gg<|Gh<|Gw rfl<|Ge<|Gl ?_
    refine Zf [1, 5, 6, 7, 8, 9, 10, 11, 12, 13, 14, 15, 16, 17, 18, 19, 20, 21, 22, 23, 24, 25, 26, 27, 28, 29, 30, 31, 32, 33] (fun (k : Nat) => [(5, .int .i64 (k : Nat)), (1, .int .i64 k0)]) (fun k w' => w' = w ∧ k = 0) (fun x => 0) 0 Kg ?_ ?_
    · exact ⟨rfl, rfl⟩
    rintro k ρj w1 ⟨rfl, rfl⟩
    focus
      refine Gg<|Gh<|Gk rfl<|Gq v rfl<|Wo rfl (Vw Je rfl hR)<|Gs rfl<|Ge<|Gf rfl (fun h1 => ?_) (fun h1 => ?_); contradiction; refine Zd ?_; refine Gp ?_; refine Gh<|Gk rfl<|Gw rfl<|Ge<|Gv ?_; refine Gz (v := .int _ _) rfl ?_
    exact ⟨_, rfl, Span.refl, Ki, by simpa [mkD] using h⟩
  obtain ⟨b, c, rfl⟩ := h.lit (List.length_pos_iff.2 h0)
  have hb : lo ≤ b ∧ b < hi := ⟨(h.lt (k := b) rfl).1, hhi b rfl⟩
  refine Zb Tryz.func48 rfl Tryz.results48 Tryz.ntmps48 rfl ?_
  focus
    refine Gh<|Gw rfl<|Ge<|Gg<|Gh<|Gw rfl<|Ge<|Gl ?_
  refine Zf [1, 5, 6, 7, 8, 9, 10, 11, 12, 13, 14, 15, 16, 17, 18, 19, 20, 21, 22, 23, 24, 25, 26, 27, 28, 29, 30, 31, 32, 33] (fun ((k, m) : Nat × Int) => [(5, .int .i64 (k : Nat)), (1, .int .i64 (m : Int))]) (fun (k, m) w' => Span lo hi w w' ∧ k ≤ l.length ∧ m = k0 + 3 * (k : Int) ∧ OD e lo w' (.slice (some ⟨b, 0, none⟩) l.length c) (mkD k0 k ++ l.drop k)) (fun x => l.length - x.1) (0, k0) Kg ?_ ?_
  · exact ⟨Span.refl, Nat.zero_le _, Ki, by simpa [mkD] using h⟩
  rintro ⟨k, m⟩ ρj w1 ⟨S1, hk, hm0, hO1⟩
  have hml : (mkD k0 k ++ l.drop k).length = l.length := by simp [mkD_len]; omega
  by_cases hkl : k < l.length
  · have kt : ∀ (w : World), Does Tryz.prog 88 [.int .i64 (m + 1)] w (Ret w (str (mtx (m + 1)))) := fun w => markText_ok w _ Ka
    have hmt := mtx_len (k := m + 1) Ka
    have hml2 := mkD_len k0 k
    focus
      refine Gg<|Gh<|Gk rfl<|Yc rfl<|Wo rfl (Vw Je rfl (OD.read hO1))<|Gs rfl<|Ge<|Gf rfl (fun h1 => ?_) (fun h1 => ?_); refine Gn<|Gg<|Gl<|Gh<|Yc rfl<|Gk rfl<|Gk rfl<|Wo rfl (Yu Je Jc rfl rfl Ka) ?_; refine Za Kp Kl rfl<|Wo_stD0 rfl Kl rfl rfl hO1 Kf ?_; rintro w2 hO1 On1 K1 hz1; refine Ge<|Gh<|Gk rfl<|Ze rfl<|Gw rfl<|Ge<|Gh<|Yc rfl<|Gk rfl<|Gk rfl<|Gj rfl (Zx (a := .int _ _) Tryz.call88 rfl) (kt _) ?_; rintro _ w3 ⟨rfl, E1⟩; refine Wo rfl (Yu Je Jc rfl rfl Ka) ?_; refine Za Kp Kz rfl ?_
      refine Wo_stD1 rfl Kz rfl rfl (hO1.ext E1) Kf Kf ?_; rintro w4 hO1 On2 K2 hz2; refine Ge<|Gg<|Gy<|Gk rfl<|Ze rfl<|Gw rfl<|Ge<|Gh<|Yc rfl<|Gk rfl<|Gk rfl<|Wo rfl (Yu Je Jc rfl rfl Ka) ?_; refine Za Kp Kl rfl<|Wo_stD2 rfl Kl rfl rfl hO1 Kf ?_; rintro w5 hO1 On3 K3 hz3; refine Ge<|Gy<|Gk rfl<|Ze rfl<|Gw rfl<|Ge<|Gy<|Gk rfl<|Ze rfl<|Gw rfl<|Ge ?_; rotate_left; (exfalso; omega)
    refine ⟨((k + 1, m + 1 + 1 + 1)), Kg, Kh, ?_, ?_⟩
    · simp only [List.set_set, List.getElem_set_self] at hO1
      refine ⟨S1.trans ((Span.only1 On1 hb.1 hb.2).trans (E1.toSpan.trans ((Span.only1 On2 hb.1 hb.2).trans (Span.only1 On3 hb.1 hb.2)))), Ka, Ka, ?_⟩
      rw [← mkD_set hkl, ← hm0]
      exact hO1
    · simp only; omega
  · focus
      refine Gg<|Gh<|Gk rfl<|Yc rfl<|Wo rfl (Vw Je rfl (OD.read hO1))<|Gs rfl<|Ge<|Gf rfl (fun h1 => ?_) (fun h1 => ?_); (exfalso; omega); refine Zd ?_; refine Gp ?_; refine Gh<|Gk rfl<|Gw rfl<|Ge<|Gv ?_; refine Gz (v := .int _ _) rfl ?_
    obtain rfl : k = l.length := Ka
    exact ⟨_, rfl, S1, hm0, by simpa using hO1⟩
end Go.Proofs.YtbgpppaljpngmaaGreatDoor
namespace Go.Proofs.YtbgpppaljpngmaaGreatDoor
open Go.Hs
set_option maxRecDepth 10000
set_option maxHeartbeats 4000000
set_option linter.unusedVariables false
set_option linter.unusedSimpArgs false
theorem ESD_text2 {w : World} {v : Value} {l : List Deed} (h : ESD w v l) : ∀ a ∈ l, a.text.length ≤ 9223372036854775807 := by
  obtain ⟨a, c, rfl, h1, rfl | ⟨b, o, rfl, h2⟩⟩ := h
  · intro a h; cases h
  · intro a h
    obtain ⟨i, hi, rfl⟩ := List.mem_iff_getElem.1 h
    exact (h2 i hi).2.2.2
open Classical in
theorem drV_total (d : Dsk) (l : List Deed) : total (drV d l).1.now ≤ 25 ∧ total3 (drV d l).1.past ≤ 200 ∧ (drV d l).1.now.length ≤ 5 ∧ (drV d l).1.past.length ≤ 8 ∧ ∀ q ∈ (drV d l).1.past, q.length ≤ 5 := by
  unfold drV
  split
  · rename_i h
    have h1 := runV_ok h.1 l
    have := dk_total h1
    exact ⟨this.1, this.2.1, this.2.2.1, h1.2.1, this.2.2.2⟩
  · exact ⟨by simp [total], by simp [total3], Ki, Ki, fun q hq => by cases hq⟩
open Classical in
theorem FnExactDeskRun_walk (w : World) (hM : EMx gMx w (.bool true) ()) (u1 u2 : Value) (p : List (List Int)) (pp : List (List (List Int))) (h1 : ESl Ints w u1 p) (h2 : ESl (ESl Ints) w u2 pp) (vl : Value) (l : List Deed) (h3 : ESD w vl l) :
    Does Tryz.prog 9 [.agg #[u1, u2], vl] w (Ret w (.bool true)) := by
  have icu1 : isCell u1 = true := Yw h1
  have icu2 : isCell u2 = true := Yw h2
  have hx0 := ESD_text2 h3
  refine Zb Tryz.func9 rfl Tryz.results9 Tryz.ntmps9 rfl ?_
  have stop3 : True := trivial
  focus
    refine Gh<|Zu rfl rfl rfl ?_; rintro b1 w1 hb1 E1 hB1; have hlb1 := hB1.lt; refine Gx rfl<|Ge<|Gg<|Gy<|Gw rfl<|Ge<|Gh<|Vp Jz Ga hB1 rfl<|Gk rfl<|Gj rfl (Va (a := .agg _) (b := .int _ _) Tryz.call25 rfl rfl) (szDesk_ok _ _ _ _ _ ((Mono.mono E1 h1)) ((Mono.mono E1 h2)) _ Ka) ?_; rintro _ w2 ⟨E2, y1, rfl, hy1⟩; have hs2 := E2.size; refine Gw rfl<|Ge<|Gg<|Gg ?_
  clear stop3
  rcases hy1 with h9 | ⟨h9, h10, h11, h12, h13, h14⟩
  · focus
      refine Gy<|Gk rfl<|Gs rfl<|Ge<|Gf rfl (fun h4 => ?_) (fun h4 => ?_); refine Gh<|Gx rfl<|Ge<|Gv ?_; exact ⟨rfl, exq⟩; (exfalso; omega)
  have stop6 : True := trivial
  have kZ : ∀ (w : World), ESD w vl l → Does Tryz.prog 45 [vl, .int .i64 y1] w (RetX w (Value.int .i64) (fun z _ => z = -1 ∨ (0 ≤ z ∧ z ≤ 1048576 ∧ l.length ≤ 1048576 ∧ ∀ a ∈ l, a.text.length ≤ 1048576))) := fun w h => szDeedS_ok w vl l h hx0 y1 Ka
  focus
    have szE2 := E2.size; have szE1 := E1.size; refine Gy<|Gk rfl<|Gs rfl<|Ge<|Gf rfl (fun h4 => ?_) (fun h4 => ?_); (exfalso; omega); refine Gn<|Gh<|Gq vl rfl<|Gk rfl<|Gj rfl (Va (a := vl) (b := .int _ _) Tryz.call45 rfl rfl) (kZ _ ((Mono.mono exq h3))) ?_; rintro _ w3 ⟨E3, y2, rfl, hy1⟩; have hs3 := E3.size; refine Gw rfl<|Ge<|Gg<|Gg ?_
  clear stop6 kZ
  rcases hy1 with h8 | ⟨h8, h15, hll, hx⟩
  · focus
      refine Gy<|Gk rfl<|Gs rfl<|Ge<|Gf rfl (fun h5 => ?_) (fun h5 => ?_); refine Gh<|Gx rfl<|Ge<|Gv ?_; exact ⟨rfl, exq⟩; (exfalso; omega)
  obtain ⟨c, hcd⟩ : ∃ c, c = drV ⟨p, pp⟩ l := ⟨_, rfl⟩
  obtain ⟨ht25, ht200, hl5, hl8, hq5⟩ := drV_total ⟨p, pp⟩ l
  have kT : ∀ (w : World), ESl Ints w u1 p → ESl (ESl Ints) w u2 pp → Does Tryz.prog 27 [.agg #[u1, u2]] w (RetDk w 23 88 3 p pp) := fun w h1 h2 => toDesk_ok w u1 u2 p pp h1 h2 ⟨h11, h12⟩ h13 h14
  have kD : ∀ (w : World), ESD w vl l → Does Tryz.prog 46 [vl] w (RetOD w 48 l) := fun w h => toDeedS_ok w vl l h hll hx0
  have kI : ∀ (w : World) (v1 v2 vd : Value), EMx gMx w (.bool true) () → ESl Ints w v1 p → ESl (ESl Ints) w v2 pp → ESD w vd l → Does Tryz.prog 43 [.agg #[v1, v2], vd] w (RetDkZ w 23 88 3 c.1.now c.1.past (c.2 : Nat)) := fun w v1 v2 vd hM h1 h2 h3 => hcd ▸ impl_DeskRun_ok w hM v1 v2 ⟨p, pp⟩ h1 h2 vd l h3 hx
  have kS : ∀ (w : World) (v1 v2 vd : Value), ESl Ints w v1 p → ESl (ESl Ints) w v2 pp → ESD w vd l → Does Tryz.prog 44 [.agg #[v1, v2], vd] w (RetDkRZ w c.1.now c.1.past (c.2 : Nat)) := fun w v1 v2 vd h1 h2 h3 => hcd ▸ spec_DeskRun_ok w v1 v2 ⟨p, pp⟩ h1 h2 vd l h3 hx
  rw [← hcd] at ht25 ht200 hl5 hl8 hq5
  clear hcd
  obtain ⟨⟨now, past⟩, b⟩ := c
  simp only at ht25 ht200 hl5 hl8 hq5 kI kS
  have kE : ∀ (w : World) (v1 v2 t1 t2 : Value), ESl Ints w v1 now → ESl (ESl Ints) w v2 past → ESl Ints w t1 now → ESl (ESl Ints) w t2 past → Does Tryz.prog 29 [.agg #[v1, v2], .agg #[t1, t2]] w (Ret w (.bool true)) := fun w v1 v2 t1 t2 h1 h2 h3 h4 => by
    have := eqDesk_ok w v1 v2 t1 t2 now now past past h1 h2 h3 h4
    rwa [decide_eq_true ⟨rfl, rfl⟩] at this
  have kEp : ∀ (w : World) (v1 v2 t1 t2 : Value), ESl Ints w v1 p → ESl (ESl Ints) w v2 pp → ESl Ints w t1 p → ESl (ESl Ints) w t2 pp → Does Tryz.prog 29 [.agg #[v1, v2], .agg #[t1, t2]] w (Ret w (.bool true)) := fun w v1 v2 t1 t2 h1 h2 h3 h4 => by
    have := eqDesk_ok w v1 v2 t1 t2 p p pp pp h1 h2 h3 h4
    rwa [decide_eq_true ⟨rfl, rfl⟩] at this
  have kED : ∀ (w : World) (v u : Value), ESD w v l → ESD w u l → Does Tryz.prog 47 [v, u] w (Ret w (.bool true)) := fun w v u h h' => by
    have := eqDeedS_ok w v u _ _ h h'
    rwa [decide_eq_true rfl] at this
  have kM0 : ∀ (w : World) (lo m hi : Nat) (v1 v2 : Value), OwnedB lo m XR w v1 p → OwnedB m hi (XSl 23 XR) w v2 pp → lo ≤ m → m ≤ hi → hi ≤ w.heap.size → Does Tryz.prog 31 [.agg #[v1, v2], .int .i64 1] w (RetS lo hi w (fun _ : Unit => .int .i64 (1 + (total p : Nat) + (total3 pp : Nat))) (fun _ _ => True)) := fun w lo m hi v1 v2 h1 h2 h3 h4 h5 => by
    refine (markDesk_ok w v1 v2 p pp h1 h2 h3 h4 h5 1 Kc h11 Ka h13 (fun q hq => (h14 q hq).1) Ka).mono fun v w' h => ?_
    obtain ⟨z, rfl, hs, rfl, _, _⟩ := h
    exact ⟨(), rfl, hs, trivial⟩
  have kM : ∀ (w : World) (lo m hi : Nat) (v1 v2 : Value), OwnedB lo m XR w v1 now → OwnedB m hi (XSl 23 XR) w v2 past → lo ≤ m → m ≤ hi → hi ≤ w.heap.size → Does Tryz.prog 31 [.agg #[v1, v2], .int .i64 1] w (RetS lo hi w (Value.int .i64) (fun z w' => z = 1 + (total now : Nat) + (total3 past : Nat) ∧ OwnedB lo m XR w' v1 (marksS 1 now) ∧ OwnedB m hi (XSl 23 XR) w' v2 (marks3 (1 + (total now : Nat)) past))) := fun w lo m hi v1 v2 h1 h2 h3 h4 h5 =>
    markDesk_ok w v1 v2 now past h1 h2 h3 h4 h5 1 Kc Ka Ka Ka (fun q hq => by have := hq5 q hq; omega) Ka
  have kH : ∀ (w : World) (v1 v2 : Value), ESl Ints w v1 (marksS 1 now) → ESl (ESl Ints) w v2 (marks3 (1 + (total now : Nat)) past) → Does Tryz.prog 33 [.agg #[v1, v2], .int .i64 1] w (Ret w (.int .i64 (1 + (total now : Nat) + (total3 past : Nat)))) := fun w v1 v2 h1 h2 =>
    heldDesk_ok w v1 v2 now past 1 h1 h2 Kc Ka Ka (fun q hq => by have := hq5 q hq; omega) Ka
  have heldS : w = w := rfl
  have stop8 : True := trivial
  focus
    have szE3 := E3.size; have szE2 := E2.size; have szE1 := E1.size; refine Gy<|Gk rfl<|Gs rfl<|Ge<|Gf rfl (fun h5 => ?_) (fun h5 => ?_); (exfalso; omega); refine Gn<|Gg ?_
  clear stop8
  focus
    have hB1 := (hB1.ext (E2.trans E3)); have Ew1 := ((E1.trans E2).trans E3); clear E1; clear E2; clear szE2; clear szE2; clear szE1; clear szE1; clear E3; clear szE3
  refine W_mid [28, 29, 30, 31, 32, 27, 33, 34, 6, 7] (fun ((b9, x1, x2, lo, hi) : Nat × Value × Value × Nat × Nat) => [(6, .pointer (some ⟨b9, 0, none⟩)), (7, .int .i64 (b : Nat))]) (fun (b9, x1, x2, lo, hi) w' => Ext w3 w' ∧ Blk w' b9 [x1, x2] ∧ OwnedB lo hi (XRd (ESl Ints)) w' x1 now ∧ OwnedB lo hi (XRd (ESl (ESl Ints))) w' x2 past ∧ isCell x1 = true ∧ isCell x2 = true ∧ w3.heap.size ≤ lo ∧ w3.heap.size ≤ b9 ∧ hi ≤ w'.heap.size ∧ b9 < w'.heap.size ∧ (hi ≤ b9 ∨ b9 < lo)) ?_ ?_
  · focus
      refine Gy<|Vp Jz Ga hB1 rfl<|Gj rfl (Zx (a := .agg _) Gb rfl) (kT _ ((Mono.mono Ew1 h1)) ((Mono.mono Ew1 h2))) ?_; rintro _ w4 ⟨u3, q1, m1, rfl, E1, hO1, hQ1, hm1, hn1⟩; have hs4 := E1.size; refine Gq vl rfl<|Gj rfl (Zx (a := vl) Tryz.call46 rfl) (kD _ ((Mono.mono exq h3))) ?_; rintro u4 w5 ⟨E2, hO2⟩; have hs5 := E2.size; refine Gj rfl (Va (a := .agg _) (b := u4) Tryz.call44 rfl rfl) (kS _ _ _ _ ((Mono.mono E2 (OwnedB.read hO1))) ((Mono.mono E2 (Owned.read hQ1))) ((OD.read hO2))) ?_; rintro _ w6 ⟨u5, q2, rfl, E3, hA1, hC1, icu5, icq2⟩; have hs6 := E3.size; refine Xe rfl<|WsxA rfl<|WsxI rfl<|Zt rfl Vf ?_
      rintro b2 w7 hb2 E4 hB2; have hlb2 := hB2.lt; refine Yo rfl Kq rfl rfl Ke Ke hB2 Ka ((((Ew1.trans E1).trans E2).trans E3).trans E4) ?_; rintro w8 E5 hB2 K1 hz1; have E6 := (((E1.trans E2).trans E3).trans E4).wroteAt exq E5 K1 hz1 Ka; have E9 := E4.wroteAt exq E5 K1 hz1 Ka; have szE9 := E9.size; have hA1 := (hA1.ext E4).wrote K1 Ka; have hC1 := (hC1.ext E4).wrote K1 Ka; refine Gw rfl<|Ge ?_
    all_goals exact ⟨(b2, u5, q2, _, _), ⟨rfl, rfl, trivial⟩, Kh, by repeat (first | assumption | refine Ext.trans Kd ?_), hB2, hA1, hC1, icu5, icq2, Ka, Ka, Ka, Ka, Ka⟩
  rintro ⟨b9, x1, x2, lo1, hi1⟩ ρ5 w4 ⟨E5, hB9, hX1, hX2, icx1, icx2, hlo1, hb9, hhi1, hb9', hd1⟩
  have hq5 := E5.size
  have stop11 : True := trivial
  focus
    have szE5 := E5.size; have szEw1 := Ew1.size; refine Gh<|Vp Jz Ga (hB1.ext E5) rfl<|Gj rfl (Zx (a := .agg _) Gb rfl) (kT _ ((Mono.mono exq h1)) ((Mono.mono exq h2))) ?_; rintro _ w5 ⟨u3, q1, m1, rfl, E1, hO1, hQ1, hm1, hn1⟩; have icu3 := OwnedB.isC hO1; have icq1 := OwnedB.isC (Owned.toB hQ1); have hs4 := E1.size; refine Zt rfl Vf ?_; rintro b2 w6 hb2 E2 hB2; have hlb2 := hB2.lt; have hs5 := E2.size; refine Yo rfl Kq rfl rfl Ke Ke hB2 Ka (((Ew1.trans E5).trans E1).trans E2) ?_; rintro w7 E3 hB2 K1 hz1; have E4 := ((E5.trans E1).trans E2).wroteAt exq E3 K1 hz1 Ka; have szE4 := E4.size; have E6 := (E1.trans E2).wroteAt exq E3 K1 hz1 Ka
    have szE6 := E6.size; have E7 := E2.wroteAt exq E3 K1 hz1 Ka; have szE7 := E7.size; have hB1 := (hB1.ext exq).of_heap (K1 _ Ka); have hB9 := (hB9.ext exq).of_heap (K1 _ Ka); have hX1 := (hX1.ext exq).wrote K1 Ka; have hX2 := (hX2.ext exq).wrote K1 Ka; have hO1 := (hO1.ext E2).wrote K1 Ka; have hQ1 := (hQ1.toB.ext E2).wrote K1 Ka; refine Ge<|Gh<|Gq vl rfl<|Gj rfl (Zx (a := vl) Tryz.call46 rfl) (kD _ ((Mono.mono E3 h3))) ?_; rintro u4 w8 ⟨E8, hO2⟩; have hs6 := E8.size; refine Zv u4 rfl<|Ge<|Gg ?_
  clear stop11
  have hhi : ∀ k, u4.ownBlock = some k → k < w8.heap.size := fun k hk => (hO2.lt hk).2
  focus
    have hB2 := (hB2.ext E8); have hB1 := (hB1.ext E8); have hB9 := (hB9.ext E8); have hX1 := (hX1.ext E8); have hX2 := (hX2.ext E8); have hO1 := (hO1.ext E8); have hQ1 := (hQ1.ext E8); have Ew2 := (E3.trans E8); clear Ew1; clear E5; clear szE5; clear szEw1; clear E1; clear E2; clear E3; clear E4; clear szE4; clear E6; clear szE6; clear E7; clear szE7; clear E8
  refine W_mid [40, 41, 42, 39, 43, 44, 10, 11] (fun ((b8, y1, y2, lo, m, hi) : Nat × Value × Value × Nat × Nat × Nat) => [(10, .pointer (some ⟨b8, 0, none⟩)), (11, .int .i64 (b : Nat))]) (fun (b8, y1, y2, lo, m, hi) w' => Ext w8 w' ∧ Blk w' b8 [y1, y2] ∧ OwnedB lo m XR w' y1 now ∧ OwnedB m hi (XSl 23 XR) w' y2 past ∧ isCell y1 = true ∧ isCell y2 = true ∧ w8.heap.size ≤ lo ∧ lo ≤ m ∧ m ≤ hi ∧ w8.heap.size ≤ b8 ∧ hi ≤ w'.heap.size ∧ b8 < w'.heap.size ∧ (hi ≤ b8 ∨ b8 < lo)) ?_ ?_
  · focus
      refine Gy<|Vp Kv Kq hB2 rfl<|Gq u4 rfl<|Gj rfl (Va (a := .agg _) (b := u4) Tryz.call43 rfl rfl) (kI _ _ _ _ ((Mono.mono Ew2 hM)) ((OwnedB.read hO1)) ((OwnedB.read hQ1)) ((OD.read hO2))) ?_; rintro _ w9 ⟨u5, q2, m2, rfl, E1, hO3, hQ2, hm2, hn2⟩; have icu5 := OwnedB.isC hO3; have icq2 := OwnedB.isC (Owned.toB hQ2); have hs7 := E1.size; refine Xe rfl<|WsxA rfl<|WsxI rfl<|Zt rfl Vf ?_; rintro b3 w10 hb3 E2 hB3; have hlb3 := hB3.lt; refine Xy Kq hB3 rfl ((Ew2.trans E1).trans E2) ?_; rintro w11 E3 hB3 K2 hz2; have E4 := (E1.trans E2).wroteAt exq E3 K2 hz2 Ka; have E5 := E2.wroteAt exq E3 K2 hz2 Ka; have szE5 := E5.size; have hO3 := (hO3.ext E2).wrote K2 Ka; have hQ2 := (hQ2.toB.ext E2).wrote K2 Ka; refine Gw rfl<|Ge ?_
    all_goals exact ⟨(b3, u5, q2, _, m2, _), ⟨rfl, rfl, trivial⟩, Kh, by repeat (first | assumption | refine Ext.trans Kd ?_), hB3, hO3, hQ2, icu5, icq2, Ka, Ka, Ka, Ka, Ka, Ka, Ka⟩
  rintro ⟨b8, g1, g2, lo2, m2, hi2⟩ ρ9 w9 ⟨E15, hB8, hG1, hG2, icg1, icg2, hlo2, hm2, hm2', hb8, hhi2, hb8', hd2⟩
  have stop14 : True := trivial
  focus
    have szE15 := E15.size; have szEw2 := Ew2.size; refine Gg<|Gh<|Vp Kv Kq hB8 rfl<|Vp Kv Kq (hB9.ext E15) rfl<|Gj rfl (Va (a := .agg _) (b := .agg _) Gc rfl rfl) (kE _ _ _ _ _ ((OwnedB.read hG1)) ((OwnedB.read hG2)) ((Mono.mono E15 (OwnedB.read hX1))) ((Mono.mono E15 (OwnedB.read hX2)))) ?_; rintro _ w10 ⟨rfl, E1⟩; have hs7 := E1.size; refine Zy rfl<|Vd rfl (Zg (v := .bool _) rfl) (fun h6 => ?_) (fun h6 => ?_); contradiction; refine Gk rfl<|Gk rfl<|Yn rfl<|Zw rfl<|Ge<|Zk rfl (fun h7 => ?_) (fun h7 => ?_); contradiction; refine Gn<|Gg<|Gg ?_
  clear stop14
  focus
    have hB2 := (hB2.ext (E15.trans E1)); have hB1 := (hB1.ext (E15.trans E1)); have hB9 := (hB9.ext (E15.trans E1)); have hX1 := (hX1.ext (E15.trans E1)); have hX2 := (hX2.ext (E15.trans E1)); have hO1 := (hO1.ext (E15.trans E1)); have hQ1 := (hQ1.ext (E15.trans E1)); have hB8 := (hB8.ext E1); have hG1 := (hG1.ext E1); have hG2 := (hG2.ext E1); have hO2 := Mono.mono (E15.trans E1) hO2; have Ew1 := ((Ew2.trans E15).trans E1); clear Ew2; clear E15; clear szE15; clear szEw2; clear E1
  refine W_mid [54, 55, 56, 57, 58] (fun _ : Unit => [(58, .bool false)]) (fun _ w' => Ext w10 w') ?_ ?_
  · focus
      refine Ra (fun w' => Ext w w') Vt rfl Kb ?_; intro w11 E1 K2 hz2; refine Wha [0, 1]<|Zc rfl ?_ ?_; refine Vp Kv Kq (hB2.ext E1) rfl<|Ge ?_; refine ⟨exq, ?_⟩; refine Wha [1]<|Zc rfl ?_ ?_; refine Vp Jz Ga (hB1.ext E1) rfl<|Ge ?_; refine ⟨exq, ?_⟩; refine Wha [2]<|Zc rfl ?_ ?_; refine Gj rfl (Zx (a := .agg _) Gb rfl) (kT _ ((Mono.mono exq h1)) ((Mono.mono exq h2))) ?_; rintro _ w12 ⟨u5, q2, m3, rfl, E2, hO3, hQ2, hm3, hn2⟩; refine Ge ?_; refine ⟨exq, ?_⟩; refine Wha [3]<|Zc rfl ?_ ?_; refine Gj rfl (Va (a := .agg _) (b := .agg _) Gc rfl rfl) (kEp _ _ _ _ _ ((Mono.mono exq (OwnedB.read hO1))) ((Mono.mono exq (OwnedB.read hQ1))) ((OwnedB.read hO3)) ((Owned.read hQ2))) ?_; rintro _ w13 ⟨rfl, E3⟩; refine Ge ?_; refine ⟨exq, ?_⟩
      refine Vm 4 rfl Kb Kb rfl (fun _ _ => Rc rfl) exq ?_; refine Yp Kb ?_; rotate_left; exact Zh; exact Zh; exact Zh; refine Zc rfl ?_ ?_; refine Vp Jz Ga (hB1.ext E1) rfl<|Ge ?_; refine ⟨exq, ?_⟩; refine Wha [0, 2]<|Zc rfl ?_ ?_; refine Vp Kv Kq (hB2.ext E1) rfl<|Ge ?_; refine ⟨exq, ?_⟩; refine Wha [2]<|Zc rfl ?_ ?_; refine Gj rfl (Zx (a := .agg _) Gb rfl) (kT _ ((Mono.mono exq h1)) ((Mono.mono exq h2))) ?_; rintro _ w12 ⟨u5, q2, m3, rfl, E2, hO3, hQ2, hm3, hn2⟩; refine Ge ?_; refine ⟨exq, ?_⟩; refine Wha [3]<|Zc rfl ?_ ?_
      refine Gj rfl (Va (a := .agg _) (b := .agg _) Gc rfl rfl) (kEp _ _ _ _ _ ((Mono.mono exq (OwnedB.read hO1))) ((Mono.mono exq (OwnedB.read hQ1))) ((OwnedB.read hO3)) ((Owned.read hQ2))) ?_; rintro _ w13 ⟨rfl, E3⟩; refine Ge ?_; refine ⟨exq, ?_⟩; refine Vm 4 rfl Kb Kb rfl (fun _ _ => Rc rfl) exq ?_; refine Yp Kb ?_; rotate_left; exact Zh; exact Zh; refine Zc rfl ?_ ?_; refine Gj rfl (Zx (a := .agg _) Gb rfl) (kT _ ((Mono.mono exq h1)) ((Mono.mono exq h2))) ?_; rintro _ w12 ⟨u5, q2, m3, rfl, E2, hO3, hQ2, hm3, hn2⟩; refine Ge ?_; refine ⟨exq, ?_⟩; refine Wha [0]<|Zc rfl ?_ ?_; refine Vp Kv Kq (hB2.ext exq) rfl<|Ge ?_; refine ⟨exq, ?_⟩; refine Wha [3]<|Zc rfl ?_ ?_
      refine Gj rfl (Va (a := .agg _) (b := .agg _) Gc rfl rfl) (kEp _ _ _ _ _ ((Mono.mono exq (OwnedB.read hO1))) ((Mono.mono exq (OwnedB.read hQ1))) ((OwnedB.read hO3)) ((Owned.read hQ2))) ?_; rintro _ w13 ⟨rfl, E3⟩; refine Ge ?_; refine ⟨exq, ?_⟩; refine Vm 4 rfl Kb Kb rfl (fun _ _ => Rc rfl) exq ?_; refine Yp Kb ?_; rotate_left; exact Zh; exact Zh; exact Zh; exact Zh
    all_goals exact ⟨(), ⟨rfl, trivial⟩, Kh, by repeat (first | assumption | refine Ext.trans Kd ?_)⟩
  rintro ⟨⟩ ρ10 w11 E16
  have hq16 := E16.size
  have stop19 : True := trivial
  focus
    have szE16 := E16.size; have szEw1 := Ew1.size; refine Gu rfl ?_; refine Gn<|Gg<|Gh<|Gq u4 rfl<|Gq vl rfl<|Gj rfl (Zx (a := vl) Tryz.call46 rfl) (kD _ ((Mono.mono exq h3))) ?_; rintro u5 w12 ⟨E1, hO3⟩; have hs8 := E1.size; refine Gj rfl (Va (a := u4) (b := u5) Tryz.call47 rfl rfl) (kED _ _ _ ((Mono.mono exq (OD.read hO2))) ((OD.read hO3))) ?_; rintro _ w13 ⟨rfl, E2⟩; have hs9 := E2.size; refine Zy rfl<|Ge<|Vh rfl (fun h16 => ?_) (fun h16 => ?_); contradiction; refine Gn<|Gh<|Gw rfl<|Ge<|Gg ?_
  clear stop19
  focus
    have hB2 := (hB2.ext ((E16.trans E1).trans E2)); have hB1 := (hB1.ext ((E16.trans E1).trans E2)); have hB9 := (hB9.ext ((E16.trans E1).trans E2)); have hX1 := (hX1.ext ((E16.trans E1).trans E2)); have hX2 := (hX2.ext ((E16.trans E1).trans E2)); have hO1 := (hO1.ext ((E16.trans E1).trans E2)); have hQ1 := (hQ1.ext ((E16.trans E1).trans E2)); have hB8 := (hB8.ext ((E16.trans E1).trans E2)); have hG1 := (hG1.ext ((E16.trans E1).trans E2)); have hG2 := (hG2.ext ((E16.trans E1).trans E2)); have hO2 := Mono.mono ((E16.trans E1).trans E2) hO2; have hO3 := Mono.mono E2 hO3; have Ew2 := (((Ew1.trans E16).trans E1).trans E2); clear Ew1; clear E16; clear szE16; clear szEw1; clear E1; clear E2
  have stop20 : True := trivial
  focus
    have szEw2 := Ew2.size; refine Gy<|Vp Kv Kq hB2 rfl<|Gk rfl<|Gj rfl (Va (a := .agg _) (b := .int _ _) Tryz.call31 rfl rfl) (kM0 _ _ _ _ _ _ (hO1) (hQ1) Kd Kd Ka) ?_; rintro _ w14 ⟨y3, rfl, E1, hy1⟩; have hB2 := hB2.span E1 Ka; have hB1 := hB1.span E1 Ka; have hB9 := hB9.span E1 Ka; have hX1 := hX1.span E1 Ka; have hX2 := hX2.span E1 Ka; have hB8 := hB8.span E1 Ka; have hG1 := hG1.span E1 Ka; have hG2 := hG2.span E1 Ka; have hO2 := OD.span hO2 (Ext.refl _) E1 Ka; have hO3 := OD.span hO3 (Ext.refl _) E1 Ka; have E2 := Ew2.span E1 Ka; have hs10 := E1.size; refine Gw rfl<|Ge<|Gg ?_
  clear stop20
  have kMD : ∀ (w : World), OD 48 w7.heap.size w u4 l → Does Tryz.prog 48 [u4, .int .i64 (1 + (total p : Nat) + (total3 pp : Nat))] w (RetS w7.heap.size w8.heap.size w (fun _ : Unit => .int .i64 (1 + (total p : Nat) + (total3 pp : Nat) + 3 * (l.length : Int))) (fun _ _ => True)) := fun w h => by
    refine (markDeedS2_ok w u4 l h hhi _ Ka hll).mono fun v w' h => ?_
    obtain ⟨z, rfl, hs, rfl, _⟩ := h
    exact ⟨(), rfl, hs, trivial⟩
  have stop25 : True := trivial
  focus
    have szE2 := E2.size; have szEw2 := Ew2.size; refine Gy<|Gq u4 rfl<|Gk rfl<|Gj rfl (Va (a := u4) (b := .int _ _) Tryz.call48 rfl rfl) (kMD _ (hO2)) ?_; rintro _ w15 ⟨y4, rfl, E3, hy2⟩; have hB2 := hB2.span E3 Ka; have hB1 := hB1.span E3 Ka; have hB9 := hB9.span E3 Ka; have hX1 := hX1.span E3 Ka; have hX2 := hX2.span E3 Ka; have hB8 := hB8.span E3 Ka; have hG1 := hG1.span E3 Ka; have hG2 := hG2.span E3 Ka; have E4 := E2.span E3 Ka; have hs11 := E3.size; refine Gw rfl<|Ge<|Gg<|Gh<|Gk rfl<|Gs rfl<|Zp rfl (fun h17 => ?_) (fun h17 => ?_); contradiction; refine Vp Kv Kq hB8 rfl<|Vp Kv Kq hB9 rfl ?_
    refine Gj rfl (Va (a := .agg _) (b := .agg _) Gc rfl rfl) (kE _ _ _ _ _ ((OwnedB.read hG1)) ((OwnedB.read hG2)) ((OwnedB.read hX1)) ((OwnedB.read hX2))) ?_; rintro _ w16 ⟨rfl, E5⟩; have hs12 := E5.size; refine Zy rfl<|Zw rfl<|Vd rfl (Zg (v := .bool _) rfl) (fun h18 => ?_) (fun h18 => ?_); contradiction; refine Gk rfl<|Gk rfl<|Yn rfl<|Zw rfl<|Ge<|Zk rfl (fun h19 => ?_) (fun h19 => ?_); contradiction; refine Gn<|Gh<|Gw rfl<|Ge<|Gh<|Vp Kv Kq (hB8.ext E5) rfl<|Gk rfl<|Gj rfl (Va (a := .agg _) (b := .int _ _) Tryz.call31 rfl rfl) (kM _ _ _ _ _ _ ((hG1.ext E5)) ((hG2.ext E5)) Kd Kd Ka) ?_; rintro _ w17 ⟨y5, rfl, E6, hy3⟩
    have hB1 := (hB1.ext E5).span E6 Ka; have hB9 := (hB9.ext E5).span E6 Ka; have hX1 := (hX1.ext E5).span E6 Ka; have hX2 := (hX2.ext E5).span E6 Ka; have hB8 := (hB8.ext E5).span E6 Ka; have E7 := (E4.trans E5).span E6 Ka; have hs13 := E6.size; refine Gw rfl<|Ge<|Gg ?_
  clear stop25
  obtain ⟨rfl, hOx, hQx⟩ := hy3
  have stop31 : True := trivial
  focus
    have szE7 := E7.size; have szE5 := E5.size; have szE4 := E4.size; have szE2 := E2.size; have szEw2 := Ew2.size; refine Gy<|Gw rfl<|Ge<|Gg<|Gy<|Vp Kv Kq hB8 rfl<|Gk rfl<|Gj rfl (Va (a := .agg _) (b := .int _ _) Tryz.call33 rfl rfl) (kH _ _ _ ((OwnedB.read hOx)) ((OwnedB.read hQx))) ?_; rintro _ w18 ⟨rfl, E8⟩; have hs14 := E8.size; refine Gw rfl<|Ge<|Gg<|Gh<|Gk rfl<|Gs rfl<|Ge<|Gf rfl (fun h20 => ?_) (fun h20 => ?_); contradiction; refine Gn<|Gg<|Gh<|Gk rfl<|Gk rfl<|Yn rfl<|Ge<|Zk rfl (fun h21 => ?_) (fun h21 => ?_); contradiction; refine Gn<|Gg ?_
  clear stop31
  focus
    have hB1 := (hB1.ext E8); have hB9 := (hB9.ext E8); have hX1 := (hX1.ext E8); have hX2 := (hX2.ext E8); have hB8 := (hB8.ext E8); have hOx := (hOx.ext E8); have hQx := (hQx.ext E8); have Ew1 := (E7.trans E8); clear Ew2; clear szEw2; clear szEw2; clear szEw2; clear E2; clear szE2; clear szE2; clear E4; clear E5; clear E7; clear szE7; clear szE5; clear szE4; clear E8
  refine W_mid [95, 96, 97, 98, 99, 100, 101, 94, 15, 16] (fun ((b7, z1, z2) : Nat × Value × Value) => [(15, .pointer (some ⟨b7, 0, none⟩)), (16, .int .i64 (b : Nat))]) (fun (b7, z1, z2) w' => Ext w18 w' ∧ Blk w' b7 [z1, z2] ∧ ESl Ints w' z1 now ∧ ESl (ESl Ints) w' z2 past ∧ isCell z1 = true ∧ isCell z2 = true) ?_ ?_
  · focus
      refine Gy<|Vp Jz Ga hB1 rfl<|Gj rfl (Zx (a := .agg _) Gb rfl) (kT _ ((Mono.mono Ew1 h1)) ((Mono.mono Ew1 h2))) ?_; rintro _ w19 ⟨u6, q2, m3, rfl, E2, hO4, hQ2, hm3, hn2⟩; have hs15 := E2.size; refine Gq vl rfl<|Gj rfl (Zx (a := vl) Tryz.call46 rfl) (kD _ ((Mono.mono exq h3))) ?_; rintro u7 w20 ⟨E4, hO5⟩; have hs16 := E4.size; refine Gj rfl (Va (a := .agg _) (b := u7) Tryz.call43 rfl rfl) (kI _ _ _ _ ((Mono.mono exq hM)) ((Mono.mono E4 (OwnedB.read hO4))) ((Mono.mono E4 (Owned.read hQ2))) ((OD.read hO5))) ?_; rintro _ w21 ⟨u8, q3, m4, rfl, E5, hO6, hQ3, hm4, hn3⟩; have icu8 := OwnedB.isC hO6; have icq3 := OwnedB.isC (Owned.toB hQ3); have hs17 := E5.size; refine Xe rfl<|WsxA rfl<|WsxI rfl<|Zt rfl Vf ?_; rintro b3 w22 hb3 E7 hB3
      refine Yo rfl Kq rfl rfl Ke Ke hB3 Ka ((((Ew1.trans E2).trans E4).trans E5).trans E7) ?_; rintro w23 E8 hB3 K2 hz2; have E9 := (((E2.trans E4).trans E5).trans E7).wroteAt exq E8 K2 hz2 Ka; have hO6 := (hO6.ext E7).wrote K2 Ka; have hQ3 := (hQ3.toB.ext E7).wrote K2 Ka; refine Gw rfl<|Ge ?_
    all_goals exact ⟨(b3, u8, q3), ⟨rfl, rfl, trivial⟩, Kh, by repeat (first | assumption | refine Ext.trans Kd ?_), hB3, hO6.read, hQ3.read, icu8, icq3⟩
  rintro ⟨b7, z1, z2⟩ ρ11 w19 ⟨E40, hB7, hZ1, hZ2, icz1, icz2⟩
  focus
    refine Gg<|Gh<|Vp Kv Kq hB7 rfl<|Vp Kv Kq (hB9.ext E40) rfl<|Gj rfl (Va (a := .agg _) (b := .agg _) Gc rfl rfl) (kE _ _ _ _ _ (hZ1) (hZ2) ((Mono.mono E40 (OwnedB.read hX1))) ((Mono.mono E40 (OwnedB.read hX2)))) ?_; rintro _ w20 ⟨rfl, E2⟩; refine Zy rfl<|Vd rfl (Zg (v := .bool _) rfl) (fun h22 => ?_) (fun h22 => ?_); contradiction; refine Gk rfl<|Gk rfl<|Yn rfl<|Zw rfl<|Ge<|Zk rfl (fun h23 => ?_) (fun h23 => ?_); contradiction; refine Gn<|Gg<|Gy<|Gw rfl<|Ge<|Gh<|Vp Kv Kq (hB8.ext exq) rfl<|Gk rfl<|Gj rfl (Va (a := .agg _) (b := .int _ _) Tryz.call33 rfl rfl) (kH _ _ _ ((Mono.mono exq (OwnedB.read hOx))) ((Mono.mono exq (OwnedB.read hQx)))) ?_
    rintro _ w21 ⟨rfl, E4⟩; refine Gw rfl<|Ge<|Gg<|Gh<|Gk rfl<|Gs rfl<|Ge<|Gf rfl (fun h24 => ?_) (fun h24 => ?_); contradiction; refine Gn<|Gg<|Gh<|Gk rfl<|Gk rfl<|Yn rfl<|Ge<|Zk rfl (fun h25 => ?_) (fun h25 => ?_); contradiction; refine Gn<|Gh<|Gx rfl<|Ge<|Gv ?_; exact ⟨rfl, exq⟩
end Go.Proofs.YtbgpppaljpngmaaGreatDoor
