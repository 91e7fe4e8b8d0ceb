/- Lemmas for FnReadDeed. -/
import Derived.Test.YtgphoihilheoeaaDoorMFnReadDeed7
namespace Go.Proofs.YtgphoihilheoeaaDoor
open Go.Hs
set_option maxRecDepth 10000
set_option maxHeartbeats 4000000
set_option linter.unusedVariables false
set_option linter.unusedSimpArgs false
theorem isCode_ok (n:Int) (w:World):Does Tryd.prog 79 [.int .i64 n] w (Ret w (.bool (decide (0≤n∧n≤65535)))):=by
 refine fn_of_W1 Tryd.func79 rfl Tryd.results79 Tryd.ntmps79 rfl ?_
 focus
  refine W_seq ?_;refine W_region rfl ?_;refine Wo rfl (opv_assign (v:=.bool _) rfl) ?_;refine Wo_nil ?_;refine W_seq ?_;refine W_region rfl ?_;refine Wo rfl (opv_move (v:=.int _ _) rfl) ?_
  refine Wo rfl (opv_geq rfl rfl) ?_;refine Wo_split_dec rfl (opv_move (v:=.bool _) rfl) (fun h1=>?_) (fun h1=>?_);refine Wo rfl (opv_move (v:=.int _ _) rfl) ?_;refine Wo rfl (opv_leq rfl rfl) ?_
  refine Wo rfl (opv_pick_t (v:=.bool _) rfl rfl) ?_;refine Wo rfl (opv_assign (v:=.bool _) rfl) ?_;refine Wo_nil ?_;refine W_ret ?_;refine at_ret (v:=.bool _) rfl ?_;refine ⟨congrArg Value.bool ?_,(Ext.refl _)⟩
  rotate_left;refine Wo_skip rfl ?_;refine Wo_skip rfl ?_;refine Wo rfl (opv_pick_f (v:=.bool _) rfl rfl) ?_;refine Wo rfl (opv_assign (v:=.bool _) rfl) ?_;refine Wo_nil ?_;refine W_ret ?_
  refine at_ret (v:=.bool _) rfl ?_;refine ⟨congrArg Value.bool ?_,(Ext.refl _)⟩;rotate_left
 ·exact decide_eq_decide.2 (by omega)
 ·exact (decide_eq_false (by omega)).symm
def hasC (n m:Int):Bool:=decide (0≤n∧n≤65535∧0≤m∧m≤15) && n.toNat.testBit m.toNat
theorem and_one (x:Nat) (k:Nat):(((x >>> k) &&& 1:Nat):Int)=1↔x.testBit k=true:=by
 rw [Nat.testBit_eq_decide_div_mod_eq,Nat.and_one_is_mod,Nat.shiftRight_eq_div_pow,decide_eq_true_iff]
 generalize x / 2 ^ k=q
 omega
theorem Has_ok (n m:Int) (w:World):Does Tryd.prog 53 [.int .i64 n,.int .i64 m] w (Ret w (.bool (hasC n m))):=by
 refine fn_of_W1 Tryd.func53 rfl Tryd.results53 Tryd.ntmps53 rfl ?_
 focus
  refine W_seq ?_;refine W_region rfl ?_;refine Wo rfl (opv_assign (v:=.bool _) rfl) ?_;refine Wo_nil ?_;refine W_seq ?_;refine W_region rfl ?_;refine Wo rfl (opv_move (v:=.int _ _) rfl) ?_
  refine Wo_call rfl (opc1 (a:=.int _ _) Tryd.call79 rfl) (isCode_ok _ _) ?_;rintro _ w1 ⟨rfl,E1⟩;have hs1:=E1.size;refine Wo_split_dec rfl (opv_move (v:=.bool _) rfl) (fun h1=>?_) (fun h1=>?_)
  refine Wo rfl (opv_move (v:=.int _ _) rfl) ?_;refine Wo_call rfl (opc1 (a:=.int _ _) Tryd.call79 rfl) (isCode_ok _ _) ?_;rintro _ w2 ⟨rfl,E2⟩;have hs2:=E2.size;refine Wo rfl (opv_pick_t (v:=.bool _) rfl rfl) ?_
  refine Wo_split_dec rfl (opv_move (v:=.bool _) rfl) (fun h2=>?_) (fun h2=>?_);refine Wo rfl (opv_move (v:=.int _ _) rfl) ?_;refine Wo rfl (opv_leq rfl rfl) ?_;refine Wo rfl (opv_pick_t (v:=.bool _) rfl rfl) ?_
  refine Wo_split_dec rfl (opv_move (v:=.bool _) rfl) (fun h3=>?_) (fun h3=>?_);refine Wo rfl (opv_move (v:=.int _ _) rfl) ?_;refine Wo rfl (opv_move (v:=.int _ _) rfl) ?_;refine Wo rfl (opv_shr rfl rfl (by omega)) ?_
  refine Wo rfl (opv_and rfl rfl ⟨Int.natCast_nonneg _,by omega⟩) ?_;refine Wo rfl (opv_eql rfl rfl) ?_;refine Wo rfl (opv_pick_t (v:=.bool _) rfl rfl) ?_;refine Wo rfl (opv_assign (v:=.bool _) rfl) ?_;refine Wo_nil ?_
  refine W_ret ?_;refine at_ret (v:=.bool _) rfl ?_;refine ⟨congrArg Value.bool ?_,(E1.trans E2)⟩;rotate_left;refine Wo_skip rfl ?_;refine Wo_skip rfl ?_;refine Wo_skip rfl ?_;refine Wo_skip rfl ?_;refine Wo_skip rfl ?_
  refine Wo rfl (opv_pick_f (v:=.bool _) rfl rfl) ?_;refine Wo rfl (opv_assign (v:=.bool _) rfl) ?_;refine Wo_nil ?_;refine W_ret ?_;refine at_ret (v:=.bool _) rfl ?_;refine ⟨congrArg Value.bool ?_,(E1.trans E2)⟩
  rotate_left;refine Wo_skip rfl ?_;refine Wo_skip rfl ?_;refine Wo rfl (opv_pick_f (v:=.bool _) rfl rfl) ?_;refine Wo rfl (opv_move (v:=.bool _) rfl) ?_;refine Wo_skip rfl ?_;refine Wo_skip rfl ?_;refine Wo_skip rfl ?_
  refine Wo_skip rfl ?_;refine Wo_skip rfl ?_;refine Wo rfl (opv_pick_f (v:=.bool _) rfl rfl) ?_;refine Wo rfl (opv_assign (v:=.bool _) rfl) ?_;refine Wo_nil ?_;refine W_ret ?_;refine at_ret (v:=.bool _) rfl ?_
  refine ⟨congrArg Value.bool ?_,(E1.trans E2)⟩;rotate_left;refine Wo_skip rfl ?_;refine Wo_skip rfl ?_;refine Wo rfl (opv_pick_f (v:=.bool _) rfl rfl) ?_;refine Wo rfl (opv_move (v:=.bool _) rfl) ?_;refine Wo_skip rfl ?_
  refine Wo_skip rfl ?_;refine Wo rfl (opv_pick_f (v:=.bool _) rfl rfl) ?_;refine Wo rfl (opv_move (v:=.bool _) rfl) ?_;refine Wo_skip rfl ?_;refine Wo_skip rfl ?_;refine Wo_skip rfl ?_;refine Wo_skip rfl ?_
  refine Wo_skip rfl ?_;refine Wo rfl (opv_pick_f (v:=.bool _) rfl rfl) ?_;refine Wo rfl (opv_assign (v:=.bool _) rfl) ?_;refine Wo_nil ?_;refine W_ret ?_;refine at_ret (v:=.bool _) rfl ?_
  refine ⟨congrArg Value.bool ?_,E1⟩;rotate_left
 ·have hn:0≤n∧n≤65535∧0≤m∧m≤15:=by omega
  unfold hasC
  rw [decide_eq_true hn,Bool.true_and,Bool.eq_iff_iff,decide_eq_true_iff]
  exact and_one _ _
 all_goals
  have hn : ¬(0≤n∧n≤65535∧0≤m∧m≤15):=by omega
  unfold hasC
  rw [decide_eq_false hn];rfl
theorem alive_ok (w:World):Does Tryd.prog 28 [] w (Ret w (.bool true)):=by
 have h1 : ∀ w,Does Tryd.prog 53 [.int .i64 5,.int .i64 2] w (Ret w (.bool true)):=fun w=>by
  have:=Has_ok 5 2 w
  have e:hasC 5 2=true:=by decide
  rw [e] at this;exact this
 have h2 : ∀ w,Does Tryd.prog 53 [.int .i64 5,.int .i64 1] w (Ret w (.bool false)):=fun w=>by
  have:=Has_ok 5 1 w
  have e:hasC 5 1=false:=by decide
  rw [e] at this;exact this
 refine fn_of_W1 Tryd.func28 rfl Tryd.results28 Tryd.ntmps28 rfl ?_
 focus
  refine W_seq ?_;refine W_region rfl ?_;refine Wo rfl (opv_assign (v:=.bool _) rfl) ?_;refine Wo_nil ?_;refine W_seq ?_;refine W_region rfl ?_
  refine Wo_call rfl (opc2 (a:=.int _ _) (b:=.int _ _) Tryd.call53 rfl rfl) (h1 _) ?_;rintro _ w1 ⟨rfl,E1⟩;have hs1:=E1.size;refine Wo rfl (opv_move (v:=.bool _) rfl) ?_
  refine Wo_call rfl (opc2 (a:=.int _ _) (b:=.int _ _) Tryd.call53 rfl rfl) (h2 _) ?_;rintro _ w2 ⟨rfl,E2⟩;have hs2:=E2.size;refine Wo rfl (opv_not rfl) ?_;refine Wo rfl (opv_pick_t (v:=.bool _) rfl rfl) ?_
  refine Wo rfl (opv_assign (v:=.bool _) rfl) ?_;refine Wo_nil ?_;refine W_ret ?_;exact ⟨rfl,(E1.trans E2)⟩
theorem opv_neD {ρ : Env} {w:World} {x y:Operand} {t' ty:TypeId} {k n k' n':Int} {a b:List UInt8} (hx:evalE ρ x=.agg #[.int .i64 k,str a,.int .i64 n]) (hy:evalE ρ y=.agg #[.int .i64 k',str b,.int .i64 n']) :
  OpV Tryd.prog (.binOp .neq 26 x y t') ty ρ w (.bool (!decide ((⟨k,a,n⟩:Deed)=⟨k',b,n'⟩))):=by
 have u3:=Tryd.underlying3
 have a3:=Tryd.isAgg3
 have z3:=Tryd.sizeOf3
 have u9:=Tryd.underlying9
 have a9:=Tryd.isAgg9
 have z9:=Tryd.sizeOf9
 have hS:Tryd.prog.underlying 26=some (.struct (Tryd.prog.fieldsOf 26)):=by kernel_rfl
 have hp:Tryd.prog.stoodInHeld 26=false:=by kernel_rfl
 have hg:Tryd.prog.eqGuardType Tryd.prog.depth 26=false:=by kernel_rfl
 have e:((binOp .neq 26 (.agg #[.int .i64 k,str a,.int .i64 n]) (.agg #[.int .i64 k',str b,.int .i64 n'])).run Tryd.prog w)=.ok (.bool (!decide ((⟨k,a,n⟩:Deed)=⟨k',b,n'⟩))) w:=by
  rw [run_neq_struct,show (10000:Nat)=9999+1 from rfl,run_equalIn_agg w 9999 26 _ _ hS hp]
  simp only [Program.fieldsOf,Tryd.underlying26]
  go_simp
  by_cases h1:k=k' <;> by_cases h2:a=b <;> by_cases h3:n=n' <;> simp [h1,h2,h3]
 simp [OpV,execOp,hx,hy,run_eqGuard_agg,hg,e]
end Go.Proofs.YtgphoihilheoeaaDoor
set_option linter.unusedVariables false
set_option linter.unusedSimpArgs false
namespace Go.Hs
theorem dtV_no2 (b:Deed) (s:List UInt8):dtV b≠s++[32,32]:=by
 intro h
 have ht:=told_of (a:=b) (by rw [h];simp)
 have key : ∀ (A:List UInt8) (p:List (List Int)),Pic p→(∀ x,A=x++[32,32]→False)→A++txt p≠s++[32,32]:=by
  intro A p hp hA e
  by_cases h0:txt p=[]
  ·rw [h0,List.append_nil] at e;exact hA s e
  ·have e1:=congrArg List.getLast? e
   rw [List.getLast?_append,List.getLast?_append] at e1
   obtain ⟨c,hc⟩ : ∃ c,(txt p).getLast? = some c:=by
    cases hx:(txt p).getLast? with
    | none=>exact absurd (List.getLast?_eq_none_iff.1 hx) h0
    | some c=>exact ⟨c,rfl⟩
   have hb:=(txt_bytes hp.gr (List.mem_of_getLast? hc)).1
   rw [hc] at e1
   simp at e1
   subst e1
   exact absurd hb (by decide)
 cases ht with
 | single=>rw [dtV_single] at h;have:=congrArg List.reverse h;simp [sSingle] at this
 | back=>rw [dtV_back] at h;have:=congrArg List.reverse h;simp [sBack] at this
 | into d hd =>
   rw [dtV_into hd] at h
   have := congrArg List.reverse h
   simp [sInto] at this
   exact absurd this.1 ((by decide : ∀ d < 10, dig d ≠ 32) d (by omega))
 | add p hp =>
   rw [dtV_add hp] at h
   exact key _ p hp (fun x e => by have := congrArg List.reverse e; simp [sAdd] at this) h
 | drop p hp =>
   rw [dtV_drop hp] at h
   exact key _ p hp (fun x e => by have := congrArg List.reverse e; simp [sDrop] at this) h
theorem rdD_no2 (s:List UInt8):rdD (s++[32,32])=none:=rdD_none fun a _=>dtV_no2 a s
end Go.Hs
namespace Go.Proofs.YtgphoihilheoeaaDoor
open Go.Hs
set_option maxRecDepth 10000
set_option maxHeartbeats 4000000
set_option linter.unusedVariables false
set_option linter.unusedSimpArgs false
theorem FnReadDeed_walk (w:World) (hM:EMx gMx w (.bool true) ()) (v:Value) (xs:List UInt8) (h:Bytes w v xs) (hc:CapOk v):Does Tryd.prog 8 [v] w (Ret w (.bool true)):=by
 have hle:=h.le
 refine fn_of_W1 Tryd.func8 rfl Tryd.results8 Tryd.ntmps8 rfl ?_
 have stop4:True:=trivial
 focus
  refine W_seq ?_;refine W_region rfl ?_;refine Wo rfl (opv_assign (v:=.bool _) rfl) ?_;refine Wo_nil ?_;refine W_seq ?_;refine W_seq ?_;refine W_region rfl ?_;refine Wo rfl (opv_move (v:=v) rfl) ?_
  refine Wo rfl (opv_len Tryd.underlying43 rfl h) ?_;refine Wo rfl (opv_gtr rfl rfl) ?_;refine Wo_nil ?_;refine W_cond_dec rfl (fun h1=>?_) (fun h1=>?_);refine W_seq ?_;refine W_region rfl ?_
  refine Wo rfl (opv_assign (v:=.bool _) rfl) ?_;refine Wo_nil ?_;refine W_ret ?_;exact ⟨rfl,(Ext.refl _)⟩;refine W_skip ?_;refine W_seq ?_;refine W_region rfl ?_;refine Wo rfl (opv_move (v:=v) rfl) ?_
  refine Wo_call rfl (opc1 (a:=v) Tryd.call29 rfl) (DrawReadDeed_ok _ _ _ (h) (by assumption)) ?_;rintro _ w1 ⟨E1,y1,rfl,hy1⟩;have hs1:=E1.size;refine Wo rfl (opv_assign (v:=.string _) rfl) ?_;refine Wo_nil ?_
  refine W_seq ?_
 clear stop4
 have kI:=fun (w:World) (hM:EMx gMx w (.bool true) ())=>impl_ReadDeed_ok w y1 hM (by omega)
 have kS:=fun (w:World)=>spec_ReadDeed_ok w y1 (by omega)
 cases hr:rdD y1 with
 | none =>
   have kI : ∀ (w : World), EMx gMx w (.bool true) () → Does Tryd.prog 16 [str y1] w (Ret w (.tuple #[.agg #[.int .i64 0, str [], .int .i64 0], .bool false])) := fun w hM => by
     have := kI w hM; rw [hr] at this; exact this
   have kS : ∀ (w : World), Does Tryd.prog 15 [str y1] w (Ret w (.tuple #[.agg #[.int .i64 0, str [], .int .i64 0], .bool false])) := fun w => by
     have := kS w; rw [hr] at this; exact this
   focus
     have szE1 := E1.size; refine W_region rfl ?_; refine Wo rfl (opv_move (v := .string _) rfl) ?_; refine Wo_call rfl (opc1 (a := .string _) Tryd.call16 rfl) (kI _ ((Mono.mono E1 hM))) ?_; rintro _ w2 ⟨rfl, E2⟩; have hs2 := E2.size
     refine Wo rfl (opv_move (v := .tuple _) rfl) ?_; refine Wo rfl (opv_extract (v := .agg _) rfl rfl) ?_; refine Wo rfl (opv_extract (v := .bool _) rfl rfl) ?_; refine Wo_allocN rfl flat26 ?_; rintro b1 w3 hb1 E3 hB1
     have hlb1 := hB1.lt; have hs3 := E3.size; refine Wo_st3 rfl Tryd.sizeOf26 rfl rfl (by first | rfl | assumption) (by first | rfl | assumption) (by first | rfl | assumption) hB1 (by omega) ((E1.trans E2).trans E3) ?_
     rintro w4 E4 hB1 K1 hz1; have E5 := (E2.trans E3).wroteAt ((E1.trans E2).trans E3) E4 K1 hz1 (by omega); have szE5 := E5.size; have E6 := E3.wroteAt ((E1.trans E2).trans E3) E4 K1 hz1 (by omega); have szE6 := E6.size
     refine Wo rfl (opv_assign (v := .bool _) rfl) ?_; refine Wo_nil ?_; refine W_seq ?_; refine W_region rfl ?_; refine Wo rfl (opv_move (v := .string _) rfl) ?_; refine Wo_call rfl (opc1 (a := .string _) Tryd.call15 rfl) (kS _) ?_
     rintro _ w5 ⟨rfl, E7⟩; have hs4 := E7.size; refine Wo rfl (opv_move (v := .tuple _) rfl) ?_; refine Wo rfl (opv_extract (v := .agg _) rfl rfl) ?_; refine Wo rfl (opv_extract (v := .bool _) rfl rfl) ?_; refine Wo_allocN rfl flat26 ?_
     rintro b2 w6 hb2 E8 hB2; have hlb2 := hB2.lt; have hs5 := E8.size
     refine Wo_st3 rfl Tryd.sizeOf26 rfl rfl (by first | rfl | assumption) (by first | rfl | assumption) (by first | rfl | assumption) hB2 (by omega) ((E4.trans E7).trans E8) ?_; rintro w7 E9 hB2 K2 hz2
     have E10 := ((E5.trans E7).trans E8).wroteAt ((E4.trans E7).trans E8) E9 K2 hz2 (by omega); have szE10 := E10.size; have E11 := ((E6.trans E7).trans E8).wroteAt ((E4.trans E7).trans E8) E9 K2 hz2 (by omega); have szE11 := E11.size
     have E12 := (E7.trans E8).wroteAt ((E4.trans E7).trans E8) E9 K2 hz2 (by omega); have szE12 := E12.size; have E13 := E8.wroteAt ((E4.trans E7).trans E8) E9 K2 hz2 (by omega); have szE13 := E13.size
     have hB1 := (hB1.ext (E7.trans E8)).of_heap (K2 _ (by omega)); refine Wo rfl (opv_assign (v := .bool _) rfl) ?_; refine Wo_nil ?_; refine W_seq ?_; refine W_seq ?_; refine W_region rfl ?_
     refine Wo (v := .agg _) rfl (opv_load3 Tryd.isAgg26 Tryd.sizeOf26 rfl hB1) ?_; refine Wo (v := .agg _) rfl (opv_load3 Tryd.isAgg26 Tryd.sizeOf26 rfl hB2) ?_; refine Wo rfl (opv_neD rfl rfl) ?_
     refine Wo_split_ndec rfl (opv_move (v := .bool _) rfl) (fun h2 => ?_) (fun h2 => ?_); contradiction; refine Wo rfl (opv_move (v := .bool _) rfl) ?_; refine Wo rfl (opv_move (v := .bool _) rfl) ?_
     refine Wo rfl (opv_neq_bool Tryd.underlying4 rfl rfl) ?_; refine Wo rfl (opv_pick_f (v := .bool _) rfl rfl) ?_; refine Wo_nil ?_; refine W_cond_ndec rfl (fun h3 => ?_) (fun h3 => ?_); contradiction; refine W_skip ?_; refine W_seq ?_
     refine W_seq ?_; refine W_region rfl ?_; refine Wo rfl (opv_move (v := .bool _) rfl) ?_; refine Wo rfl (opv_not rfl) ?_; refine Wo_nil ?_; refine W_cond rfl (fun h4 => ?_) (fun h4 => ?_); refine W_seq ?_; refine W_region rfl ?_
     refine Wo (v := .agg _) rfl (opv_load3 Tryd.isAgg26 Tryd.sizeOf26 rfl hB1) ?_; refine Wo rfl (opv_build (ps := []) (cs := [_, _, _]) flat26 rfl rfl) ?_; refine Wo rfl (opv_eqD rfl rfl) ?_
     refine Wo_split_dec rfl (opv_move (v := .bool _) rfl) (fun h5 => ?_) (fun h5 => ?_); refine Wo_call rfl (opc0 Tryd.call28) (alive_ok _) ?_; rintro _ w8 ⟨rfl, E14⟩; have hs6 := E14.size
     refine Wo rfl (opv_pick_t (v := .bool _) rfl rfl) ?_; refine Wo rfl (opv_assign (v := .bool _) rfl) ?_; refine Wo_nil ?_; refine W_ret ?_; exact ⟨rfl, (E9.trans E14)⟩; contradiction; contradiction
 | some a =>
   obtain ⟨k, t, n⟩ := a
   have hd := rdD_some hr
   have hxt := rdD_text hr (n := 1000) hy1
   have kI : ∀ (w : World), EMx gMx w (.bool true) () → Does Tryd.prog 16 [str y1] w (Ret w (.tuple #[.agg #[.int .i64 k, str t, .int .i64 n], .bool true])) := fun w hM => by
     have := kI w hM; rw [hr] at this; exact this
   have kS : ∀ (w : World), Does Tryd.prog 15 [str y1] w (Ret w (.tuple #[.agg #[.int .i64 k, str t, .int .i64 n], .bool true])) := fun w => by
     have := kS w; rw [hr] at this; exact this
   have kM : ∀ (w : World), EMx gMx w (.bool true) () → Does Tryd.prog 16 [str (y1 ++ [32, 32])] w (Ret w (.tuple #[.agg #[.int .i64 0, str [], .int .i64 0], .bool false])) := fun w hM => by
     have := impl_ReadDeed_ok w (y1 ++ [32, 32]) hM (by simp; omega)
     rw [rdD_no2] at this; exact this
   have kT : ∀ (w : World), EMx gMx w (.bool true) () → Does Tryd.prog 14 [.agg #[.int .i64 k, str t, .int .i64 n]] w (Ret w (str y1)) := fun w hM => by
     have := impl_DeedText_ok w k n t hM (by simp only at hxt; omega)
     rw [hd.1] at this; exact this
   have stop10 : True := trivial
   focus
     have szE1 := E1.size; refine W_region rfl ?_; refine Wo rfl (opv_move (v := .string _) rfl) ?_; refine Wo_call rfl (opc1 (a := .string _) Tryd.call16 rfl) (kI _ ((Mono.mono E1 hM))) ?_; rintro _ w2 ⟨rfl, E2⟩; have hs2 := E2.size
     refine Wo rfl (opv_move (v := .tuple _) rfl) ?_; refine Wo rfl (opv_extract (v := .agg _) rfl rfl) ?_; refine Wo rfl (opv_extract (v := .bool _) rfl rfl) ?_; refine Wo_allocN rfl flat26 ?_; rintro b1 w3 hb1 E3 hB1
     have hlb1 := hB1.lt; have hs3 := E3.size; refine Wo_st3 rfl Tryd.sizeOf26 rfl rfl (by first | rfl | assumption) (by first | rfl | assumption) (by first | rfl | assumption) hB1 (by omega) ((E1.trans E2).trans E3) ?_
     rintro w4 E4 hB1 K1 hz1; have E5 := (E2.trans E3).wroteAt ((E1.trans E2).trans E3) E4 K1 hz1 (by omega); have szE5 := E5.size; have E6 := E3.wroteAt ((E1.trans E2).trans E3) E4 K1 hz1 (by omega); have szE6 := E6.size
     refine Wo rfl (opv_assign (v := .bool _) rfl) ?_; refine Wo_nil ?_; refine W_seq ?_; refine W_region rfl ?_; refine Wo rfl (opv_move (v := .string _) rfl) ?_; refine Wo_call rfl (opc1 (a := .string _) Tryd.call15 rfl) (kS _) ?_
     rintro _ w5 ⟨rfl, E7⟩; have hs4 := E7.size; refine Wo rfl (opv_move (v := .tuple _) rfl) ?_; refine Wo rfl (opv_extract (v := .agg _) rfl rfl) ?_; refine Wo rfl (opv_extract (v := .bool _) rfl rfl) ?_; refine Wo_allocN rfl flat26 ?_
     rintro b2 w6 hb2 E8 hB2; have hlb2 := hB2.lt; have hs5 := E8.size
     refine Wo_st3 rfl Tryd.sizeOf26 rfl rfl (by first | rfl | assumption) (by first | rfl | assumption) (by first | rfl | assumption) hB2 (by omega) ((E4.trans E7).trans E8) ?_; rintro w7 E9 hB2 K2 hz2
     have E10 := ((E5.trans E7).trans E8).wroteAt ((E4.trans E7).trans E8) E9 K2 hz2 (by omega); have szE10 := E10.size; have E11 := ((E6.trans E7).trans E8).wroteAt ((E4.trans E7).trans E8) E9 K2 hz2 (by omega); have szE11 := E11.size
     have E12 := (E7.trans E8).wroteAt ((E4.trans E7).trans E8) E9 K2 hz2 (by omega); have szE12 := E12.size; have E13 := E8.wroteAt ((E4.trans E7).trans E8) E9 K2 hz2 (by omega); have szE13 := E13.size
     have hB1 := (hB1.ext (E7.trans E8)).of_heap (K2 _ (by omega)); refine Wo rfl (opv_assign (v := .bool _) rfl) ?_; refine Wo_nil ?_; refine W_seq ?_; refine W_seq ?_; refine W_region rfl ?_
     refine Wo (v := .agg _) rfl (opv_load3 Tryd.isAgg26 Tryd.sizeOf26 rfl hB1) ?_; refine Wo (v := .agg _) rfl (opv_load3 Tryd.isAgg26 Tryd.sizeOf26 rfl hB2) ?_; refine Wo rfl (opv_neD rfl rfl) ?_
     refine Wo_split_ndec rfl (opv_move (v := .bool _) rfl) (fun h2 => ?_) (fun h2 => ?_); contradiction; refine Wo rfl (opv_move (v := .bool _) rfl) ?_; refine Wo rfl (opv_move (v := .bool _) rfl) ?_
     refine Wo rfl (opv_neq_bool Tryd.underlying4 rfl rfl) ?_; refine Wo rfl (opv_pick_f (v := .bool _) rfl rfl) ?_; refine Wo_nil ?_; refine W_cond_ndec rfl (fun h3 => ?_) (fun h3 => ?_); contradiction; refine W_skip ?_; refine W_seq ?_
     refine W_seq ?_; refine W_region rfl ?_; refine Wo rfl (opv_move (v := .bool _) rfl) ?_; refine Wo rfl (opv_not rfl) ?_; refine Wo_nil ?_; refine W_cond rfl (fun h4 => ?_) (fun h4 => ?_); contradiction; refine W_skip ?_
     refine W_seq ?_
   clear stop10 kI kS
   focus
     have szE13 := E13.size; have szE12 := E12.size; have szE11 := E11.size; have szE10 := E10.size; have szE9 := E9.size; have szE8 := E8.size; have szE7 := E7.size; have szE6 := E6.size; have szE5 := E5.size; have szE4 := E4.size
     have szE3 := E3.size; have szE2 := E2.size; have szE1 := E1.size; refine W_region rfl ?_; refine Wo rfl (opv_move (v := .string _) rfl) ?_; refine Wo rfl (opv_add_str rfl rfl (by simp <;> omega)) ?_
     refine Wo_call rfl (opc1 (a := .string _) Tryd.call16 rfl) (kM _ ((Mono.mono E9 hM))) ?_; rintro _ w8 ⟨rfl, E14⟩; have hs6 := E14.size; refine Wo rfl (opv_move (v := .tuple _) rfl) ?_
     refine Wo rfl (opv_extract (v := .agg _) rfl rfl) ?_; refine Wo rfl (opv_extract (v := .bool _) rfl rfl) ?_; refine Wo_allocN rfl flat26 ?_; rintro b3 w9 hb3 E15 hB3; have hlb3 := hB3.lt; have hs7 := E15.size
     refine Wo_st3 rfl Tryd.sizeOf26 rfl rfl (by first | rfl | assumption) (by first | rfl | assumption) (by first | rfl | assumption) hB3 (by omega) ((E9.trans E14).trans E15) ?_; rintro w10 E16 hB3 K3 hz3
     have E17 := ((E10.trans E14).trans E15).wroteAt ((E9.trans E14).trans E15) E16 K3 hz3 (by omega); have szE17 := E17.size; have E18 := ((E11.trans E14).trans E15).wroteAt ((E9.trans E14).trans E15) E16 K3 hz3 (by omega)
     have szE18 := E18.size; have E19 := ((E12.trans E14).trans E15).wroteAt ((E9.trans E14).trans E15) E16 K3 hz3 (by omega); have szE19 := E19.size
     have E20 := ((E13.trans E14).trans E15).wroteAt ((E9.trans E14).trans E15) E16 K3 hz3 (by omega); have szE20 := E20.size; have E21 := (E14.trans E15).wroteAt ((E9.trans E14).trans E15) E16 K3 hz3 (by omega); have szE21 := E21.size
     have E22 := E15.wroteAt ((E9.trans E14).trans E15) E16 K3 hz3 (by omega); have szE22 := E22.size; have hB2 := (hB2.ext (E14.trans E15)).of_heap (K3 _ (by omega)); have hB1 := (hB1.ext (E14.trans E15)).of_heap (K3 _ (by omega))
     refine Wo rfl (opv_assign (v := .bool _) rfl) ?_; refine Wo_nil ?_; refine W_seq ?_; refine W_region rfl ?_; refine Wo (v := .agg _) rfl (opv_load3 Tryd.isAgg26 Tryd.sizeOf26 rfl hB1) ?_
     refine Wo_call rfl (opc1 (a := .agg _) Tryd.call14 rfl) (kT _ ((Mono.mono E16 hM))) ?_; rintro _ w11 ⟨rfl, E23⟩; have hs8 := E23.size; refine Wo rfl (opv_move (v := .string _) rfl) ?_; refine Wo rfl (opv_eql_str rfl rfl) ?_
     refine Wo_split_dec rfl (opv_move (v := .bool _) rfl) (fun h5 => ?_) (fun h5 => ?_); refine Wo rfl (opv_move (v := .bool _) rfl) ?_; refine Wo rfl (opv_not rfl) ?_; refine Wo rfl (opv_pick_t (v := .bool _) rfl rfl) ?_
     refine Wo rfl (opv_assign (v := .bool _) rfl) ?_; refine Wo_nil ?_; refine W_ret ?_; exact ⟨rfl, (E16.trans E23)⟩; contradiction
end Go.Proofs.YtgphoihilheoeaaDoor
