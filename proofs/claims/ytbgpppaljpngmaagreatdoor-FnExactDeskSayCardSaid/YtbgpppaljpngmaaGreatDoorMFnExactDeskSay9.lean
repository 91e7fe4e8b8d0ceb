/- Lemmas for FnExactDeskSay. -/
import Derived.Test.YtbgpppaljpngmaaGreatDoorMFnExactDeskSay8
import Derived.Test.YtbgpppaljpngmaaGreatDoorCards
import Derived.Test.YtbgpppaljpngmaaGreatDoorTie
import Derived.SevenTiedAt
import Derived.Shelf.LaysM
namespace Go.Proofs.YtbgpppaljpngmaaGreatDoor.lFnExactDeskSay
open Go.ChangeShapes Go.WideShapes Go.ChangeAt Go.RowKit Go.Hs
open Go.ChangeMaps (open_string shut_string)
set_option linter.unusedVariables false
theorem own:ownKnob Tryz.prog.godebug=none:=Kb
theorem laidOut:laidOutB Tryz.prog=true:=Kb
set_option maxRecDepth 100000 in
set_option maxHeartbeats 4000000 in
open Go.Shelf in
shelf_lay LaysM.n146 Nm 146 at Tryz as Tryz.laysM146
theorem mx {W:World} (h:W.ShapedOpen Tryz.prog):EMx gMx W (.bool true) ():=Tryz.laysM146.s1_3 W h
set_option maxRecDepth 100000 in
set_option maxHeartbeats 4000000 in
theorem lifted (os:Os) (started:os.Started) (H:Type) (enc:TypeId × Value→H) :
  ReturnsInHanded {} Tryz.checked os 5 .any (fun w args=>(Rows.fnExactDeskSaySpec.pre enc Tryz.prog Tryz.f5 Rows.fnExactDeskSayRow.domain false w args∧laidMetH Tryz.prog Rows.fnExactDeskSayRow.laid w)∧sizedMet enc Tryz.prog Tryz.f5 (OpenSpec.ofChange Rows.fnExactDeskSaySpec) false w args)
   (Rows.fnExactDeskSaySpec.post enc Tryz.prog Tryz.f5 false true false false):=by
 refine To (C:=Tryz.checked) (X:=fun w _=>laidMetH Tryz.prog Rows.fnExactDeskSayRow.laid w) (fun _ _ _ hh h=>h.of_heap hh) own started Kb Tryz.func5
  (ChangeSpec.witness_shaped (enc:=enc) (C:=Tryz.checked) (os:=os) (X:=fun w _=>laidMetH Tryz.prog Rows.fnExactDeskSayRow.laid w) false (World.laidAll Tryz.prog os Rows.fnExactDeskSayRow.laid) #[.agg #[.slice none 0 0,.slice none 0 0],.slice none 0 0] 8 (World.laidAll_os _ _ _)
   (World.shaped_of_ZipB Kb Kb) Kb Kb Kb
   (by rw [MakeChecks.laidMetH_plain _ _ _ Kb];exact laidMet_laidAll _ Kb Kb)) ?_
 intro W base args ds gs before hval0 hW hsh hlaid
 have hval : ∀ (j:Nat) t v,Tryz.f5.params[j]? = some t→args[j]? = some v→Value.okWide Tryz.prog W .any base t v:=hval0
 have hW':=hW
 obtain ⟨p,q,hA0,hV,rfl,hfz,hnd⟩:=hW
 have hA:DataW.TrodAll enc Tryz.prog W 0 (fun _=>true) true Tryz.f5.params.toList args.toList ds p:=hA0
 rw [Tryz.params5] at hA hval
 obtain ⟨v0,vs0,d0,ds0,p0,q0,hargs,rfl,rfl,h0,r0⟩:=trodAll_cons hA
 obtain ⟨v1,vs1,d1,ds1,p1,q1,rfl,rfl,rfl,h1,r1⟩:=trodAll_cons r0
 obtain ⟨rfl,rfl,rfl⟩:=trodAll_nil r1
 obtain rfl:args=#[v0,v1]:=by cases args;simp_all
 obtain ⟨rfl,rfl⟩:=trodVars_none hV
 have k0:=h0
 have lt0 : ∀ x ∈ p0,x.block < W.heap.size:=by obtain ⟨m,hm⟩:=k0;exact DataW.trod_lt m _ _ _ hm
 obtain ⟨u0,q0,a0,b0,rfl,e0,g0⟩:=read_pair Zm Kb Kb rfl rfl Kb (Sj Kp Kb (Sj Kn Kb (reads_int Gd))) (Sj Jc Kb (Sj Kp Kb (Sj Kn Kb (reads_int Gd)))) (hval 0 40 v0 rfl rfl) h0
 have k1:=h1
 have lt1 : ∀ x ∈ p1,x.block < W.heap.size:=by obtain ⟨m,hm⟩:=k1;exact DataW.trod_lt m _ _ _ hm
 obtain ⟨a1,e1⟩:=read_slice Jd (Sj Jd Kb (reads_str Kr)) (hval 1 34 v1 rfl rfl) h1
 clear hA0 hval0
 have hwalk:=FnExactDeskSay_walk W (mx hsh) (etb_of hlaid rfl) u0 q0 a0 b0 e0 g0 v1 a1 e1
 unfold Does at hwalk
 refine hwalk.mono fun e W' ⟨v,he,hv,bel⟩=>?_
 subst hv
 subst he
 exact ⟨_,rfl,_,_,_,[],_,[],hW',trodAll_mk1 (shut_bool Tryz.underlying4 _),(trodAll_cons_mk (Below.trod laidOut Kb (of_decide_eq_true Kb) k0 bel lt0) (trodAll_cons_mk (Below.trod laidOut Kb (of_decide_eq_true Kb) k1 bel lt1) trodAll_mk0)),rfl,Below.frame bel _,fun h=>by cases h⟩
end Go.Proofs.YtbgpppaljpngmaaGreatDoor.lFnExactDeskSay
