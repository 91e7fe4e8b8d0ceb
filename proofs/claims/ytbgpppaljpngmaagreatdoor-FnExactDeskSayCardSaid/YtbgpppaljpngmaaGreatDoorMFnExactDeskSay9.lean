/- Lemmas for FnExactDeskSay. -/
import Derived.Test.YtbgpppaljpngmaaGreatDoorMFnExactDeskSay8
import Derived.Test.YtbgpppaljpngmaaGreatDoorCards
import Derived.Test.YtbgpppaljpngmaaGreatDoorTie
import Derived.SevenTiedAt
import Derived.Shelf.LaysM
namespace Go.Proofs.YtbgpppaljpngmaaGreatDoor.lFnExactDeskSay
open Go.ChangeShapes Go.WideShapes Go.ChangeAt Go.RowKit Go.Hs
open Go.ChangeMaps (open_string shut_string)
set_option linter.unusedVariables false
theorem own:ownKnob Tryz.prog.godebug=none:=Kb
theorem laidOut:laidOutB Tryz.prog=true:=Kb
set_option maxRecDepth 100000 in
set_option maxHeartbeats 4000000 in
def Tryz.laysM146_ren : Go.Shelf.Ren := ⟨fun | 146 => 182 | 221 => 209 | 268 => 225 | 138 => 226 | 143 => 227 | 195 => 235 | 197 => 236 | 218 => 237 | 219 => 181 | 260 => 242 | 217 => 205 | 225 => 206 | 224 => 207 | 267 => 208 | 266 => 223 | 314 => 224 | n => n, fun | 9 => 9 | 31 => 34 | 3 => 3 | 4 => 4 | 0 => 0 | 105 => 188 | 21 => 21 | 5 => 5 | 46 => 168 | 119 => 201 | 139 => 204 | 138 => 203 | 146 => 180 | 51 => 179 | n => n, fun | 1 => 0 | 3 => 4 | 4 => 5 | n => n⟩
set_option maxRecDepth 100000 in
set_option maxHeartbeats 4000000 in
theorem Tryz.laysM146 : Go.Proofs.LaysM.n146 Tryz.prog Tryz.laysM146_ren := {
  mixed := by kernel_rfl
  f138 := Tryz.func226.trans (congrArg some (by kernel_rfl))
  f143 := Tryz.func227.trans (congrArg some (by kernel_rfl))
  f146 := Tryz.func182.trans (congrArg some (by kernel_rfl))
  f195 := Tryz.func235.trans (congrArg some (by kernel_rfl))
  f197 := Tryz.func236.trans (congrArg some (by kernel_rfl))
  f217 := Tryz.func205.trans (congrArg some (by kernel_rfl))
  f218 := Tryz.func237.trans (congrArg some (by kernel_rfl))
  f219 := Tryz.func181.trans (congrArg some (by kernel_rfl))
  f221 := Tryz.func209.trans (congrArg some (by kernel_rfl))
  f224 := Tryz.func207.trans (congrArg some (by kernel_rfl))
  f225 := Tryz.func206.trans (congrArg some (by kernel_rfl))
  f260 := Tryz.func242.trans (congrArg some (by kernel_rfl))
  f266 := Tryz.func223.trans (congrArg some (by kernel_rfl))
  f267 := Tryz.func208.trans (congrArg some (by kernel_rfl))
  f268 := Tryz.func225.trans (congrArg some (by kernel_rfl))
  f314 := Tryz.func224.trans (congrArg some (by kernel_rfl))
  t0 := Tryz.underlying0
  a0 := Tryz.isAgg0
  z0 := Tryz.sizeOf0
  v0 := Tryz.zeroValue0
  t3 := Tryz.underlying3
  a3 := Tryz.isAgg3
  z3 := Tryz.sizeOf3
  v3 := Tryz.zeroValue3
  t4 := Tryz.underlying4
  a4 := Tryz.isAgg4
  z4 := Tryz.sizeOf4
  v4 := Tryz.zeroValue4
  t5 := Tryz.underlying5
  a5 := Tryz.isAgg5
  z5 := Tryz.sizeOf5
  v5 := Tryz.zeroValue5
  t9 := Tryz.underlying9
  a9 := Tryz.isAgg9
  z9 := Tryz.sizeOf9
  v9 := Tryz.zeroValue9
  t21 := Tryz.underlying21
  a21 := Tryz.isAgg21
  z21 := Tryz.sizeOf21
  v21 := Tryz.zeroValue21
  t31 := Tryz.underlying34
  a31 := Tryz.isAgg34
  z31 := Tryz.sizeOf34
  v31 := Tryz.zeroValue34
  t46 := Tryz.underlying168
  a46 := Tryz.isAgg168
  z46 := Tryz.sizeOf168
  v46 := Tryz.zeroValue168
  t51 := Tryz.underlying179
  a51 := Tryz.isAgg179
  z51 := Tryz.sizeOf179
  v51 := Tryz.zeroValue179
  t105 := Tryz.underlying188
  a105 := Tryz.isAgg188
  z105 := Tryz.sizeOf188
  v105 := Tryz.zeroValue188
  t119 := Tryz.underlying201
  a119 := Tryz.isAgg201
  z119 := Tryz.sizeOf201
  t138 := Tryz.underlying203
  a138 := Tryz.isAgg203
  z138 := Tryz.sizeOf203
  v138 := Tryz.zeroValue203
  t139 := Tryz.underlying204
  a139 := Tryz.isAgg204
  z139 := Tryz.sizeOf204
  v139 := Tryz.zeroValue204
  t146 := Tryz.underlying180
  a146 := Tryz.isAgg180
  z146 := Tryz.sizeOf180
  v146 := Tryz.zeroValue180
  g1 := by kernel_rfl
  g3 := by kernel_rfl
  g4 := by kernel_rfl
  i0 := by kernel_rfl
  i3 := by kernel_rfl
  i4 := by kernel_rfl
  i5 := by kernel_rfl
  i9 := by kernel_rfl
  i21 := by kernel_rfl
  i31 := by kernel_rfl
  i46 := by kernel_rfl
  i51 := by kernel_rfl
  i105 := by kernel_rfl
  i138 := by kernel_rfl
  i139 := by kernel_rfl
  i146 := by kernel_rfl
  m1 := by kernel_rfl
  s1_3 := fun w h => Go.Proofs.cell_of_shapedOpen_int (zero := #[.int .i64 0]) (t := 3) h (of_decide_eq_true (by kernel_rfl)) (by kernel_rfl) rfl (by kernel_rfl) (by kernel_rfl) Tryz.underlying3
  m3 := by kernel_rfl
  m4 := by kernel_rfl }
theorem mx {W:World} (h:W.ShapedOpen Tryz.prog):EMx gMx W (.bool true) ():=Tryz.laysM146.s1_3 W h
set_option maxRecDepth 100000 in
set_option maxHeartbeats 4000000 in
theorem lifted (os:Os) (started:os.Started) (H:Type) (enc:TypeId × Value→H) :
  ReturnsInHanded {} Tryz.checked os 5 .any (fun w args=>(Rows.fnExactDeskSaySpec.pre enc Tryz.prog Tryz.f5 Rows.fnExactDeskSayRow.domain false w args∧laidMetH Tryz.prog Rows.fnExactDeskSayRow.laid w)∧sizedMet enc Tryz.prog Tryz.f5 (OpenSpec.ofChange Rows.fnExactDeskSaySpec) false w args)
   (Rows.fnExactDeskSaySpec.post enc Tryz.prog Tryz.f5 false true false false):=by
 refine To (C:=Tryz.checked) (X:=fun w _=>laidMetH Tryz.prog Rows.fnExactDeskSayRow.laid w) (fun _ _ _ hh h=>h.of_heap hh) own started Kb Tryz.func5
  (ChangeSpec.witness_shaped (enc:=enc) (C:=Tryz.checked) (os:=os) (X:=fun w _=>laidMetH Tryz.prog Rows.fnExactDeskSayRow.laid w) false (World.laidAll Tryz.prog os Rows.fnExactDeskSayRow.laid) #[.agg #[.slice none 0 0,.slice none 0 0],.slice none 0 0] 8 (World.laidAll_os _ _ _)
   (World.shaped_of_ZipB Kb Kb) Kb Kb Kb
   (by rw [MakeChecks.laidMetH_plain _ _ _ Kb];exact laidMet_laidAll _ Kb Kb)) ?_
 intro W base args ds gs before hval0 hW hsh hlaid
 have hval : ∀ (j:Nat) t v,Tryz.f5.params[j]? = some t→args[j]? = some v→Value.okWide Tryz.prog W .any base t v:=hval0
 have hW':=hW
 obtain ⟨p,q,hA0,hV,rfl,hfz,hnd⟩:=hW
 have hA:DataW.TrodAll enc Tryz.prog W 0 (fun _=>true) true Tryz.f5.params.toList args.toList ds p:=hA0
 rw [Tryz.params5] at hA hval
 obtain ⟨v0,vs0,d0,ds0,p0,q0,hargs,rfl,rfl,h0,r0⟩:=trodAll_cons hA
 obtain ⟨v1,vs1,d1,ds1,p1,q1,rfl,rfl,rfl,h1,r1⟩:=trodAll_cons r0
 obtain ⟨rfl,rfl,rfl⟩:=trodAll_nil r1
 obtain rfl:args=#[v0,v1]:=by cases args;simp_all
 obtain ⟨rfl,rfl⟩:=trodVars_none hV
 have k0:=h0
 have lt0 : ∀ x ∈ p0,x.block < W.heap.size:=by obtain ⟨m,hm⟩:=k0;exact DataW.trod_lt m _ _ _ hm
 obtain ⟨u0,q0,a0,b0,rfl,e0,g0⟩:=read_pair Zm Kb Kb rfl rfl Kb (Sj Kp Kb (Sj Kn Kb (reads_int Gd))) (Sj Jc Kb (Sj Kp Kb (Sj Kn Kb (reads_int Gd)))) (hval 0 40 v0 rfl rfl) h0
 have k1:=h1
 have lt1 : ∀ x ∈ p1,x.block < W.heap.size:=by obtain ⟨m,hm⟩:=k1;exact DataW.trod_lt m _ _ _ hm
 obtain ⟨a1,e1⟩:=read_slice Jd (Sj Jd Kb (reads_str Kr)) (hval 1 34 v1 rfl rfl) h1
 clear hA0 hval0
 have hwalk:=FnExactDeskSay_walk W (mx hsh) (etb_of hlaid rfl) u0 q0 a0 b0 e0 g0 v1 a1 e1
 unfold Does at hwalk
 refine hwalk.mono fun e W' ⟨v,he,hv,bel⟩=>?_
 subst hv
 subst he
 exact ⟨_,rfl,_,_,_,[],_,[],hW',trodAll_mk1 (shut_bool Tryz.underlying4 _),(trodAll_cons_mk (Below.trod laidOut Kb (of_decide_eq_true Kb) k0 bel lt0) (trodAll_cons_mk (Below.trod laidOut Kb (of_decide_eq_true Kb) k1 bel lt1) trodAll_mk0)),rfl,Below.frame bel _,fun h=>by cases h⟩
end Go.Proofs.YtbgpppaljpngmaaGreatDoor.lFnExactDeskSay
