/- Lemmas for FnExactDeskSay. -/
import Derived.Test.YtbgpppaljpngmaaGreatDoorMFnExactDeskSay1
import Derived.Test.YtbgpppaljpngmaaGreatDoorProg
import Derived.Shelf.Lay
import Derived.Ground.NamesProg
import Derived.Shelf.Sort.Plain
import Derived.Shelf.Slices.In.SortNone
import Derived.Sort.OwnSortedInts
import Derived.Laws.Shifts
namespace Go.Hs
open Go.Proofs
theorem Kl:type_of% @Tryz.sizeOf3:=@Tryz.sizeOf3
theorem Km:type_of% @Tryz.isAgg3:=@Tryz.isAgg3
theorem Kn:type_of% @Tryz.underlying88:=@Tryz.underlying88
theorem Ko:type_of% @Tryz.sizeOf26:=@Tryz.sizeOf26
theorem Kp:type_of% @Tryz.underlying23:=@Tryz.underlying23
theorem Kq:type_of% @Tryz.underlying48:=@Tryz.underlying48
theorem Kr:type_of% @Tryz.underlying9:=@Tryz.underlying9
theorem Ks:type_of% @Tryz.isAgg26:=@Tryz.isAgg26
theorem Kt:type_of% @Tryz.sizeOf88:=@Tryz.sizeOf88
theorem Ku:type_of% @Tryz.sizeOf9:=@Tryz.sizeOf9
theorem Kv:type_of% @Tryz.isAgg9:=@Tryz.isAgg9
theorem Kw:type_of% @Tryz.isAgg23:=@Tryz.isAgg23
theorem Kx:type_of% @Tryz.sizeOf48:=@Tryz.sizeOf48
theorem Ky:type_of% @Tryz.underlying26:=@Tryz.underlying26
theorem Kz:type_of% @Tryz.isAgg88:=@Tryz.isAgg88
theorem Ja:type_of% @Tryz.sizeOf23:=@Tryz.sizeOf23
theorem Jb:type_of% @Tryz.sizeOf24:=@Tryz.sizeOf24
theorem Jc:type_of% @Tryz.underlying24:=@Tryz.underlying24
theorem Jd:type_of% @Tryz.underlying34:=@Tryz.underlying34
theorem Je:type_of% @Tryz.isAgg48:=@Tryz.isAgg48
theorem Jf:type_of% @Tryz.isAgg24:=@Tryz.isAgg24
theorem Jg:type_of% @Tryz.zeroValue3:=@Tryz.zeroValue3
theorem Jh:type_of% @Tryz.call71:=@Tryz.call71
theorem Ji:type_of% @Tryz.underlying160:=@Tryz.underlying160
theorem Jj:type_of% @Tryz.underlying136:=@Tryz.underlying136
theorem Jk:type_of% @Tryz.call190:=@Tryz.call190
theorem Jl:type_of% @Tryz.call116:=@Tryz.call116
theorem Jm:type_of% @Tryz.call122:=@Tryz.call122
theorem Jn:type_of% @Tryz.call163:=@Tryz.call163
theorem Jo:type_of% @Tryz.call64:=@Tryz.call64
theorem Jp:type_of% @Tryz.isAgg136:=@Tryz.isAgg136
theorem Jq:type_of% @Tryz.call66:=@Tryz.call66
theorem Jr:type_of% @Tryz.call115:=@Tryz.call115
theorem Js:type_of% @Tryz.call130:=@Tryz.call130
theorem Jt:type_of% @Tryz.call150:=@Tryz.call150
theorem Ju:type_of% @Tryz.sizeOf158:=@Tryz.sizeOf158
theorem Jv:type_of% @Tryz.zeroValue88:=@Tryz.zeroValue88
theorem Jw:type_of% @Tryz.underlying5:=@Tryz.underlying5
theorem Jx:type_of% @Tryz.call94:=@Tryz.call94
theorem Jy:type_of% @Tryz.call62:=@Tryz.call62
theorem Jz:type_of% @Tryz.call104:=@Tryz.call104
theorem Ga:type_of% @Tryz.sizeOf5:=@Tryz.sizeOf5
theorem Gb:type_of% @Tryz.call118:=@Tryz.call118
theorem Gc:type_of% @Tryz.call16:=@Tryz.call16
theorem Gd:type_of% @Tryz.underlying3:=@Tryz.underlying3
theorem Ge:type_of% @Tryz.zeroValue23:=@Tryz.zeroValue23
theorem Gf:type_of% @Tryz.call77:=@Tryz.call77
theorem Gg:type_of% @Tryz.underlying158:=@Tryz.underlying158
theorem Gh:type_of% @Tryz.sizeOf136:=@Tryz.sizeOf136
theorem Gi:type_of% @Tryz.call114:=@Tryz.call114
theorem Gj:type_of% @Tryz.call67:=@Tryz.call67
theorem Gk:type_of% @Tryz.call145:=@Tryz.call145
theorem Gl:type_of% @Tryz.underlying22:=@Tryz.underlying22
theorem Gm:type_of% @Tryz.call160:=@Tryz.call160
theorem Gn:type_of% @Tryz.call156:=@Tryz.call156
theorem Gp:type_of% @Tryz.call60:=@Tryz.call60
theorem Gq:type_of% @Tryz.call164:=@Tryz.call164
theorem Gs:type_of% @Tryz.call146:=@Tryz.call146
theorem Gt:type_of% @Tryz.call183:=@Tryz.call183
theorem Gu:type_of% @Tryz.call121:=@Tryz.call121
theorem Gv:type_of% @Tryz.isAgg158:=@Tryz.isAgg158
theorem Gw:type_of% @Tryz.call123:=@Tryz.call123
theorem Gx:type_of% @Tryz.call162:=@Tryz.call162
theorem Gy:type_of% @Tryz.call131:=@Tryz.call131
theorem Gz:type_of% @Tryz.call187:=@Tryz.call187
theorem Za:type_of% @Tryz.call126:=@Tryz.call126
theorem Zb:type_of% @Tryz.call102:=@Tryz.call102
theorem Zc:type_of% @Tryz.call119:=@Tryz.call119
theorem Zd:type_of% @Tryz.call68:=@Tryz.call68
theorem Ze:type_of% @Tryz.isAgg5:=@Tryz.isAgg5
theorem Zf:type_of% @Tryz.isAgg40:=@Tryz.isAgg40
theorem Zg:type_of% @Tryz.sizeOf40:=@Tryz.sizeOf40
theorem Zh:type_of% @Tryz.call27:=@Tryz.call27
theorem Zi:type_of% @Tryz.call29:=@Tryz.call29
theorem Zj:type_of% @Tryz.zeroValue9:=@Tryz.zeroValue9
theorem Zk:type_of% @Tryz.underlying59:=@Tryz.underlying59
theorem Zl:type_of% @Tryz.zeroValue136:=@Tryz.zeroValue136
theorem Zm:type_of% @Tryz.underlying40:=@Tryz.underlying40
set_option linter.unusedVariables false
set_option linter.unusedSimpArgs false
section
variable {P:Program} {n:Nat} {N:Env→World→Prop} {ρ : Env} {w w0:World} {all:Array Oper} {rest:List Oper} {d:Nat} {ty t tl:TypeId} {pos:String} {after:Array Edge} {g:Option (Nat × Bool)} {x y:Operand} {u1 u2 u3 v1 v2 v3:Value} {b o:Nat} {zs:List Value}
theorem opv_load3o (ht : ∀ w,(isAgg tl).run P w=.ok true w) (hs : ∀ w,(sizeOf tl).run P w=.ok 3 w) (hx:evalE ρ x=.pointer (some ⟨b,o,none⟩)) (h0:w.cell? ⟨b,o,none⟩=some u1) (h1:w.cell? ⟨b,o+1,none⟩=some u2) (h2:w.cell? ⟨b,o+2,none⟩=some u3) :
  OpV P (.load tl x) ty ρ w (.agg #[u1,u2,u3]):=by
 have e0:(⟨b,o,none⟩:Addr).add 0=⟨b,o,none⟩:=add_mk b o 0
 have e1:(⟨b,o,none⟩:Addr).add 1=⟨b,o+1,none⟩:=add_mk b o 1
 have e2:(⟨b,o,none⟩:Addr).add 2=⟨b,o+2,none⟩:=add_mk b o 2
 simp [OpV,execOp,hx,Instr.loadAt,Instr.sureAddr,loadVar,ht,hs,loadCells,loadCellsFrom,e0,e1,e2,h0,h1,h2]
theorem opv_load3 (ht : ∀ w,(isAgg tl).run P w=.ok true w) (hs : ∀ w,(sizeOf tl).run P w=.ok 3 w) (hx:evalE ρ x=.pointer (some ⟨b,0,none⟩)) (hB:Blk w b [u1,u2,u3]):OpV P (.load tl x) ty ρ w (.agg #[u1,u2,u3]) :=
 opv_load3o ht hs hx (hB.cell rfl) (hB.cell rfl) (hB.cell rfl)
theorem Ru (hw:wantedE all ⟨some d,.alloc t,ty,pos,after,g⟩ ρ = true) (hF:Flat P t zs)
  (hk : ∀ b w1,w.heap.size≤b→Ext w w1→Blk w1 b zs→Wops P n all rest N (upd ρ d (.pointer (some ⟨b,0,none⟩))) w1) :
  Wops P n all (⟨some d,.alloc t,ty,pos,after,g⟩::rest) N ρ w:=by
 obtain ⟨fs,hund,hzero,hplaces⟩:=hF
 refine Nd (v:=.pointer (some ⟨w.heap.size,0,none⟩)) (w':=w.alloc (.cells zs.toArray t)) hw ?_ (hk _ _ (Nat.le_refl _) ((Ext.refl w).alloc _) (Blk.new w zs t))
 simp [execOp,Instr.alloc,newVar,newRow,hzero,Value.cells]
theorem ops_store3 {c1 c2 c3:Value} (hs : ∀ w,(sizeOf tl).run P w=.ok 3 w) (hx:evalE ρ x=.pointer (some ⟨b,0,none⟩)) (hy:evalE ρ y=.agg #[v1,v2,v3]) (h1:isCell v1=true) (h2:isCell v2=true) (h3:isCell v3=true) (hB:Blk w b [c1,c2,c3]) :
  OpS P (.store tl x y) ty ρ w (((w.setCell ⟨b,0,none⟩ v1).setCell ⟨b,1,none⟩ v2).setCell ⟨b,2,none⟩ v3):=by
 have hB':Blk (w.setCell ⟨b,0,none⟩ v1) b [v1,c2,c3]:=hB.set v1
 have hB'':Blk ((w.setCell ⟨b,0,none⟩ v1).setCell ⟨b,1,none⟩ v2) b [v1,v2,c3]:=hB'.set v2
 have k1:=Qv (P:=P) (w:=w) (ad:=⟨b,0,none⟩) h1 (hB.cell (i:=0) rfl) hB.frozen
 have k2:=Qv (P:=P) (w:=w.setCell ⟨b,0,none⟩ v1) (ad:=⟨b,1,none⟩) h2 (hB'.cell (i:=1) rfl) hB'.frozen
 have k3:=Qv (P:=P) (w:=(w.setCell ⟨b,0,none⟩ v1).setCell ⟨b,1,none⟩ v2) (ad:=⟨b,2,none⟩) h3 (hB''.cell (i:=2) rfl) hB''.frozen
 simp [OpS,execOp,hx,hy,Instr.storeAt,Instr.sureAddr,storeVar,hs,Value.cells,storeCells,Addr.add,k1,k2,k3]
theorem Wo_st3 {c1 c2 c3:Value} (hw:wantedE all ⟨none,.store t x y,ty,pos,after,g⟩ ρ = true) (hs : ∀ w,(sizeOf t).run P w=.ok 3 w) (hx:evalE ρ x=.pointer (some ⟨b,0,none⟩)) (hy:evalE ρ y=.agg #[v1,v2,v3]) (h1:isCell v1=true) (h2:isCell v2=true) (h3:isCell v3=true)
  (hb:Blk w b [c1,c2,c3]) (h0:w0.heap.size≤b) (hE:Ext w0 w)
  (hk : ∀ w1,Ext w0 w1→Blk w1 b [v1,v2,v3]→(∀ k,k≠b→w1.heap[k]? = w.heap[k]?)→w1.heap.size=w.heap.size→Wops P n all rest N ρ w1) :
  Wops P n all (⟨none,.store t x y,ty,pos,after,g⟩::rest) N ρ w:=by
 have hb':Blk (w.setCell ⟨b,0,none⟩ v1) b [v1,c2,c3]:=hb.set v1
 have hb'':Blk ((w.setCell ⟨b,0,none⟩ v1).setCell ⟨b,1,none⟩ v2) b [v1,v2,c3]:=hb'.set v2
 refine Wo_store hw (ops_store3 hs hx hy h1 h2 h3 hb) (hk _ (((hE.setCell h0 v1).setCell h0 v2).setCell h0 v3) (hb''.set v3) (fun k h=>?_) ?_)
 ·rw [Xd _ h,Xd _ h,Xd _ h]
 ·rw [size_setCell,size_setCell,size_setCell]
end
def CellS3 (w:World) (p:Value) (K:Value→Prop):Prop:=∃ b u1 u2 u3,p=.pointer (some ⟨b,0,none⟩)∧Blk w b [u1,u2,u3]∧K (.agg #[u1,u2,u3])
section
variable {P:Program} {t a a':Tmp} {ta ta':TypeId} {w:World} {v:Value}
theorem run_loadVar3 {b:Nat} {u1 u2 u3:Value} (ht : ∀ w,(isAgg ta).run P w=.ok true w) (hs : ∀ w,(sizeOf ta).run P w=.ok 3 w) (hB:Blk w b [u1,u2,u3]):(loadVar ta ⟨b,0,none⟩).run P w=.ok (.agg #[u1,u2,u3]) w:=by
 have h0:w.cell? ⟨b,0,none⟩=some u1:=hB.cell rfl
 have h1:w.cell? ⟨b,1,none⟩=some u2:=hB.cell rfl
 have h2:w.cell? ⟨b,2,none⟩=some u3:=hB.cell rfl
 simp [loadVar,ht,hs,loadCells,loadCellsFrom,Addr.add,h0,h1,h2]
theorem results_c3t {fn:Func} {b:Nat} {u1 u2 u3:Value} (h:fn.results=#[.cell a ta,.tmp t]) (tmps:Array Value) (ht : ∀ w,(isAgg ta).run P w=.ok true w) (hs : ∀ w,(sizeOf ta).run P w=.ok 3 w)
  (hp:tmps.getD a undef=.pointer (some ⟨b,0,none⟩)) (hB:Blk w b [u1,u2,u3]):(results fn tmps).run P w=.ok (.tuple #[.agg #[u1,u2,u3],tmps.getD t undef]) w:=by
 rw [Array.getD_eq_getD_getElem?] at hp
 simp [results,h,hp,asAddr,run_loadVar3 ht hs hB]
theorem fn_of_Wc3t {f:FuncId} {fn:Func} {c:Code} {args:List Value} {S:Value→World→Prop} (hf:P.funcs[f]? = some fn) (hb:fn.body=some c)
  (hr:fn.results=#[.cell a ta,.tmp t]) {n:Nat} (hn:fn.ntmps=n) (hl:Nat.ble args.length n=true) (ht : ∀ w,(isAgg ta).run P w=.ok true w) (hs : ∀ w,(sizeOf ta).run P w=.ok 3 w)
  (h:W P n c (fun ρ w'=>CellS3 w' (ρ a) fun v=>S (.tuple #[v,ρ t]) w') (fun _ _ _=>False) (fun ρ w'=>CellS3 w' (ρ a) fun v=>S (.tuple #[v,ρ t]) w') (envOf args) w):Does P f args w S:=by
 subst hn
 unfold W at h
 unfold Does
 refine calls_of_wp hf hb (Go.wp_mono (h _ (Rep.start args _ hl)) fun e a w q=>?_)
 cases e with
 | normal =>
   obtain ⟨ρ, h1, b, u1, u2, u3, h2, h3, h4⟩ := q
   exact ⟨h1.defers, _, by rw [results_c3t hr _ ht hs ((h1.get _).trans h2) h3, h1.get], _, rfl, h4⟩
 | ret =>
   obtain ⟨ρ, h1, b, u1, u2, u3, h2, h3, h4⟩ := q
   exact ⟨h1.defers, _, by rw [results_c3t hr _ ht hs ((h1.get _).trans h2) h3, h1.get], _, rfl, h4⟩
 | exit i=>obtain ⟨ρ,h1,h2⟩:=q;exact h2.elim
 | goto l=>exact q.elim
 | panic ch=>exact q.elim
 | outgrown=>exact q.elim
end
def dv (a:Deed):Value:=.agg #[.int .i64 a.kind,str a.text,.int .i64 a.node]
def DeedAt (w:World) (b o:Nat) (a:Deed):Prop:=w.cell? ⟨b,o,none⟩=some (.int .i64 a.kind)∧w.cell? ⟨b,o+1,none⟩=some (str a.text)∧w.cell? ⟨b,o+2,none⟩=some (.int .i64 a.node)∧a.text.length≤9223372036854775807
theorem DeedAt.ext {w w':World} {b o:Nat} {a:Deed} (h:DeedAt w b o a) (e:Ext w w'):DeedAt w' b o a:=⟨e.cell h.1,e.cell h.2.1,e.cell h.2.2.1,h.2.2.2⟩
def ESD (w:World) (v:Value) (l:List Deed):Prop:=∃ a c,v=.slice a l.length c∧l.length≤9223372036854775807∧(l=[]∨∃ b o,a=some ⟨b,o,none⟩∧∀ i (h:i < l.length),DeedAt w b (o+i*3) l[i])
instance:Mono ESD:=⟨by
 rintro w w' v l e ⟨a,c,rfl,h1,h2⟩
 refine ⟨a,c,rfl,h1,h2.imp id ?_⟩
 rintro ⟨b,o,rfl,h⟩
 exact ⟨b,o,rfl,fun i hi=>(h i hi).ext e⟩⟩
section
variable {P:Program} {n:Nat} {N:Env→World→Prop} {ρ : Env} {w w0:World} {all:Array Oper} {rest:List Oper} {d d2:Nat} {ty ty2 t tl ts el:TypeId} {pos pos2:String} {after after2:Array Edge} {g g2:Option (Nat × Bool)} {x y:Operand} {v:Value} {l:List Deed} {k:Nat}
theorem opv_lenD (ht:P.underlying ts=some (.slice el)) (hx:evalE ρ x=v) (h:ESD w0 v l):OpV P (.call { callee:=.builtin .len,args:=#[x],argTypes:=#[ts] }) ty ρ w (.int .i64 (l.length:Int)):=by
 obtain ⟨a,c,rfl,_⟩:=h
 exact Qf ht hx
theorem opv_indexAddr3 {b o len cap:Nat} (ht:P.underlying ts=some (.slice el)) (hs : ∀ w,(sizeOf el).run P w=.ok 3 w) (hx:evalE ρ x=.slice (some ⟨b,o,none⟩) len cap) (hy:evalE ρ y=.int .i64 (k:Int)) (hk:k < len) :
  OpV P (.indexAddr ts x y) ty ρ w (.pointer (some ⟨b,o+k*3,none⟩)):=by
 simp [OpV,execOp,hx,hy,Instr.indexAt,asIntOf,Ug ht,hs,hk]
 unfold Addr.add;split
 ·simp_all
 ·rfl
theorem Wo_getD (ht:P.underlying t=some (.slice el)) (hs : ∀ w,(sizeOf el).run P w=.ok 3 w) (hta : ∀ w,(isAgg tl).run P w=.ok true w) (hts : ∀ w,(sizeOf tl).run P w=.ok 3 w)
  (hw:wantedE all ⟨some d,.indexAddr t x y,ty,pos,after,g⟩ ρ = true) (hw2 : ∀ v,wantedE all ⟨some d2,.load tl (.tmp d),ty2,pos2,after2,g2⟩ (upd ρ d v)=true)
  (hx:evalE ρ x=v) (hR:ESD w0 v l) (hE:Ext w0 w) (hy:evalE ρ y=.int .i64 (k:Int)) (hk:k < l.length)
  (hk' : ∀ ad,Wops P n all rest N (upd (upd ρ d (.pointer (some ad))) d2 (dv l[k])) w):Wops P n all (⟨some d,.indexAddr t x y,ty,pos,after,g⟩::⟨some d2,.load tl (.tmp d),ty2,pos2,after2,g2⟩::rest) N ρ w:=by
 obtain ⟨a,c,rfl,h1,h2⟩:=hR
 rcases h2 with rfl | ⟨b,o,rfl,h⟩
 ·cases hk
 have hD:=(h k hk).ext hE
 refine Wo hw (opv_indexAddr3 ht hs hx hy hk) ?_
 refine Wo (hw2 _) (opv_load3o hta hts (by simp [evalE,upd]) hD.1 hD.2.1 hD.2.2.1) ?_
 exact hk' _
end
section
variable {P:Program} {n fuel:Nat} {N:Env→World→Prop} {ρ : Env} {w w0:World} {all:Array Oper} {S:World→Prop} {listed:Array Bool} {d d2:Nat} {ty t el tl ty2:TypeId} {pos pos2:String} {after after2:Array Edge} {g g2:Option (Nat × Bool)} {x y:Operand} {v:Value}
theorem Wh_get {α : Type} {E:World→Value→α→Prop} {xs:List α} {k:Nat} (i j:Nat) (hi:all[i]? = some ⟨some d,.indexAddr t x y,ty,pos,after,g⟩) (hf:Region.free .any all listed i=true) (hr:(Region.ready .any all listed).contains i=true)
  (hw:wantedE all ⟨some d,.indexAddr t x y,ty,pos,after,g⟩ ρ = true)
  (hi2:all[j]? = some ⟨some d2,.load tl (.tmp d),ty2,pos2,after2,g2⟩) (hf2:Region.free .any all (listed.setIfInBounds i true) j=true) (hr2:(Region.ready .any all (listed.setIfInBounds i true)).contains j=true)
  (hw2 : ∀ v,wantedE all ⟨some d2,.load tl (.tmp d),ty2,pos2,after2,g2⟩ (upd ρ d v)=true)
  (ht:P.underlying t=some (.slice el)) (hs : ∀ w,(sizeOf el).run P w=.ok 1 w) (hta : ∀ w,(isAgg tl).run P w=.ok false w)
  (hx:evalE ρ x=v) (hR:ESl E w0 v xs) (hE : ∀ w',S w'→Ext w0 w') (hy:evalE ρ y=.int .i64 (k:Int)) (hk:k < xs.length) (hS:S w)
  (hk' : ∀ ad u,E w0 u xs[k]→Wh P n all S fuel ((listed.setIfInBounds i true).setIfInBounds j true) N (upd (upd ρ d (.pointer (some ad))) d2 u) w) :
  Wh P n all S (fuel+2) listed N ρ w:=by
 obtain ⟨a,c,rfl,hR⟩:=hR
 obtain ⟨b,o,u,rfl,hc,hu⟩:=hR.at hk
 refine Yo i hi hf hr hw (fun _ _=>Yv ht hs hx hy hk) hS ?_
 refine Yo j hi2 hf2 hr2 (hw2 _) (fun w' hw'=>Vt hta ?_ ((hE w' hw').cell hc)) hS (hk' _ u hu)
 show upd ρ d _ d=_
 unfold upd;rw [Nat.beq_refl];rfl
theorem Wh_get_z {α : Type} {E:World→Value→α→Prop} {xs:List α} {z:Int} (i j:Nat) (hi:all[i]? = some ⟨some d,.indexAddr t x y,ty,pos,after,g⟩) (hf:Region.free .any all listed i=true) (hr:(Region.ready .any all listed).contains i=true)
  (hw:wantedE all ⟨some d,.indexAddr t x y,ty,pos,after,g⟩ ρ = true)
  (hi2:all[j]? = some ⟨some d2,.load tl (.tmp d),ty2,pos2,after2,g2⟩) (hf2:Region.free .any all (listed.setIfInBounds i true) j=true) (hr2:(Region.ready .any all (listed.setIfInBounds i true)).contains j=true)
  (hw2 : ∀ v,wantedE all ⟨some d2,.load tl (.tmp d),ty2,pos2,after2,g2⟩ (upd ρ d v)=true)
  (ht:P.underlying t=some (.slice el)) (hs : ∀ w,(sizeOf el).run P w=.ok 1 w) (hta : ∀ w,(isAgg tl).run P w=.ok false w)
  (hx:evalE ρ x=v) (hR:ESl E w0 v xs) (hE : ∀ w',S w'→Ext w0 w') (hy:evalE ρ y=.int .i64 z) (hk:0≤z∧z.toNat < xs.length) (hS:S w)
  (hk' : ∀ ad u,E w0 u xs[z.toNat]→Wh P n all S fuel ((listed.setIfInBounds i true).setIfInBounds j true) N (upd (upd ρ d (.pointer (some ad))) d2 u) w) :
  Wh P n all S (fuel+2) listed N ρ w :=
 Wh_get i j hi hf hr hw hi2 hf2 hr2 hw2 ht hs hta hx hR hE (by rw [hy,Rj hk.1]) hk.2 hS hk'
end
section
variable {P:Program} {n:Nat} {N:Env→World→Prop} {ρ : Env} {w w0:World} {all:Array Oper} {rest:List Oper}
 {d:Nat} {ty t el:TypeId} {pos:String} {after:Array Edge} {g:Option (Nat × Bool)} {x y:Operand} {v:Value} {zs cs:List Value} {ps:List (Nat × Value)} {b i:Nat}
theorem Ye {k:Nat} {parts:Array (Nat × Operand)} {z:Value} (hw:wantedE all ⟨some d,.buildSlice t k parts,ty,pos,after,g⟩ ρ = true) (ht:P.underlying t=some (.slice el)) (hs : ∀ w,(sizeOf el).run P w=.ok 1 w)
  (hz : ∀ w,(zeroValue el).run P w=.ok z w) (h1:isCell z=true) (hb:(Nat.ble 1 k && Nat.ble k 1000)=true) (hp:parts.toList.map (fun p=>(p.1,evalE ρ p.2))=ps) (hc:fillF (List.replicate k z) ps=some cs)
  (hk : ∀ b w1,w.heap.size≤b→Ext w w1→Blk w1 b cs→w1.heap[b]? = some (.cells cs.toArray el (0,0))→Wops P n all rest N (upd ρ d (.slice (some ⟨b,0,none⟩) k k)) w1) :
  Wops P n all (⟨some d,.buildSlice t k parts,ty,pos,after,g⟩::rest) N ρ w:=by
 have hb':1≤k∧k≤1000:=by simpa using hb
 have e:(Array.map (fun x=>match x with | (i,x)=>(i,evalE ρ x)) parts).toList=ps:=by rw [← hp];simp
 have hr:(Array.map (fun i=>(#[z]:Array Value)[i % (#[z]:Array Value).size]!) (Array.range k))=(List.replicate k z).toArray:=by
  apply Array.ext'
  simp only [Array.toList_map,Array.toList_range]
  apply List.ext_getElem
  ·simp
  ·intro i h1 h2;simp [Nat.mod_one]
 have hf:=fill_eq (k:=k) (place:=fun i=>some (i*1,1)) (fun i hi=>by simp) ps (List.replicate k z) cs (by simp) hc
 have hz0:z.cells=#[z]:=Ri h1
 refine Wo_w hw (show OpW P (.buildSlice t k parts) ty ρ w (.slice (some ⟨w.heap.size,0,none⟩) k k) (w.alloc (.cells cs.toArray el)) from ?_) (hk _ _ (Nat.le_refl _) ((Ext.refl w).alloc _) (Blk.new w cs el) (heap_alloc_new w _))
 simp only [OpW,execOp,Instr.buildSlice,Sem.run_bind,Result.andThen_ok,Ug ht,hs,Nat.mul_one]
 rw [if_neg (by omega),if_neg (by omega)]
 simp only [Sem.run_bind,hz,Result.andThen_ok,Sem.run_pure,hz0,e]
 rw [hr]
 simp only [Nat.mul_one] at hf
 rw [hf]
 simp [newRow]
end
section
variable {α : Type} {X:World→List Nat→Value→α→Prop} {w:World} {lo hi b:Nat} {e:TypeId} {r:Value} {x : α}
theorem Owned.single [Loc X] (hr:OwnedB lo hi X w r x) (hb:w.heap[b]? = some (.cells [r].toArray e (0,0))) (hl:lo≤b) (hh:hi≤b):Owned lo (XSl e X) w (.slice (some ⟨b,0,none⟩) 1 1) [x]:=by
 obtain ⟨f,h1,h2,h3⟩:=hr
 have hc:=Loc.cell h3
 refine ⟨b::f,List.nodup_cons.2 ⟨fun hm=>by have:=h2 b hm;omega,h1⟩,fun k hk=>?_,[r],[f],?_,by simp [Value.ownBlock],⟨h3,trivial⟩⟩
 ·rcases List.mem_cons.1 hk with rfl | hk
  ·exact hl
  ·exact (h2 k hk).1
 ·have:=ownsRow_block (e:=e) (cs:=[r]) hb (by unfold maxLen;simp)
  exact this
end
section
variable {P:Program} {n:Nat} {N:Env→World→Prop} {ρ : Env} {w:World} {all:Array Oper} {rest:List Oper} {d:Nat} {ty t el:TypeId} {pos:String} {after:Array Edge} {g:Option (Nat × Bool)} {x:Operand} {z v:Value}
theorem Ua (hw:wantedE all ⟨some d,.buildSlice t 1 #[(0,x)],ty,pos,after,g⟩ ρ = true) (ht:P.underlying t=some (.slice el)) (hs : ∀ w,(sizeOf el).run P w=.ok 1 w)
  (hz : ∀ w,(zeroValue el).run P w=.ok z w) (h1:isCell z=true) (hv:isCell v=true) (hx:evalE ρ x=v)
  (hk : ∀ b w1,w.heap.size≤b→Ext w w1→Blk w1 b [v]→w1.heap[b]? = some (.cells [v].toArray el (0,0))→Wops P n all rest N (upd ρ d (.slice (some ⟨b,0,none⟩) 1 1)) w1) :
  Wops P n all (⟨some d,.buildSlice t 1 #[(0,x)],ty,pos,after,g⟩::rest) N ρ w:=by
 refine Ye (ps:=[(0,v)]) (cs:=[v]) hw ht hs hz h1 rfl (by simp [hx]) ?_ hk
 simp [fillF,hv,show Nat.blt 0 1=true from rfl]
end
section
variable {P:Program} {n:Nat} {N:Env→World→Prop} {X:Nat→Env→World→Prop} {R:Env→World→Prop} {M:Env→Prop} {ρ : Env} {w w0:World} {all:Array Oper} {rest:List Oper} {d:Nat} {op:Op} {ty t t' tl s el:TypeId} {pos:String} {after:Array Edge} {g:Option (Nat × Bool)} {x y c:Operand} {S:World→Prop} {fuel i:Nat} {listed:Array Bool} {k:IntKind}
theorem Zu {x:Operand} {k:IntKind} {a:Int} (h:(wantedE all ⟨some d,.move x,ty,pos,after,g⟩ ρ,evalE ρ x)=((true,((.int k a))):Bool × Value)) (hk:Wops P n all rest N (upd ρ d (.int k a)) w):Wops P n all (⟨some d,.move x,ty,pos,after,g⟩::rest) N ρ w:=Wo (congrArg (·.1) h) (Vq (congrArg (·.2) h)) hk
theorem Rf {x:Operand} {k:IntKind} {a:Int} (h:(wantedE all ⟨some d,.move x,ty,pos,after,g⟩ ρ,evalE ρ x)=((true,((.int k a))):Bool × Value)) (hk:Wq P n all w rest M (upd ρ d (.int k a))):Wq P n all w (⟨some d,.move x,ty,pos,after,g⟩::rest) M ρ:=Xs (congrArg (·.1) h) (fun _ _=>Vq (congrArg (·.2) h)) hk
theorem WtmI (j:Nat) {k:IntKind} {a:Int} {x:Operand} (hi:all[j]? = some ⟨some d,.move x,ty,pos,after,g⟩) (h:(wantedE all ⟨some d,.move x,ty,pos,after,g⟩ ρ,evalE ρ x)=((true,((.int k a))):Bool × Value)) (hS:S w) (hk:Wh P n all S fuel (listed.setIfInBounds j true) N (upd ρ d (.int k a)) w) (hf:Region.free .any all listed j=true:=by kernel_rfl) (hr:(Region.ready .any all listed).contains j=true:=by kernel_rfl):Wh P n all S (fuel+1) listed N ρ w:=Yo j hi hf hr (congrArg (·.1) h) (fun _ _=>Vq (congrArg (·.2) h)) hS hk
theorem Yi {x:Operand} {a:Bool} (h:(wantedE all ⟨some d,.move x,ty,pos,after,g⟩ ρ,evalE ρ x)=((true,((.bool a))):Bool × Value)) (hk:Wops P n all rest N (upd ρ d (.bool a)) w):Wops P n all (⟨some d,.move x,ty,pos,after,g⟩::rest) N ρ w:=Wo (congrArg (·.1) h) (Vq (congrArg (·.2) h)) hk
theorem Rv {x:Operand} {a:Bool} (h:(wantedE all ⟨some d,.move x,ty,pos,after,g⟩ ρ,evalE ρ x)=((true,((.bool a))):Bool × Value)) (hk:Wq P n all w rest M (upd ρ d (.bool a))):Wq P n all w (⟨some d,.move x,ty,pos,after,g⟩::rest) M ρ:=Xs (congrArg (·.1) h) (fun _ _=>Vq (congrArg (·.2) h)) hk
theorem Up {x:Operand} {a:Option Addr} {b e:Nat} (h:(wantedE all ⟨some d,.move x,ty,pos,after,g⟩ ρ,evalE ρ x)=((true,((.slice a b e))):Bool × Value)) (hk:Wops P n all rest N (upd ρ d (.slice a b e)) w):Wops P n all (⟨some d,.move x,ty,pos,after,g⟩::rest) N ρ w:=Wo (congrArg (·.1) h) (Vq (congrArg (·.2) h)) hk
theorem WtmS (j:Nat) {a:Option Addr} {b e:Nat} {x:Operand} (hi:all[j]? = some ⟨some d,.move x,ty,pos,after,g⟩) (h:(wantedE all ⟨some d,.move x,ty,pos,after,g⟩ ρ,evalE ρ x)=((true,((.slice a b e))):Bool × Value)) (hS:S w) (hk:Wh P n all S fuel (listed.setIfInBounds j true) N (upd ρ d (.slice a b e)) w) (hf:Region.free .any all listed j=true:=by kernel_rfl) (hr:(Region.ready .any all listed).contains j=true:=by kernel_rfl):Wh P n all S (fuel+1) listed N ρ w:=Yo j hi hf hr (congrArg (·.1) h) (fun _ _=>Vq (congrArg (·.2) h)) hS hk
theorem Vo {x:Operand} {a:ByteArray} (h:(wantedE all ⟨some d,.move x,ty,pos,after,g⟩ ρ,evalE ρ x)=((true,((.string a))):Bool × Value)) (hk:Wops P n all rest N (upd ρ d (.string a)) w):Wops P n all (⟨some d,.move x,ty,pos,after,g⟩::rest) N ρ w:=Wo (congrArg (·.1) h) (Vq (congrArg (·.2) h)) hk
theorem WtmT (j:Nat) {a:ByteArray} {x:Operand} (hi:all[j]? = some ⟨some d,.move x,ty,pos,after,g⟩) (h:(wantedE all ⟨some d,.move x,ty,pos,after,g⟩ ρ,evalE ρ x)=((true,((.string a))):Bool × Value)) (hS:S w) (hk:Wh P n all S fuel (listed.setIfInBounds j true) N (upd ρ d (.string a)) w) (hf:Region.free .any all listed j=true:=by kernel_rfl) (hr:(Region.ready .any all listed).contains j=true:=by kernel_rfl):Wh P n all S (fuel+1) listed N ρ w:=Yo j hi hf hr (congrArg (·.1) h) (fun _ _=>Vq (congrArg (·.2) h)) hS hk
theorem Xl {x:Operand} {a:Array Value} (h:(wantedE all ⟨some d,.move x,ty,pos,after,g⟩ ρ,evalE ρ x)=((true,((.tuple a))):Bool × Value)) (hk:Wops P n all rest N (upd ρ d (.tuple a)) w):Wops P n all (⟨some d,.move x,ty,pos,after,g⟩::rest) N ρ w:=Wo (congrArg (·.1) h) (Vq (congrArg (·.2) h)) hk
theorem WtmU (j:Nat) {a:Array Value} {x:Operand} (hi:all[j]? = some ⟨some d,.move x,ty,pos,after,g⟩) (h:(wantedE all ⟨some d,.move x,ty,pos,after,g⟩ ρ,evalE ρ x)=((true,((.tuple a))):Bool × Value)) (hS:S w) (hk:Wh P n all S fuel (listed.setIfInBounds j true) N (upd ρ d (.tuple a)) w) (hf:Region.free .any all listed j=true:=by kernel_rfl) (hr:(Region.ready .any all listed).contains j=true:=by kernel_rfl):Wh P n all S (fuel+1) listed N ρ w:=Yo j hi hf hr (congrArg (·.1) h) (fun _ _=>Vq (congrArg (·.2) h)) hS hk
theorem Qc {x:Operand} {a:Option Addr} (h:(wantedE all ⟨some d,.move x,ty,pos,after,g⟩ ρ,evalE ρ x)=((true,((.pointer a))):Bool × Value)) (hk:Wops P n all rest N (upd ρ d (.pointer a)) w):Wops P n all (⟨some d,.move x,ty,pos,after,g⟩::rest) N ρ w:=Wo (congrArg (·.1) h) (Vq (congrArg (·.2) h)) hk
theorem Vb {x:Operand} (v:Value) (h:(wantedE all ⟨some d,.move x,ty,pos,after,g⟩ ρ,evalE ρ x)=((true,(v)):Bool × Value)) (hk:Wops P n all rest N (upd ρ d v) w):Wops P n all (⟨some d,.move x,ty,pos,after,g⟩::rest) N ρ w:=Wo (congrArg (·.1) h) (Vq (congrArg (·.2) h)) hk
theorem Qj {x:Operand} (v:Value) (h:(wantedE all ⟨some d,.move x,ty,pos,after,g⟩ ρ,evalE ρ x)=((true,(v)):Bool × Value)) (hk:Wq P n all w rest M (upd ρ d v)):Wq P n all w (⟨some d,.move x,ty,pos,after,g⟩::rest) M ρ:=Xs (congrArg (·.1) h) (fun _ _=>Vq (congrArg (·.2) h)) hk
theorem WtmV (j:Nat) (v:Value) {x:Operand} (hi:all[j]? = some ⟨some d,.move x,ty,pos,after,g⟩) (h:(wantedE all ⟨some d,.move x,ty,pos,after,g⟩ ρ,evalE ρ x)=((true,(v)):Bool × Value)) (hS:S w) (hk:Wh P n all S fuel (listed.setIfInBounds j true) N (upd ρ d v) w) (hf:Region.free .any all listed j=true:=by kernel_rfl) (hr:(Region.ready .any all listed).contains j=true:=by kernel_rfl):Wh P n all S (fuel+1) listed N ρ w:=Yo j hi hf hr (congrArg (·.1) h) (fun _ _=>Vq (congrArg (·.2) h)) hS hk
theorem Vg {x:Operand} {k:IntKind} {a:Int} (h:(wantedE all ⟨some d,.assign x,ty,pos,after,g⟩ ρ,evalE ρ x)=((true,((.int k a))):Bool × Value)) (hk:Wops P n all rest N (upd ρ d (.int k a)) w):Wops P n all (⟨some d,.assign x,ty,pos,after,g⟩::rest) N ρ w:=Wo (congrArg (·.1) h) (Xi (congrArg (·.2) h)) hk
theorem Zz {x:Operand} {a:Bool} (h:(wantedE all ⟨some d,.assign x,ty,pos,after,g⟩ ρ,evalE ρ x)=((true,((.bool a))):Bool × Value)) (hk:Wops P n all rest N (upd ρ d (.bool a)) w):Wops P n all (⟨some d,.assign x,ty,pos,after,g⟩::rest) N ρ w:=Wo (congrArg (·.1) h) (Xi (congrArg (·.2) h)) hk
theorem Tp {x:Operand} {a:Bool} (h:(wantedE all ⟨some d,.assign x,ty,pos,after,g⟩ ρ,evalE ρ x)=((true,((.bool a))):Bool × Value)) (hk:Wq P n all w rest M (upd ρ d (.bool a))):Wq P n all w (⟨some d,.assign x,ty,pos,after,g⟩::rest) M ρ:=Xs (congrArg (·.1) h) (fun _ _=>Xi (congrArg (·.2) h)) hk
theorem WtaB (j:Nat) {a:Bool} {x:Operand} (hi:all[j]? = some ⟨some d,.assign x,ty,pos,after,g⟩) (h:(wantedE all ⟨some d,.assign x,ty,pos,after,g⟩ ρ,evalE ρ x)=((true,((.bool a))):Bool × Value)) (hS:S w) (hk:Wh P n all S fuel (listed.setIfInBounds j true) N (upd ρ d (.bool a)) w) (hf:Region.free .any all listed j=true:=by kernel_rfl) (hr:(Region.ready .any all listed).contains j=true:=by kernel_rfl):Wh P n all S (fuel+1) listed N ρ w:=Yo j hi hf hr (congrArg (·.1) h) (fun _ _=>Xi (congrArg (·.2) h)) hS hk
theorem Ys {x:Operand} {a:Option Addr} {b e:Nat} (h:(wantedE all ⟨some d,.assign x,ty,pos,after,g⟩ ρ,evalE ρ x)=((true,((.slice a b e))):Bool × Value)) (hk:Wops P n all rest N (upd ρ d (.slice a b e)) w):Wops P n all (⟨some d,.assign x,ty,pos,after,g⟩::rest) N ρ w:=Wo (congrArg (·.1) h) (Xi (congrArg (·.2) h)) hk
theorem Yj {x:Operand} {a:ByteArray} (h:(wantedE all ⟨some d,.assign x,ty,pos,after,g⟩ ρ,evalE ρ x)=((true,((.string a))):Bool × Value)) (hk:Wops P n all rest N (upd ρ d (.string a)) w):Wops P n all (⟨some d,.assign x,ty,pos,after,g⟩::rest) N ρ w:=Wo (congrArg (·.1) h) (Xi (congrArg (·.2) h)) hk
theorem Uq (j:Nat) {a:ByteArray} {x:Operand} (hi:all[j]? = some ⟨some d,.assign x,ty,pos,after,g⟩) (h:(wantedE all ⟨some d,.assign x,ty,pos,after,g⟩ ρ,evalE ρ x)=((true,((.string a))):Bool × Value)) (hS:S w) (hk:Wh P n all S fuel (listed.setIfInBounds j true) N (upd ρ d (.string a)) w) (hf:Region.free .any all listed j=true:=by kernel_rfl) (hr:(Region.ready .any all listed).contains j=true:=by kernel_rfl):Wh P n all S (fuel+1) listed N ρ w:=Yo j hi hf hr (congrArg (·.1) h) (fun _ _=>Xi (congrArg (·.2) h)) hS hk
theorem Ub {x:Operand} {a:Option Addr} (h:(wantedE all ⟨some d,.assign x,ty,pos,after,g⟩ ρ,evalE ρ x)=((true,((.pointer a))):Bool × Value)) (hk:Wops P n all rest N (upd ρ d (.pointer a)) w):Wops P n all (⟨some d,.assign x,ty,pos,after,g⟩::rest) N ρ w:=Wo (congrArg (·.1) h) (Xi (congrArg (·.2) h)) hk
theorem Yr {x:Operand} (v:Value) (h:(wantedE all ⟨some d,.assign x,ty,pos,after,g⟩ ρ,evalE ρ x)=((true,(v)):Bool × Value)) (hk:Wops P n all rest N (upd ρ d v) w):Wops P n all (⟨some d,.assign x,ty,pos,after,g⟩::rest) N ρ w:=Wo (congrArg (·.1) h) (Xi (congrArg (·.2) h)) hk
theorem WtaV (j:Nat) (v:Value) {x:Operand} (hi:all[j]? = some ⟨some d,.assign x,ty,pos,after,g⟩) (h:(wantedE all ⟨some d,.assign x,ty,pos,after,g⟩ ρ,evalE ρ x)=((true,(v)):Bool × Value)) (hS:S w) (hk:Wh P n all S fuel (listed.setIfInBounds j true) N (upd ρ d v) w) (hf:Region.free .any all listed j=true:=by kernel_rfl) (hr:(Region.ready .any all listed).contains j=true:=by kernel_rfl):Wh P n all S (fuel+1) listed N ρ w:=Yo j hi hf hr (congrArg (·.1) h) (fun _ _=>Xi (congrArg (·.2) h)) hS hk
theorem Yq {c x y:Operand} {a:Bool} (h:(wantedE all ⟨some d,.pick c x y,ty,pos,after,g⟩ ρ,evalE ρ c,evalE ρ x)=((true,(.bool true),((.bool a))):Bool × Value × Value)) (hk:Wops P n all rest N (upd ρ d (.bool a)) w):Wops P n all (⟨some d,.pick c x y,ty,pos,after,g⟩::rest) N ρ w:=Wo (congrArg (·.1) h) (opv_pick_t (congrArg (·.2.1) h) (congrArg (·.2.2) h)) hk
theorem Nt {c x y:Operand} {a:Bool} (h:(wantedE all ⟨some d,.pick c x y,ty,pos,after,g⟩ ρ,evalE ρ c,evalE ρ x)=((true,(.bool true),((.bool a))):Bool × Value × Value)) (hk:Wq P n all w rest M (upd ρ d (.bool a))):Wq P n all w (⟨some d,.pick c x y,ty,pos,after,g⟩::rest) M ρ:=Xs (congrArg (·.1) h) (fun _ _=>opv_pick_t (congrArg (·.2.1) h) (congrArg (·.2.2) h)) hk
theorem Vp {c x y:Operand} {a:Bool} (h:(wantedE all ⟨some d,.pick c x y,ty,pos,after,g⟩ ρ,evalE ρ c,evalE ρ y)=((true,(.bool false),((.bool a))):Bool × Value × Value)) (hk:Wops P n all rest N (upd ρ d (.bool a)) w):Wops P n all (⟨some d,.pick c x y,ty,pos,after,g⟩::rest) N ρ w:=Wo (congrArg (·.1) h) (opv_pick_f (congrArg (·.2.1) h) (congrArg (·.2.2) h)) hk
theorem Rc {c x y:Operand} {a:Bool} (h:(wantedE all ⟨some d,.pick c x y,ty,pos,after,g⟩ ρ,evalE ρ c,evalE ρ y)=((true,(.bool false),((.bool a))):Bool × Value × Value)) (hk:Wq P n all w rest M (upd ρ d (.bool a))):Wq P n all w (⟨some d,.pick c x y,ty,pos,after,g⟩::rest) M ρ:=Xs (congrArg (·.1) h) (fun _ _=>opv_pick_f (congrArg (·.2.1) h) (congrArg (·.2.2) h)) hk
theorem WsxI {x:Operand} {i:Nat} {vs:List Value} {k:IntKind} {a:Int} (h:(wantedE all ⟨some d,.extract x i,ty,pos,after,g⟩ ρ,evalE ρ x,vs[i]?)=((true,(.tuple vs.toArray),(some (.int k a))):Bool × Value × Option Value)) (hk:Wops P n all rest N (upd ρ d (.int k a)) w):Wops P n all (⟨some d,.extract x i,ty,pos,after,g⟩::rest) N ρ w:=Wo (congrArg (·.1) h) (Qi (congrArg (·.2.1) h) (congrArg (·.2.2) h)) hk
theorem Xv {x:Operand} {i:Nat} {vs:List Value} {a:Bool} (h:(wantedE all ⟨some d,.extract x i,ty,pos,after,g⟩ ρ,evalE ρ x,vs[i]?)=((true,(.tuple vs.toArray),(some (.bool a))):Bool × Value × Option Value)) (hk:Wops P n all rest N (upd ρ d (.bool a)) w):Wops P n all (⟨some d,.extract x i,ty,pos,after,g⟩::rest) N ρ w:=Wo (congrArg (·.1) h) (Qi (congrArg (·.2.1) h) (congrArg (·.2.2) h)) hk
theorem Rs {x:Operand} {i:Nat} {vs:List Value} {a:ByteArray} (h:(wantedE all ⟨some d,.extract x i,ty,pos,after,g⟩ ρ,evalE ρ x,vs[i]?)=((true,(.tuple vs.toArray),(some (.string a))):Bool × Value × Option Value)) (hk:Wops P n all rest N (upd ρ d (.string a)) w):Wops P n all (⟨some d,.extract x i,ty,pos,after,g⟩::rest) N ρ w:=Wo (congrArg (·.1) h) (Qi (congrArg (·.2.1) h) (congrArg (·.2.2) h)) hk
theorem WtxT (j:Nat) {a:ByteArray} {x:Operand} {i:Nat} {vs:List Value} (hi:all[j]? = some ⟨some d,.extract x i,ty,pos,after,g⟩) (h:(wantedE all ⟨some d,.extract x i,ty,pos,after,g⟩ ρ,evalE ρ x,vs[i]?)=((true,(.tuple vs.toArray),(some (.string a))):Bool × Value × Option Value)) (hS:S w) (hk:Wh P n all S fuel (listed.setIfInBounds j true) N (upd ρ d (.string a)) w) (hf:Region.free .any all listed j=true:=by kernel_rfl) (hr:(Region.ready .any all listed).contains j=true:=by kernel_rfl):Wh P n all S (fuel+1) listed N ρ w:=Yo j hi hf hr (congrArg (·.1) h) (fun _ _=>Qi (congrArg (·.2.1) h) (congrArg (·.2.2) h)) hS hk
theorem WsxA {x:Operand} {i:Nat} {vs:List Value} {a:Array Value} (h:(wantedE all ⟨some d,.extract x i,ty,pos,after,g⟩ ρ,evalE ρ x,vs[i]?)=((true,(.tuple vs.toArray),(some (.agg a))):Bool × Value × Option Value)) (hk:Wops P n all rest N (upd ρ d (.agg a)) w):Wops P n all (⟨some d,.extract x i,ty,pos,after,g⟩::rest) N ρ w:=Wo (congrArg (·.1) h) (Qi (congrArg (·.2.1) h) (congrArg (·.2.2) h)) hk
theorem WtxA (j:Nat) {a:Array Value} {x:Operand} {i:Nat} {vs:List Value} (hi:all[j]? = some ⟨some d,.extract x i,ty,pos,after,g⟩) (h:(wantedE all ⟨some d,.extract x i,ty,pos,after,g⟩ ρ,evalE ρ x,vs[i]?)=((true,(.tuple vs.toArray),(some (.agg a))):Bool × Value × Option Value)) (hS:S w) (hk:Wh P n all S fuel (listed.setIfInBounds j true) N (upd ρ d (.agg a)) w) (hf:Region.free .any all listed j=true:=by kernel_rfl) (hr:(Region.ready .any all listed).contains j=true:=by kernel_rfl):Wh P n all S (fuel+1) listed N ρ w:=Yo j hi hf hr (congrArg (·.1) h) (fun _ _=>Qi (congrArg (·.2.1) h) (congrArg (·.2.2) h)) hS hk
theorem Tu {x:Operand} {i:Nat} {vs:List Value} {a:Option Addr} (h:(wantedE all ⟨some d,.extract x i,ty,pos,after,g⟩ ρ,evalE ρ x,vs[i]?)=((true,(.tuple vs.toArray),(some (.pointer a))):Bool × Value × Option Value)) (hk:Wops P n all rest N (upd ρ d (.pointer a)) w):Wops P n all (⟨some d,.extract x i,ty,pos,after,g⟩::rest) N ρ w:=Wo (congrArg (·.1) h) (Qi (congrArg (·.2.1) h) (congrArg (·.2.2) h)) hk
theorem Un {x:Operand} {i:Nat} {vs:List Value} (v:Value) (h:(wantedE all ⟨some d,.extract x i,ty,pos,after,g⟩ ρ,evalE ρ x,vs[i]?)=((true,(.tuple vs.toArray),(some v)):Bool × Value × Option Value)) (hk:Wops P n all rest N (upd ρ d v) w):Wops P n all (⟨some d,.extract x i,ty,pos,after,g⟩::rest) N ρ w:=Wo (congrArg (·.1) h) (Qi (congrArg (·.2.1) h) (congrArg (·.2.2) h)) hk
theorem Vi {a b:Int} (h:(wantedE all ⟨some d,.binOp .lss t x y t',ty,pos,after,g⟩ ρ,evalE ρ x,evalE ρ y)=((true,.int k a,.int k b):Bool × Value × Value)) (hk:Wops P n all rest N (upd ρ d (.bool (decide (a < b)))) w):Wops P n all (⟨some d,.binOp .lss t x y t',ty,pos,after,g⟩::rest) N ρ w:=Wo (congrArg (·.1) h) (opv_lss (congrArg (·.2.1) h) (congrArg (·.2.2) h)) hk
theorem Wsleq {a b:Int} (h:(wantedE all ⟨some d,.binOp .leq t x y t',ty,pos,after,g⟩ ρ,evalE ρ x,evalE ρ y)=((true,.int k a,.int k b):Bool × Value × Value)) (hk:Wops P n all rest N (upd ρ d (.bool (decide (a≤b)))) w):Wops P n all (⟨some d,.binOp .leq t x y t',ty,pos,after,g⟩::rest) N ρ w:=Wo (congrArg (·.1) h) (opv_leq (congrArg (·.2.1) h) (congrArg (·.2.2) h)) hk
theorem Qe {a b:Int} (h:(wantedE all ⟨some d,.binOp .gtr t x y t',ty,pos,after,g⟩ ρ,evalE ρ x,evalE ρ y)=((true,.int k a,.int k b):Bool × Value × Value)) (hk:Wops P n all rest N (upd ρ d (.bool (decide (b < a)))) w):Wops P n all (⟨some d,.binOp .gtr t x y t',ty,pos,after,g⟩::rest) N ρ w:=Wo (congrArg (·.1) h) (opv_gtr (congrArg (·.2.1) h) (congrArg (·.2.2) h)) hk
theorem Qk {a b:Int} (h:(wantedE all ⟨some d,.binOp .geq t x y t',ty,pos,after,g⟩ ρ,evalE ρ x,evalE ρ y)=((true,.int k a,.int k b):Bool × Value × Value)) (hk:Wops P n all rest N (upd ρ d (.bool (decide (b≤a)))) w):Wops P n all (⟨some d,.binOp .geq t x y t',ty,pos,after,g⟩::rest) N ρ w:=Wo (congrArg (·.1) h) (opv_geq (congrArg (·.2.1) h) (congrArg (·.2.2) h)) hk
theorem Vm {a b:Int} (h:(wantedE all ⟨some d,.binOp .eql t x y t',ty,pos,after,g⟩ ρ,evalE ρ x,evalE ρ y)=((true,.int k a,.int k b):Bool × Value × Value)) (hk:Wops P n all rest N (upd ρ d (.bool (decide (a=b)))) w):Wops P n all (⟨some d,.binOp .eql t x y t',ty,pos,after,g⟩::rest) N ρ w:=Wo (congrArg (·.1) h) (opv_eql (congrArg (·.2.1) h) (congrArg (·.2.2) h)) hk
theorem Rg {a b:Int} (h:(wantedE all ⟨some d,.binOp .eql t x y t',ty,pos,after,g⟩ ρ,evalE ρ x,evalE ρ y)=((true,.int k a,.int k b):Bool × Value × Value)) (hk:Wq P n all w rest M (upd ρ d (.bool (decide (a=b))))):Wq P n all w (⟨some d,.binOp .eql t x y t',ty,pos,after,g⟩::rest) M ρ:=Xs (congrArg (·.1) h) (fun _ _=>opv_eql (congrArg (·.2.1) h) (congrArg (·.2.2) h)) hk
theorem Xo {a b:Int} (h:(wantedE all ⟨some d,.binOp .neq t x y t',ty,pos,after,g⟩ ρ,evalE ρ x,evalE ρ y)=((true,.int k a,.int k b):Bool × Value × Value)) (hk:Wops P n all rest N (upd ρ d (.bool (!decide (a=b)))) w):Wops P n all (⟨some d,.binOp .neq t x y t',ty,pos,after,g⟩::rest) N ρ w:=Wo (congrArg (·.1) h) (opv_neq (congrArg (·.2.1) h) (congrArg (·.2.2) h)) hk
theorem Wqneq {a b:Int} (h:(wantedE all ⟨some d,.binOp .neq t x y t',ty,pos,after,g⟩ ρ,evalE ρ x,evalE ρ y)=((true,.int k a,.int k b):Bool × Value × Value)) (hk:Wq P n all w rest M (upd ρ d (.bool (!decide (a=b))))):Wq P n all w (⟨some d,.binOp .neq t x y t',ty,pos,after,g⟩::rest) M ρ:=Xs (congrArg (·.1) h) (fun _ _=>opv_neq (congrArg (·.2.1) h) (congrArg (·.2.2) h)) hk
theorem Vr {a b:Int} (h:(wantedE all ⟨some d,.binOp .add t x y t',ty,pos,after,g⟩ ρ,evalE ρ x,evalE ρ y)=((true,.int .i64 a,.int .i64 b):Bool × Value × Value)) (hk:Wops P n all rest N (upd ρ d (.int .i64 (a+b))) w) (hb : -9223372036854775808≤a+b∧a+b≤9223372036854775807:=by omega):Wops P n all (⟨some d,.binOp .add t x y t',ty,pos,after,g⟩::rest) N ρ w:=Wo (congrArg (·.1) h) (Rw (congrArg (·.2.1) h) (congrArg (·.2.2) h) hb) hk
theorem Qm {a b:Int} (h:(wantedE all ⟨some d,.binOp .sub t x y t',ty,pos,after,g⟩ ρ,evalE ρ x,evalE ρ y)=((true,.int .i64 a,.int .i64 b):Bool × Value × Value)) (hk:Wops P n all rest N (upd ρ d (.int .i64 (a - b))) w) (hb : -9223372036854775808≤a - b∧a - b≤9223372036854775807:=by omega):Wops P n all (⟨some d,.binOp .sub t x y t',ty,pos,after,g⟩::rest) N ρ w:=Wo (congrArg (·.1) h) (opv_sub (congrArg (·.2.1) h) (congrArg (·.2.2) h) hb) hk
theorem Ym {a:Bool} (h:(wantedE all ⟨some d,.unOp .not t x,ty,pos,after,g⟩ ρ,evalE ρ x)=((true,.bool a):Bool × Value)) (hk:Wops P n all rest N (upd ρ d (.bool (!a))) w):Wops P n all (⟨some d,.unOp .not t x,ty,pos,after,g⟩::rest) N ρ w:=Wo (congrArg (·.1) h) (Ni (congrArg (·.2) h)) hk
theorem Wqnot {a:Bool} (h:(wantedE all ⟨some d,.unOp .not t x,ty,pos,after,g⟩ ρ,evalE ρ x)=((true,.bool a):Bool × Value)) (hk:Wq P n all w rest M (upd ρ d (.bool (!a)))):Wq P n all w (⟨some d,.unOp .not t x,ty,pos,after,g⟩::rest) M ρ:=Xs (congrArg (·.1) h) (fun _ _=>Ni (congrArg (·.2) h)) hk
theorem Yf {p:Prop} [Decidable p] (h:(wantedE all ⟨some d,.move x,ty,pos,after,g⟩ ρ,evalE ρ x)=((true,.bool (decide p)):Bool × Value)) (ht:p→Wops P n all rest N (upd ρ d (.bool true)) w) (hf : ¬p→Wops P n all rest N (upd ρ d (.bool false)) w):Wops P n all (⟨some d,.move x,ty,pos,after,g⟩::rest) N ρ w:=Wo_split_dec (congrArg (·.1) h) (Vq (congrArg (·.2) h)) ht hf
theorem Uy {p:Prop} [Decidable p] (h:(wantedE all ⟨some d,.move x,ty,pos,after,g⟩ ρ,evalE ρ x)=((true,.bool (decide p)):Bool × Value)) (ht:p→Wq P n all w rest M (upd ρ d (.bool true))) (hf : ¬p→Wq P n all w rest M (upd ρ d (.bool false))):Wq P n all w (⟨some d,.move x,ty,pos,after,g⟩::rest) M ρ:=Wq_split_dec (congrArg (·.1) h) (fun _ _=>Vq (congrArg (·.2) h)) ht hf
theorem Uh {p:Prop} [Decidable p] (h:(wantedE all ⟨some d,.move x,ty,pos,after,g⟩ ρ,evalE ρ x)=((true,.bool (!decide p)):Bool × Value)) (ht : ¬p→Wops P n all rest N (upd ρ d (.bool true)) w) (hf:p→Wops P n all rest N (upd ρ d (.bool false)) w):Wops P n all (⟨some d,.move x,ty,pos,after,g⟩::rest) N ρ w:=Wo_split_ndec (congrArg (·.1) h) (Vq (congrArg (·.2) h)) ht hf
theorem Vn {fs:Array Field} {f:Field} {i b o m:Nat} (ht:P.underlying s=some (.struct fs)) (hs : ∀ w,(sizeOf f.type).run P w=.ok (m+1) w) (h:(wantedE all ⟨some d,.fieldAddr s x i,ty,pos,after,g⟩ ρ,fs[i]?,f.offset,evalE ρ x)=((true,some f,i,.pointer (some ⟨b,o,none⟩)):Bool × Option Field × Nat × Value)) (hk:Wops P n all rest N (upd ρ d (.pointer (some ⟨b,o+i,none⟩))) w):Wops P n all (⟨some d,.fieldAddr s x i,ty,pos,after,g⟩::rest) N ρ w:=Wo (congrArg (·.1) h) (Nj ht (congrArg (·.2.1) h) (congrArg (·.2.2.1) h) hs (congrArg (·.2.2.2) h)) hk
theorem Uw {fs:Array Field} {f:Field} {i b o m:Nat} (ht:P.underlying s=some (.struct fs)) (hs : ∀ w,(sizeOf f.type).run P w=.ok (m+1) w) (h:(wantedE all ⟨some d,.fieldAddr s x i,ty,pos,after,g⟩ ρ,fs[i]?,f.offset,evalE ρ x)=((true,some f,i,.pointer (some ⟨b,o,none⟩)):Bool × Option Field × Nat × Value)) (hk:Wq P n all w rest M (upd ρ d (.pointer (some ⟨b,o+i,none⟩)))):Wq P n all w (⟨some d,.fieldAddr s x i,ty,pos,after,g⟩::rest) M ρ:=Xs (congrArg (·.1) h) (fun _ _=>Nj ht (congrArg (·.2.1) h) (congrArg (·.2.2.1) h) hs (congrArg (·.2.2.2) h)) hk
theorem St (j:Nat) {fs:Array Field} {f:Field} {i b o m:Nat} (ht:P.underlying s=some (.struct fs)) (hs : ∀ w,(sizeOf f.type).run P w=.ok (m+1) w) (hi:all[j]? = some ⟨some d,.fieldAddr s x i,ty,pos,after,g⟩) (h:(wantedE all ⟨some d,.fieldAddr s x i,ty,pos,after,g⟩ ρ,fs[i]?,f.offset,evalE ρ x)=((true,some f,i,.pointer (some ⟨b,o,none⟩)):Bool × Option Field × Nat × Value)) (hS:S w) (hk:Wh P n all S fuel (listed.setIfInBounds j true) N (upd ρ d (.pointer (some ⟨b,o+i,none⟩))) w) (hf:Region.free .any all listed j=true:=by kernel_rfl) (hr:(Region.ready .any all listed).contains j=true:=by kernel_rfl):Wh P n all S (fuel+1) listed N ρ w:=Yo j hi hf hr (congrArg (·.1) h) (fun _ _=>Nj ht (congrArg (·.2.1) h) (congrArg (·.2.2.1) h) hs (congrArg (·.2.2.2) h)) hS hk
theorem Yk {k:IntKind} {a:Int} {b o:Nat} {cs:List Value} (ht : ∀ w,(isAgg tl).run P w=.ok false w) (hB:Blk w b cs) (h:(wantedE all ⟨some d,.load tl x,ty,pos,after,g⟩ ρ,evalE ρ x,cs[o]?)=((true,.pointer (some ⟨b,o,none⟩),some (.int k a)):Bool × Value × Option Value)) (hk:Wops P n all rest N (upd ρ d (.int k a)) w):Wops P n all (⟨some d,.load tl x,ty,pos,after,g⟩::rest) N ρ w:=Wo (congrArg (·.1) h) (Vt ht (congrArg (·.2.1) h) (hB.cell (congrArg (·.2.2) h))) hk
theorem Ql {a:Option Addr} {e e2:Nat} {b o:Nat} {cs:List Value} (ht : ∀ w,(isAgg tl).run P w=.ok false w) (hB:Blk w b cs) (h:(wantedE all ⟨some d,.load tl x,ty,pos,after,g⟩ ρ,evalE ρ x,cs[o]?)=((true,.pointer (some ⟨b,o,none⟩),some (.slice a e e2)):Bool × Value × Option Value)) (hk:Wops P n all rest N (upd ρ d (.slice a e e2)) w):Wops P n all (⟨some d,.load tl x,ty,pos,after,g⟩::rest) N ρ w:=Wo (congrArg (·.1) h) (Vt ht (congrArg (·.2.1) h) (hB.cell (congrArg (·.2.2) h))) hk
theorem Ul {a:ByteArray} {b o:Nat} {cs:List Value} (ht : ∀ w,(isAgg tl).run P w=.ok false w) (hB:Blk w b cs) (h:(wantedE all ⟨some d,.load tl x,ty,pos,after,g⟩ ρ,evalE ρ x,cs[o]?)=((true,.pointer (some ⟨b,o,none⟩),some (.string a)):Bool × Value × Option Value)) (hk:Wops P n all rest N (upd ρ d (.string a)) w):Wops P n all (⟨some d,.load tl x,ty,pos,after,g⟩::rest) N ρ w:=Wo (congrArg (·.1) h) (Vt ht (congrArg (·.2.1) h) (hB.cell (congrArg (·.2.2) h))) hk
theorem Yu (v:Value) {b o:Nat} {cs:List Value} (ht : ∀ w,(isAgg tl).run P w=.ok false w) (hB:Blk w b cs) (h:(wantedE all ⟨some d,.load tl x,ty,pos,after,g⟩ ρ,evalE ρ x,cs[o]?)=((true,.pointer (some ⟨b,o,none⟩),some v):Bool × Value × Option Value)) (hk:Wops P n all rest N (upd ρ d v) w):Wops P n all (⟨some d,.load tl x,ty,pos,after,g⟩::rest) N ρ w:=Wo (congrArg (·.1) h) (Vt ht (congrArg (·.2.1) h) (hB.cell (congrArg (·.2.2) h))) hk
theorem Xc {b:Nat} {u1 u2:Value} (ht : ∀ w,(isAgg tl).run P w=.ok true w) (hs : ∀ w,(sizeOf tl).run P w=.ok 2 w) (hB:Blk w b [u1,u2]) (h:(wantedE all ⟨some d,.load tl x,ty,pos,after,g⟩ ρ,evalE ρ x)=((true,.pointer (some ⟨b,0,none⟩)):Bool × Value)) (hk:Wops P n all rest N (upd ρ d (.agg #[u1,u2])) w):Wops P n all (⟨some d,.load tl x,ty,pos,after,g⟩::rest) N ρ w:=Wo (congrArg (·.1) h) (opv_load2 ht hs (congrArg (·.2) h) hB) hk
theorem Qt {b:Nat} {u1 u2 u3:Value} (ht : ∀ w,(isAgg tl).run P w=.ok true w) (hs : ∀ w,(sizeOf tl).run P w=.ok 3 w) (hB:Blk w b [u1,u2,u3]) (h:(wantedE all ⟨some d,.load tl x,ty,pos,after,g⟩ ρ,evalE ρ x)=((true,.pointer (some ⟨b,0,none⟩)):Bool × Value)) (hk:Wops P n all rest N (upd ρ d (.agg #[u1,u2,u3])) w):Wops P n all (⟨some d,.load tl x,ty,pos,after,g⟩::rest) N ρ w:=Wo (congrArg (·.1) h) (opv_load3 ht hs (congrArg (·.2) h) hB) hk
theorem Vk {α : Type} {E:World→Value→α→Prop} {xs:List α} {v:Value} {t:TypeId} (ht:P.underlying t=some (.slice el)) (h:(wantedE all ⟨some d,.call { callee:=.builtin .len,args:=#[x],argTypes:=#[t] },ty,pos,after,g⟩ ρ,evalE ρ x)=((true,v):Bool × Value)) (hx:ESl E w0 v xs) (hk:Wops P n all rest N (upd ρ d (.int .i64 (xs.length:Int))) w):Wops P n all (⟨some d,.call { callee:=.builtin .len,args:=#[x],argTypes:=#[t] },ty,pos,after,g⟩::rest) N ρ w:=Wo (congrArg (·.1) h) (Rx ht (congrArg (·.2) h) hx) hk
theorem Vf {id:Nat} {ops:List Oper} (h:Wops P n ops.toArray ops N ρ w) (hd:dstsLt n ops=true:=by rfl):W P n (.region id ops.toArray false) N X R ρ w:=Um hd h
theorem Zp {id:Nat} {ops:List Oper} {y:Code} (h:Wops P n ops.toArray ops (fun ρ w=>W P n y N X R ρ w) ρ w) (hd:dstsLt n ops=true:=by rfl):W P n (.seq (.region id ops.toArray false) y) N X R ρ w:=Zq (Um hd h)
theorem Wha (rs:List Nat) (h:WhAll P n all S fuel listed N ρ w rs) (hr:Region.ready .any all listed=rs:=by kernel_rfl) (hne:rs.isEmpty=false:=by rfl):Wh P n all S (fuel+1) listed N ρ w:=Wh_all hr hne h
theorem Ui {c1 c2 v1 v2:Value} {b:Nat} (hs : ∀ w,(sizeOf t).run P w=.ok 2 w) (hb:Blk w b [c1,c2]) (h:(wantedE all ⟨none,.store t x y,ty,pos,after,g⟩ ρ,evalE ρ x,evalE ρ y)=((true,.pointer (some ⟨b,0,none⟩),.agg #[v1,v2]):Bool × Value × Value)) (hE:Ext w0 w)
  (hk : ∀ w1,Ext w0 w1→Blk w1 b [v1,v2]→(∀ k,k≠b→w1.heap[k]? = w.heap[k]?)→w1.heap.size=w.heap.size→Wops P n all rest N ρ w1)
  (h1:isCell v1=true:=by first | rfl | assumption) (h2:isCell v2=true:=by first | rfl | assumption) (h0:w0.heap.size≤b:=by omega) :
  Wops P n all (⟨none,.store t x y,ty,pos,after,g⟩::rest) N ρ w:=Xj (congrArg (·.1) h) hs (congrArg (·.2.1) h) (congrArg (·.2.2) h) h1 h2 hb h0 hE hk
theorem Qq {c1 c2 c3 v1 v2 v3:Value} {b:Nat} (hs : ∀ w,(sizeOf t).run P w=.ok 3 w) (hb:Blk w b [c1,c2,c3]) (h:(wantedE all ⟨none,.store t x y,ty,pos,after,g⟩ ρ,evalE ρ x,evalE ρ y)=((true,.pointer (some ⟨b,0,none⟩),.agg #[v1,v2,v3]):Bool × Value × Value)) (hE:Ext w0 w)
  (hk : ∀ w1,Ext w0 w1→Blk w1 b [v1,v2,v3]→(∀ k,k≠b→w1.heap[k]? = w.heap[k]?)→w1.heap.size=w.heap.size→Wops P n all rest N ρ w1)
  (h1:isCell v1=true:=by first | rfl | assumption) (h2:isCell v2=true:=by first | rfl | assumption) (h3:isCell v3=true:=by first | rfl | assumption) (h0:w0.heap.size≤b:=by omega) :
  Wops P n all (⟨none,.store t x y,ty,pos,after,g⟩::rest) N ρ w:=Wo_st3 (congrArg (·.1) h) hs (congrArg (·.2.1) h) (congrArg (·.2.2) h) h1 h2 h3 hb h0 hE hk
end
section
variable {P:Program} {n:Nat} {N:Env→World→Prop} {X:Nat→Env→World→Prop} {R:Env→World→Prop} {M:Env→Prop} {ρ : Env} {w w0:World} {all:Array Oper} {rest:List Oper} {d:Nat} {op:Op} {ty t t' tl s el:TypeId} {pos:String} {after:Array Edge} {g:Option (Nat × Bool)} {x y c:Operand} {S:World→Prop} {fuel i:Nat} {listed:Array Bool} {k:IntKind}
theorem Yw {p:Prop} [Decidable p] (h:(wantedE all ⟨some d,.move x,ty,pos,after,g⟩ ρ,evalE ρ x)=((true,.bool (decide p)):Bool × Value)) (hf : ¬p→Wops P n all rest N (upd ρ d (.bool false)) w) (hn:p→False:=by intro;contradiction):Wops P n all (⟨some d,.move x,ty,pos,after,g⟩::rest) N ρ w:=Yf h (fun h=>(hn h).elim) hf
theorem Uj {p:Prop} [Decidable p] (h:(wantedE all ⟨some d,.move x,ty,pos,after,g⟩ ρ,evalE ρ x)=((true,.bool (decide p)):Bool × Value)) (hf : ¬p→Wops P n all rest N (upd ρ d (.bool false)) w) (hn:p→False:=by intro;omega):Wops P n all (⟨some d,.move x,ty,pos,after,g⟩::rest) N ρ w:=Yf h (fun h=>(hn h).elim) hf
theorem WspndecF {p:Prop} [Decidable p] (h:(wantedE all ⟨some d,.move x,ty,pos,after,g⟩ ρ,evalE ρ x)=((true,.bool (!decide p)):Bool × Value)) (hf:p→Wops P n all rest N (upd ρ d (.bool false)) w) (hn : ¬p→False:=by intro;contradiction):Wops P n all (⟨some d,.move x,ty,pos,after,g⟩::rest) N ρ w:=Uh h (fun h=>(hn h).elim) hf
theorem Wh1 {o:Oper} (hi:all[i]? = some o) (h:Wops P n all [o] (fun ρ' w'=>S w'∧Wh P n all S fuel (listed.setIfInBounds i true) N ρ' w') ρ w):WhAll P n all S fuel listed N ρ w [i]:=Vu hi h WhAll_nil
theorem Wnx {all':Array Oper} (hS:S w) (hk:Wh P n all S fuel listed N ρ w):Wops P n all' [] (fun ρ' w'=>S w'∧Wh P n all S fuel listed N ρ' w') ρ w:=Zn ⟨hS,hk⟩
theorem Vj {c:Operand} {x y:Code} {p:Prop} [Decidable p] (hc:evalE ρ c=.bool (decide p)) (hf : ¬p→W P n y N X R ρ w) (hn:p→False:=by intro;contradiction):W P n (.cond c x y) N X R ρ w:=Zs hc (fun h=>(hn h).elim) hf
theorem Uv {c:Operand} {x y:Code} {p:Prop} [Decidable p] (hc:evalE ρ c=.bool (!decide p)) (hf:p→W P n y N X R ρ w) (hn : ¬p→False:=by intro;contradiction):W P n (.cond c x y) N X R ρ w:=Vz hc (fun h=>(hn h).elim) hf
theorem Xa {c:Operand} {x y:Code} {b:Bool} (hc:evalE ρ c=.bool b) (hf:b=false→W P n y N X R ρ w) (hn:b=true→False:=by intro;contradiction):W P n (.cond c x y) N X R ρ w:=Xg hc (fun h=>(hn h).elim) hf
theorem Zt {c:Operand} {x y:Code} {p:Prop} [Decidable p] (hc:evalE ρ c=.bool (decide p)) (hf : ¬p→W P n y N X R ρ w) (hn:p→False:=by intro;omega):W P n (.cond c x y) N X R ρ w:=Zs hc (fun h=>(hn h).elim) hf
theorem Xt {c:Operand} {x y:Code} {p:Prop} [Decidable p] (hc:evalE ρ c=.bool (!decide p)) (hf:p→W P n y N X R ρ w) (hn : ¬p→False:=by intro;omega):W P n (.cond c x y) N X R ρ w:=Vz hc (fun h=>(hn h).elim) hf
end
theorem exq {w w':World} (h:Ext w w':=by first | with_reducible assumption | exact Ext.refl _ | (repeat (first | with_reducible assumption | refine Ext.trans ?_ (by with_reducible assumption)))):Ext w w':=h
theorem Z.{u} {α : Sort u} {a : α} : a=a:=rfl
theorem Ka {p:Prop} (h:p:=by omega):p:=h
theorem Kb {p:Prop} (h:p:=by kernel_rfl):p:=h
theorem Kc {p:Prop} (h:p:=by decide):p:=h
theorem Kd {p:Prop} (h:p:=by assumption):p:=h
theorem Ke {p:Prop} (h:p:=by first | rfl | assumption):p:=h
theorem Kf {p:Prop} (h:p:=by first | omega | (simp <;> omega)):p:=h
theorem Kg {p:Prop} (h:p:=by repeat (first | exact trivial | refine And.intro rfl ?_)):p:=h
theorem Kh {p:Prop} (h:p:=by repeat (first | with_reducible exact Same.refl | refine Same.upd rfl ?_ | refine Same.upds rfl ?_ | refine Same.mix rfl ?_)):p:=h
theorem Ki {p:Prop} (h:p:=by simp):p:=h
theorem Kj {p:Prop} (h:p:=by simp only;omega):p:=h
end Go.Hs
namespace Go.Proofs.YtbgpppaljpngmaaGreatDoor
open Go.Hs
set_option maxRecDepth 10000
theorem Ux:El Tryz.prog 88 3 (.int .i64 0):=El.of Kn Kb rfl
theorem Ra:El Tryz.prog 23 88 (.slice none 0 0):=El.of Kp Kb rfl
theorem el24:El Tryz.prog 24 23 (.slice none 0 0):=El.of Jc Kb rfl
theorem el34:El Tryz.prog 34 9 (str []):=El.of Jd Kb rfl
abbrev XI:=XSl 3 XInt
abbrev XR:=XSl 88 (XSl 3 XInt)
set_option maxHeartbeats 4000000
set_option linter.unusedVariables false
set_option linter.unusedSimpArgs false
theorem Xr:Tryz.prog.follows .mixedOrders=true:=Kb
theorem szIntS_ok (w:World) (v:Value) (xs:List Int) (h:Ints w v xs) (left:Int) (hl:0≤left∧left≤1048576) :
  Does Tryz.prog 133 [v,.int .i64 left] w (RetX w (Value.int .i64) (fun n _=>n = -1∨(0≤n∧n=left - xs.length∧xs.length≤1048576))):=by
 have hle:=h.le
 refine Vh Tryz.func133 Z Tryz.results133 Tryz.ntmps133 Z ?_
 focus
  refine Zp<|Vg Z<|Zn<|Zp<|Zu Z<|Vb v Z<|Vk Kn Z h<|Qm Z<|Vg Z<|Zn<|Zq<|Zp<|Zu Z<|Vi Z<|Zn<|Zs Z (fun h1=>?_) (fun h1=>?_);refine Zq<|Vf<|Vg Z<|Zn<|Zy ?_;refine Ve (v:=.int _ _) Z ?_;refine ⟨(Ext.refl _),_,Z,?_⟩;(try dsimp only);rotate_left;refine Zv<|Zp<|Zu Z<|Vg Z<|Zn<|Zy ?_;refine Ve (v:=.int _ _) Z ?_;refine ⟨(Ext.refl _),_,Z,?_⟩;(try dsimp only);rotate_left
 ·omega
 ·omega
theorem toIntS_ok (w:World) (v:Value) (xs:List Int) (h:Ints w v xs) (hl:xs.length≤1048576):Does Tryz.prog 134 [v] w (RetO w XI xs):=by
 refine Vh Tryz.func134 Z Tryz.results134 Tryz.ntmps134 Z ?_
 focus
  refine Zp<|Ys Z<|Zn<|Zp<|Vb v Z<|Vk Kn Z h<|Tw Z Ux Z Ka ?_;rintro b1 w1 hb1 b1lt E1 hO1;refine Ys Z<|Zn<|Zq<|Zp<|Vg Z<|Zn<|Zw ?_
 refine Vy [4,8,9,10,11,12,13,14,15,16,17,18,19,20] (fun (k:Nat)=>[(4,.int .i64 (k:Nat))]) (fun k w'=>Ext w w'∧k≤xs.length∧Owned w.heap.size XI w' (.slice (some ⟨b1,0,none⟩) xs.length xs.length) (xs.take k++List.replicate (xs.length - k) 0)) (fun x=>xs.length - x) 0 Kg ?_ ?_
 ·exact ⟨Kd,Nat.zero_le _,by simpa using hO1⟩
 rintro k ρj w2 ⟨E2,hk,hO2⟩
 focus
  have szE2:=E2.size;refine Zq<|Zp<|Zu Z<|Vb v Z<|Vk Kn Z h<|Vi Z<|Zn<|Zs Z (fun h1=>?_) (fun h1=>?_);refine Zv<|Zq<|Zw<|Vf<|Up Z<|Zu Z<|Vb v Z<|Zu Z<|Yb Kn Kl Km Z (fun _=>Z) Z h E2 Z Kf ?_;rintro _ _ rfl;refine Wo Z (Yv Kn Kl Z Z Ka) ?_;refine Nb Z Kl Z Z hO2.toB Kf Owned.int (Nat.le_refl _) Ka ?_;rintro w3 hO2 On1 K1 hz1;have E3:=On1.ext1 E2 Ka;refine Zn<|Vf<|Zu Z<|Vr Z<|Vg Z<|Zn ?_;rotate_left;refine Vw ?_;refine Vd ?_;refine Zp<|Up Z<|Ys Z<|Zn<|Zy ?_
  refine ⟨E2,(congrArg (Owned _ _ _ _) ?_).mp (hO2.toB.o.mono Ka)⟩;rotate_left
 ·refine ⟨(k+1),Kg,Kh,?_,?_⟩
  ·refine ⟨Kd,Ka,?_⟩
   rw [← Ns _ _ Ka];simpa using hO2
  ·omega
 ·obtain rfl:k=xs.length:=by omega
  simp
theorem toIntSS_ok (w:World) (v:Value) (p:List (List Int)) (h:ESl Ints w v p) (hl:p.length≤1048576) (hr : ∀ r ∈ p,r.length≤1048576):Does Tryz.prog 82 [v] w (RetO w XR p):=by
 have hrk : ∀ (k:Nat) (hk:k < p.length),p[k].length≤1048576:=fun k hk=>hr _ (List.getElem_mem hk)
 refine Vh Tryz.func82 Z Tryz.results82 Tryz.ntmps82 Z ?_
 focus
  refine Zp<|Ys Z<|Zn<|Zp<|Vb v Z<|Vk Kp Z h<|Wo_makeR 3 Z Ra Z Ka ?_;rintro b1 w1 hb1 b1lt E1 hO1;refine Ys Z<|Zn<|Zq<|Zp<|Vg Z<|Zn<|Zw ?_
 refine Vy [4,8,9,10,11,12,13,14,15,16,17,18,19,20,21] (fun (k:Nat)=>[(4,.int .i64 (k:Nat))]) (fun k w'=>Ext w w'∧k≤p.length∧Owned w.heap.size XR w' (.slice (some ⟨b1,0,none⟩) p.length p.length) (p.take k++List.replicate (p.length - k) [])) (fun x=>p.length - x) 0 Kg ?_ ?_
 ·exact ⟨Kd,Nat.zero_le _,by simpa using hO1⟩
 rintro k ρj w2 ⟨E2,hk,hO2⟩
 by_cases hlt:k < p.length
 ·have hrr:=hrk k hlt
  focus
   have szE2:=E2.size;refine Zq<|Zp<|Zu Z<|Vb v Z<|Vk Kp Z h<|Vi Z<|Zn<|Zs Z (fun h1=>?_) (fun h1=>?_);refine Zv<|Zq<|Zw<|Vf<|Up Z<|Zu Z<|Vb v Z<|Zu Z<|Yb Kp Kt Kz Z (fun _=>Z) Z h E2 Z Kf ?_;rintro _ u1 hu1;refine Zr Z (Vx (a:=u1) Tryz.call134 Z) (toIntS_ok _ _ _ ((Mono.mono E2 hu1)) Kd) ?_;rintro u2 w3 ⟨E3,hO3⟩;refine Wo Z (Yv Kp Kt Z Z Ka) ?_;refine Nb Z Kt Z Z (hO2.toB.ext E3) Kf hO3.toB.o Ka Ka ?_;rintro w4 hO2 On1 K1 hz1;have E4:=On1.ext1 (E2.trans E3) Ka
   refine Zn<|Vf<|Zu Z<|Vr Z<|Vg Z<|Zn ?_;rotate_left;(exfalso;omega)
  refine ⟨(k+1),Kg,Kh,?_,?_⟩
  ·refine ⟨Kd,Ka,?_⟩
   rw [← Ns _ _ Ka];simpa using hO2
  ·omega
 ·obtain rfl:k=p.length:=by omega
  focus
   refine Zq<|Zp<|Zu Z<|Vb v Z<|Vk Kp Z h<|Vi Z<|Zn<|Zt Z fun h1=>?_;refine Vw ?_;refine Vd ?_;refine Zq<|Vf<|Up Z<|Ys Z<|Zn<|Zy ?_;refine ⟨E2,(congrArg (Owned _ _ _ _) ?_).mp (hO2.toB.o.mono Ka)⟩
  simp
theorem So {α : Type} {xs ys:List α} {k:Nat} (h1:k < xs.length) (h2:k < ys.length):(xs.take (k+1)=ys.take (k+1))↔(xs.take k=ys.take k∧xs[k]=ys[k]):=by
 rw [Yd _ _ h1,Yd _ _ h2]
 constructor
 ·intro h
  have:=List.append_inj' h rfl
  exact ⟨this.1,by simpa using this.2⟩
 ·rintro ⟨h,h'⟩;rw [h,h']
theorem ne_at {α : Type} {xs ys:List α} {k:Nat} (h1:k < xs.length) (h2:k < ys.length) (h:xs[k]≠ys[k]):xs≠ys:=by
 rintro rfl;exact h rfl
theorem eqIntS_ok (w:World) (v u:Value) (xs ys:List Int) (h:Ints w v xs) (h':Ints w u ys):Does Tryz.prog 135 [v,u] w (Ret w (.bool (decide (xs=ys)))):=by
 have hle:=h.le
 have hle':=h'.le
 refine Vh Tryz.func135 Z Tryz.results135 Tryz.ntmps135 Z ?_
 focus
  refine Zp<|Zz Z<|Zn<|Zq<|Zp<|Vb v Z<|Vk Kn Z h<|Vb u Z<|Vk Kn Z h'<|Xo Z<|Zn<|Vz Z (fun h1=>?_) (fun h1=>?_);refine Zp<|Zz Z<|Zn<|Zy ?_;refine Ve (v:=.bool _) Z ?_;refine ⟨congrArg Value.bool ?_,(Ext.refl _)⟩;rotate_left;refine Zv<|Zq<|Zp<|Vg Z<|Zn<|Zw ?_;rotate_left
 ·exact (decide_eq_false (fun e=>by subst e;omega)).symm
 refine Vy [4,5,11,12,13,14,15,16,17,18,19,20,21,22,23,24,25] (fun (k:Nat)=>[(5,.int .i64 (k:Nat))]) (fun k w'=>Ext w w'∧k≤xs.length∧xs.take k=ys.take k) (fun x=>xs.length - x) 0 Kg ?_ ?_
 ·exact ⟨Ext.refl _,Nat.zero_le _,Ki⟩
 rintro k ρj w1 ⟨E1,hk,he⟩
 focus
  refine Zq<|Zp<|Zu Z<|Vb v Z<|Vk Kn Z h<|Vi Z<|Zn<|Zs Z (fun h2=>?_) (fun h2=>?_);refine Zv<|Zq<|Zw<|Zq<|Xx Xr Kb Z ?_;refine Qj v Z<|Rf Z<|Xn Kn Kl Km Z (fun _=>Z) Z h E1 Z Kf ?_;rintro _ _ rfl;refine Qj u Z<|Rf Z<|Xn Kn Kl Km Z (fun _=>Z) Z h' E1 Z Kf ?_;rintro _ _ rfl;refine Wqneq Z<|Xu (fun w2 E2=>?_);refine Vz Z (fun h3=>?_) (fun h3=>?_);refine Zp<|Zz Z<|Zn<|Zy ?_;refine Ve (v:=.bool _) Z ?_;refine ⟨congrArg Value.bool ?_,exq⟩;rotate_left;refine Zv<|Vf<|Zu Z<|Vr Z<|Vg Z<|Zn ?_;rotate_left
  refine Vw ?_;refine Vd ?_;refine Zp<|Zz Z<|Zn<|Zy ?_;refine Ve (v:=.bool _) Z ?_;refine ⟨congrArg Value.bool ?_,E1⟩;rotate_left
 ·exact (decide_eq_false (ne_at (k:=k) Ka Ka Kd)).symm
 ·refine ⟨(k+1),Kg,Kh,?_,?_⟩
  ·exact ⟨E1.trans E2,Ka,(So Ka Ka).2 ⟨he,Kd⟩⟩
  ·omega
 ·obtain rfl:k=xs.length:=by omega
  exact (decide_eq_true (ext_take Ka he)).symm
theorem eqIntSS_ok (w:World) (v u:Value) (xs ys:List (List Int)) (h:ESl Ints w v xs) (h':ESl Ints w u ys):Does Tryz.prog 84 [v,u] w (Ret w (.bool (decide (xs=ys)))):=by
 have hle:=h.le
 have hle':=h'.le
 refine Vh Tryz.func84 Z Tryz.results84 Tryz.ntmps84 Z ?_
 focus
  refine Zp<|Zz Z<|Zn<|Zq<|Zp<|Vb v Z<|Vk Kp Z h<|Vb u Z<|Vk Kp Z h'<|Xo Z<|Zn<|Vz Z (fun h1=>?_) (fun h1=>?_);refine Zp<|Zz Z<|Zn<|Zy ?_;refine Ve (v:=.bool _) Z ?_;refine ⟨congrArg Value.bool ?_,(Ext.refl _)⟩;rotate_left;refine Zv<|Zq<|Zp<|Vg Z<|Zn<|Zw ?_;rotate_left
 ·exact (decide_eq_false (fun e=>by subst e;omega)).symm
 refine Vy [4,5,11,12,13,14,15,16,17,18,19,20,21,22,23,24,25,26] (fun (k:Nat)=>[(5,.int .i64 (k:Nat))]) (fun k w'=>Ext w w'∧k≤xs.length∧xs.take k=ys.take k) (fun x=>xs.length - x) 0 Kg ?_ ?_
 ·exact ⟨Ext.refl _,Nat.zero_le _,Ki⟩
 rintro k ρj w1 ⟨E1,hk,he⟩
 focus
  refine Zq<|Zp<|Zu Z<|Vb v Z<|Vk Kp Z h<|Vi Z<|Zn<|Zs Z (fun h2=>?_) (fun h2=>?_);refine Zv<|Zq<|Zw<|Zq<|Xx Xr Kb Z ?_;refine Qj v Z<|Rf Z<|Xn Kp Kt Kz Z (fun _=>Z) Z h E1 Z Kf ?_;rintro _ u1 hu1;refine Qj u Z<|Rf Z<|Xn Kp Kt Kz Z (fun _=>Z) Z h' E1 Z Kf ?_;rintro _ u2 hu2;refine Ut Z (fun _ _=>Yg (a:=u1) (b:=u2) Tryz.call135 Z Z) (fun w' hw'=>(eqIntS_ok _ _ _ _ _ ((Mono.mono exq hu1)) ((Mono.mono exq hu2)))) ?_;refine Wqnot Z<|Xu (fun w2 E2=>?_);refine Vz Z (fun h3=>?_) (fun h3=>?_);refine Zp<|Zz Z<|Zn<|Zy ?_
  refine Ve (v:=.bool _) Z ?_;refine ⟨congrArg Value.bool ?_,exq⟩;rotate_left;refine Zv<|Vf<|Zu Z<|Vr Z<|Vg Z<|Zn ?_;rotate_left;refine Vw ?_;refine Vd ?_;refine Zp<|Zz Z<|Zn<|Zy ?_;refine Ve (v:=.bool _) Z ?_;refine ⟨congrArg Value.bool ?_,E1⟩;rotate_left
 ·exact (decide_eq_false (ne_at (k:=k) Ka Ka Kd)).symm
 ·refine ⟨(k+1),Kg,Kh,?_,?_⟩
  ·exact ⟨E1.trans E2,Ka,(So Ka Ka).2 ⟨he,Kd⟩⟩
  ·omega
 ·obtain rfl:k=xs.length:=by omega
  exact (decide_eq_true (ext_take Ka he)).symm
theorem heldIntS_ok (w:World) (v:Value) (n:Nat) (k0:Int) (h:Ints w v (marks k0 n)) (hk0:0≤k0∧k0≤1099511627776) (hn:n≤1099511627776):Does Tryz.prog 137 [v,.int .i64 k0] w (Ret w (.int .i64 (k0+n))):=by
 have hml:=marks_len k0 n
 refine Vh Tryz.func137 Z Tryz.results137 Tryz.ntmps137 Z ?_
 focus
  refine Zp<|Vg Z<|Zn<|Zq<|Zp<|Vg Z<|Zn<|Zw ?_
 refine Vy [1,4,5,6,7,8,9,10,11,12,13,14,15,16,17,18,19] (fun (k,m)=>[(5,.int .i64 (k:Nat)),(1,.int .i64 (m:Int))]) (fun (k,m) w'=>Ext w w'∧k≤n∧m=k0+(k:Nat)) (fun x=>n - x.1) (0,k0) Kg ?_ ?_
 ·exact ⟨Ext.refl _,Nat.zero_le _,Ki⟩
 rintro ⟨k,m⟩ ρj w1 ⟨E1,hk,hm0⟩
 by_cases hlt:k < n
 ·have hm:=marks_at (k:=k0) hlt
  focus
   refine Zq<|Zp<|Zu Z<|Vb v Z<|Vk Kn Z h<|Vi Z<|Zn<|Zs Z (fun h1=>?_) (fun h1=>?_);refine Zv<|Zq<|Zw<|Zq<|Zp<|Vb v Z<|Zu Z<|Yb Kn Kl Km Z (fun _=>Z) Z h E1 Z Kf ?_;rintro _ _ rfl;refine Zu Z<|Xo Z<|Zn<|Xt Z fun h2=>?_;refine Zv<|Vf<|Zu Z<|Vr Z<|Vg Z<|Zn<|Vf<|Zu Z<|Vr Z<|Vg Z<|Zn ?_;rotate_left;(exfalso;omega)
  refine ⟨((k+1,m+1)),Kg,Kh,?_,?_⟩
  ·exact ⟨E1,Ka,Ka⟩
  ·simp only;omega
 ·obtain rfl:k=n:=by omega
  focus
   refine Zq<|Zp<|Zu Z<|Vb v Z<|Vk Kn Z h<|Vi Z<|Zn<|Zt Z fun h1=>?_;refine Vw ?_;refine Vd ?_;refine Zp<|Zu Z<|Vg Z<|Zn<|Zy ?_;refine Ve (v:=.int _ _) Z ?_;refine ⟨congrArg (Value.int .i64) ?_,E1⟩
  omega
theorem Uz (n a b:Int) (w:World):Does Tryz.prog 116 [.int .i64 n,.int .i64 a,.int .i64 b] w (Ret w (.bool (decide (a≤n∧n≤b)))):=by
 refine Vh Tryz.func116 Z Tryz.results116 Tryz.ntmps116 Z ?_
 focus
  refine Zp<|Zz Z<|Zn<|Zp<|Zu Z<|Zu Z<|Qk Z<|Yf Z (fun h1=>?_) (fun h1=>?_);refine Zu Z<|Zu Z<|Wsleq Z<|Yq Z<|Zz Z<|Zn<|Zy ?_;refine Ve (v:=.bool _) Z ?_;refine ⟨congrArg Value.bool ?_,(Ext.refl _)⟩;rotate_left;refine Zo Z<|Zo Z<|Zo Z<|Vp Z<|Zz Z<|Zn<|Zy ?_;refine Ve (v:=.bool _) Z ?_;refine ⟨congrArg Value.bool ?_,(Ext.refl _)⟩;rotate_left
 ·exact decide_eq_decide.2 Ka
 ·exact (decide_eq_false Ka).symm
def Bits (r:List Int):Prop:=∀ x ∈ r,x=0∨x=1
instance (r:List Int):Decidable (Bits r):=by unfold Bits;infer_instance
theorem areBits_ok (w:World) (v:Value) (r:List Int) (h:Ints w v r) (n:Int):Does Tryz.prog 129 [v,.int .i64 n] w (Ret w (.bool (decide (Bits r∧(r.length:Int)=n)))):=by
 have hle:=h.le
 refine Vh Tryz.func129 Z Tryz.results129 Tryz.ntmps129 Z ?_
 focus
  refine Zp<|Zz Z<|Zn<|Zq<|Zp<|Vb v Z<|Vk Kn Z h<|Zu Z<|Zn<|Zw ?_
 refine Vy [4,6,9,10,11,12,13,14,15,16,17,18,19] (fun (k:Nat)=>[(9,.int .i64 (k:Nat))]) (fun k w'=>Ext w w'∧k≤r.length∧Bits (r.take k)) (fun x=>r.length - x) 0 Kg ?_ ?_
 ·exact ⟨Ext.refl _,Nat.zero_le _,by simp [Bits]⟩
 rintro k ρj w1 ⟨E1,hk,hb⟩
 focus
  refine Zp<|Vi Z<|Zn<|Zq<|Zs Z (fun h1=>?_) (fun h1=>?_);refine Zv<|Zq<|Zw<|Zp<|Yb Kn Kl Km Z (fun _=>Z) Z h E1 Z Kf ?_;rintro _ _ rfl;refine Vg Z<|Zn<|Zp<|Zu Z<|Xo Z<|Uh Z (fun h2=>?_) (fun h2=>?_);refine Zu Z<|Xo Z<|Yq Z<|Zn<|Vz Z (fun h3=>?_) (fun h3=>?_);refine Zp<|Zz Z<|Zn<|Zy ?_;refine Ve (v:=.bool _) Z ?_;refine ⟨congrArg Value.bool ?_,E1⟩;rotate_left;refine Zv<|Vf<|Vr Z<|Zu Z<|Zn ?_;rotate_left;refine Zo Z<|Zo Z<|Vp Z<|Zn<|Zx Z ?_;refine Zv<|Vf<|Vr Z<|Zu Z<|Zn ?_;rotate_left;refine Vw ?_;refine Vd ?_
  refine Zp<|Vb v Z<|Vk Kn Z h<|Zu Z<|Vm Z<|Zz Z<|Zn<|Zy ?_;refine Ve (v:=.bool _) Z ?_;refine ⟨congrArg Value.bool ?_,E1⟩;rotate_left
 ·refine (decide_eq_false ?_).symm
  rintro ⟨h9,_⟩
  have:=h9 _ (List.getElem_mem (show k < r.length by omega))
  omega
 ·refine ⟨(k+1),Kg,Kh,?_,?_⟩
  ·refine ⟨E1,Ka,?_⟩
   rw [Yd _ _ Ka]
   intro x hx
   rcases List.mem_append.1 hx with hx | hx
   ·exact hb x hx
   ·rw [List.mem_singleton.1 hx];omega
  ·omega
 ·refine ⟨(k+1),Kg,Kh,?_,?_⟩
  ·refine ⟨E1,Ka,?_⟩
   rw [Yd _ _ Ka]
   intro x hx
   rcases List.mem_append.1 hx with hx | hx
   ·exact hb x hx
   ·rw [List.mem_singleton.1 hx];omega
  ·omega
 ·obtain rfl:k=r.length:=by omega
  have hb':Bits r:=by simpa using hb
  exact decide_eq_decide.2 ⟨fun h=>⟨hb',h⟩,fun h=>h.2⟩
theorem Sq (w:World) (v:Value) (p:List (List Int)) (h:ESl Ints w v p):Does Tryz.prog 78 [v] w (Ret w (.bool (decide (Pic p)))):=by
 have hle:=h.le
 refine Vh Tryz.func78 Z Tryz.results78 Tryz.ntmps78 Z ?_
 focus
  refine Zp<|Zz Z<|Zn<|Zq<|Zp<|Vb v Z<|Vk Kp Z h<|Vi Z<|Yf Z (fun h1=>?_) (fun h1=>?_);refine Zo Z<|Zo Z<|Zo Z<|Yq Z<|Zn<|Vv Z ?_;refine Zp<|Zz Z<|Zn<|Zy ?_;refine Ve (v:=.bool _) Z ?_;refine ⟨congrArg Value.bool ?_,(Ext.refl _)⟩;rotate_left;refine Vb v Z<|Vk Kp Z h<|Qe Z<|Vp Z<|Zn<|Zs Z (fun h2=>?_) (fun h2=>?_);refine Zp<|Zz Z<|Zn<|Zy ?_;refine Ve (v:=.bool _) Z ?_;refine ⟨congrArg Value.bool ?_,(Ext.refl _)⟩;rotate_left;refine Zv<|Zq<|Zq<|Vf<|Vb v Z<|Vk Kp Z h<|Zu Z<|Zn<|Zw ?_;rotate_left
 ·exact (decide_eq_false (fun ⟨_,h3,_⟩=>Ka)).symm
 ·exact (decide_eq_false (fun ⟨h3,_⟩=>Ka)).symm
 ·refine Vy [2,4,15,16,17,18,19,20,21,22,23,24] (fun (k:Nat)=>[(15,.int .i64 (k:Nat))]) (fun k w'=>Ext w w'∧k≤p.length∧∀ r ∈ p.take k,r.length=p.length∧Bits r) (fun x=>p.length - x) 0 Kg ?_ ?_
  ·exact ⟨Ext.refl _,Nat.zero_le _,Ki⟩
  rintro k ρj w1 ⟨E1,hk,hb⟩
  focus
   refine Zp<|Vi Z<|Zn<|Zq<|Zs Z (fun h3=>?_) (fun h3=>?_);refine Zv<|Zq<|Zw<|Zp<|Yb Kp Kt Kz Z (fun _=>Z) Z h E1 Z Kf ?_;rintro _ u1 hu1;refine Yr u1 Z<|Zn<|Zp<|Vb u1 Z<|Vb v Z<|Vk Kp Z h<|Zr Z (Yg (a:=u1) (b:=.int _ _) Tryz.call129 Z Z) (areBits_ok _ _ _ ((Mono.mono E1 hu1)) _) ?_;rintro _ w2 ⟨rfl,E2⟩;refine Ym Z<|Zn<|Vz Z (fun h4=>?_) (fun h4=>?_);refine Zp<|Zz Z<|Zn<|Zy ?_;refine Ve (v:=.bool _) Z ?_;refine ⟨congrArg Value.bool ?_,exq⟩;rotate_left;refine Zv<|Vf<|Vr Z<|Zu Z<|Zn ?_;rotate_left;refine Vw ?_;refine Vd ?_;refine Zp<|Zz Z<|Zn<|Zy ?_
   refine Ve (v:=.bool _) Z ?_;refine ⟨congrArg Value.bool ?_,E1⟩;rotate_left
  ·refine (decide_eq_false ?_).symm
   rintro ⟨_,_,h9⟩
   have:=h9 _ (List.getElem_mem (show k < p.length by omega))
   have hx : ¬(Bits p[k]∧(p[k].length:Int)=(p.length:Int)):=Kd
   exact hx ⟨this.2,Ka⟩
  ·refine ⟨(k+1),Kg,Kh,?_,?_⟩
   ·refine ⟨E1.trans E2,Ka,?_⟩
    rw [Yd _ _ Ka]
    intro r hr
    rcases List.mem_append.1 hr with hr | hr
    ·exact hb r hr
    ·rw [List.mem_singleton.1 hr]
     have hx:Bits p[k]∧(p[k].length:Int)=(p.length:Int):=Kd
     exact ⟨Ka,hx.1⟩
   ·omega
  ·obtain rfl:k=p.length:=by omega
   exact (decide_eq_true ⟨Ka,Ka,by simpa [Bits] using hb⟩).symm
theorem Qu (w:World) (v:Value) (p:List (List Int)) (h:ESl Ints w v p) (z:Int):Does Tryz.prog 94 [v,.int .i64 z] w (Ret w (.bool (decide (Nod p z)))):=by
 refine Vh Tryz.func94 Z Tryz.results94 Tryz.ntmps94 Z ?_
 focus
  refine Zp<|Zz Z<|Zn<|Zp<|Vb v Z<|Zr Z (Vx (a:=v) Tryz.call78 Z) (Sq _ _ _ (h)) ?_;rintro _ w1 ⟨rfl,E1⟩;refine Yf Z (fun h1=>?_) (fun h1=>?_);refine Zu Z<|Qk Z<|Yq Z<|Yf Z (fun h2=>?_) (fun h2=>?_);refine Zu Z<|Vb v Z<|Vk Kp Z h<|Vi Z<|Yq Z<|Zz Z<|Zn<|Zy ?_;refine Ve (v:=.bool _) Z ?_;refine ⟨congrArg Value.bool ?_,E1⟩;rotate_left;refine Zo Z<|Zo Z<|Zo Z<|Zo Z<|Vp Z<|Zz Z<|Zn<|Zy ?_;refine Ve (v:=.bool _) Z ?_;refine ⟨congrArg Value.bool ?_,E1⟩;rotate_left;refine Zo Z<|Zo Z<|Vp Z<|Yi Z<|Zo Z<|Zo Z<|Zo Z<|Zo Z<|Vp Z<|Zz Z<|Zn<|Zy ?_;refine Ve (v:=.bool _) Z ?_
  refine ⟨congrArg Value.bool ?_,E1⟩;rotate_left
 ·exact decide_eq_decide.2 ⟨fun h=>⟨Kd,Kd,h⟩,fun h=>h.2.2⟩
 ·exact (decide_eq_false (fun ⟨_,h,_⟩=>Ka)).symm
 ·exact (decide_eq_false (fun ⟨h,_⟩=>by contradiction)).symm
theorem Ue (w:World) (v:Value) (p:List (List Int)) (h:ESl Ints w v p):Does Tryz.prog 115 [v] w (Ret w (.bool (decide (Pic p)))):=by
 have hle:=h.le
 refine Vh Tryz.func115 Z Tryz.results115 Tryz.ntmps115 Z ?_
 focus
  refine Zp<|Zz Z<|Zn<|Zq<|Zp<|Vg Z<|Zn<|Zw ?_
 refine Vy [2,3,4,5,6,7,8,9,10,11,12,13,14,15,16,17,18,19,20,21,22,23,24,25,26,27,28,29,30,31,32,33] (fun (k:Nat)=>[(3,.int .i64 (k:Nat))]) (fun k w'=>Ext w w'∧k≤p.length∧∀ r ∈ p.take k,r.length=p.length∧Bits r) (fun x=>p.length - x) 0 Kg ?_ ?_
 ·exact ⟨Ext.refl _,Nat.zero_le _,Ki⟩
 rintro k ρj w1 ⟨E1,hk,hb⟩
 by_cases hlt:k < p.length
 ·focus
   refine Zq<|Zp<|Zu Z<|Vb v Z<|Vk Kp Z h<|Vi Z<|Zn<|Zs Z (fun h1=>?_) (fun h1=>?_);refine Zv<|Zq<|Zw<|Zq<|Zp<|Vb v Z<|Zu Z<|Yb Kp Kt Kz Z (fun _=>Z) Z h E1 Z Kf ?_;rintro _ u1 hu1;refine Vk Kn Z hu1<|Vb v Z<|Vk Kp Z h<|Xo Z<|Zn<|Vz Z (fun h2=>?_) (fun h2=>?_);refine Zp<|Zz Z<|Zn<|Zy ?_;refine Ve (v:=.bool _) Z ?_;refine ⟨congrArg Value.bool ?_,E1⟩;rotate_left;refine Zv<|Zp<|Vg Z<|Zn<|Zw ?_;rotate_left;(exfalso;omega)
  ·refine (decide_eq_false ?_).symm
   rintro ⟨_,_,h9⟩
   have:=(h9 _ (List.getElem_mem hlt)).1
   omega
  refine Vy [2,4,19,20,21,22,23,24,25,26,27,28,29,30,31,32,33] (fun (j:Nat)=>[(4,.int .i64 (j:Nat))]) (fun j w'=>Ext w w'∧j≤p.length∧Bits (p[k].take j)) (fun x=>p.length - x) 0 Kg ?_ ?_
  ·exact ⟨E1,Nat.zero_le _,by simp [Bits]⟩
  rintro j ρi w2 ⟨E2,hj,hbj⟩
  focus
   refine Zq<|Zp<|Zu Z<|Vb v Z<|Vk Kp Z h<|Vi Z<|Zn<|Zs Z (fun h3=>?_) (fun h3=>?_);refine Zv<|Zq<|Zw<|Zq<|Vf<|Vb v Z<|Zu Z<|Yb Kp Kt Kz Z (fun _=>Z) Z h E2 Z Kf ?_;rintro _ u2 hu2;refine Zu Z<|Yb Kn Kl Km Z (fun _=>Z) Z hu2 E2 Z Kf ?_;rintro _ _ rfl;refine Zr Z (Ud (a:=.int _ _) (b:=.int _ _) (c:=.int _ _) Jl Z Z Z) (Uz _ _ _ _) ?_;rintro _ w3 ⟨rfl,E3⟩;refine Ym Z<|Zn<|Vz Z (fun h4=>?_) (fun h4=>?_);refine Zp<|Zz Z<|Zn<|Zy ?_;refine Ve (v:=.bool _) Z ?_;refine ⟨congrArg Value.bool ?_,exq⟩;rotate_left
   refine Zv<|Vf<|Zu Z<|Vr Z<|Vg Z<|Zn ?_;rotate_left;refine Vw ?_;refine Vd ?_;refine Vf<|Zu Z<|Vr Z<|Vg Z<|Zn ?_;rotate_left
  ·refine (decide_eq_false ?_).symm
   rintro ⟨_,_,h9⟩
   have:=(h9 _ (List.getElem_mem hlt)).2 _ (List.getElem_mem (show j < p[k].length by omega))
   omega
  ·refine ⟨(j+1),Kg,Kh,?_,?_⟩
   ·refine ⟨E2.trans E3,Ka,?_⟩
    rw [Yd _ _ Ka]
    intro x hx
    rcases List.mem_append.1 hx with hx | hx
    ·exact hbj x hx
    ·rw [List.mem_singleton.1 hx];omega
   ·omega
  ·refine ⟨(k+1),Kg,Kh,?_,?_⟩
   ·refine ⟨E2,Ka,?_⟩
    rw [Yd _ _ Ka]
    intro r hr
    rcases List.mem_append.1 hr with hr | hr
    ·exact hb r hr
    ·rw [List.mem_singleton.1 hr]
     obtain rfl:j=p.length:=Ka
     refine ⟨Ka,?_⟩
     have e:p[k].take p.length=p[k]:=List.take_of_length_le Ka
     rw [e] at hbj
     exact hbj
   ·omega
 ·obtain rfl:k=p.length:=by omega
  focus
   refine Zq<|Zp<|Zu Z<|Vb v Z<|Vk Kp Z h<|Vi Z<|Zn<|Zt Z fun h1=>?_;refine Vw ?_;refine Vd ?_;refine Zp<|Vb v Z<|Vk Kp Z h<|Zr Z (Ud (a:=.int _ _) (b:=.int _ _) (c:=.int _ _) Jl Z Z Z) (Uz _ _ _ _) ?_;rintro _ w2 ⟨rfl,E2⟩;refine Zz Z<|Zn<|Zy ?_;refine Ve (v:=.bool _) Z ?_;refine ⟨congrArg Value.bool ?_,exq⟩
  have hb' : ∀ r ∈ p,r.length=p.length∧Bits r:=by simpa using hb
  exact decide_eq_decide.2 ⟨fun h=>⟨Ka,Ka,hb'⟩,fun ⟨h3,h4,_⟩=>Ka⟩
theorem Qs (w:World) (v:Value) (p:List (List Int)) (h:ESl Ints w v p) (z:Int):Does Tryz.prog 118 [v,.int .i64 z] w (Ret w (.bool (decide (Nod p z)))):=by
 have hle:=h.le
 refine Vh Tryz.func118 Z Tryz.results118 Tryz.ntmps118 Z ?_
 focus
  refine Zp<|Zz Z<|Zn<|Zp<|Vb v Z<|Zr Z (Vx (a:=v) Jr Z) (Ue _ _ _ (h)) ?_;rintro _ w1 ⟨rfl,E1⟩;refine Yf Z (fun h1=>?_) (fun h1=>?_);refine Zu Z<|Vb v Z<|Vk Kp Z h<|Qm Z<|Zr Z (Ud (a:=.int _ _) (b:=.int _ _) (c:=.int _ _) Jl Z Z Z) (Uz _ _ _ _) ?_;rintro _ w2 ⟨rfl,E2⟩;refine Yq Z<|Zz Z<|Zn<|Zy ?_;refine Ve (v:=.bool _) Z ?_;refine ⟨congrArg Value.bool ?_,exq⟩;rotate_left;refine Zo Z<|Zo Z<|Zo Z<|Zo Z<|Zo Z<|Vp Z<|Zz Z<|Zn<|Zy ?_;refine Ve (v:=.bool _) Z ?_;refine ⟨congrArg Value.bool ?_,E1⟩;rotate_left
 ·exact decide_eq_decide.2 ⟨fun h=>⟨Kd,Ka,Ka⟩,fun h=>⟨h.2.1,by have:=h.2.2;omega⟩⟩
 ·exact (decide_eq_false (fun ⟨h,_⟩=>by contradiction)).symm
theorem Us (w:World) (v:Value) (p:List (List Int)) (h:ESl Ints w v p) (z:Int) (hz:0≤z∧z < p.length) (hn:(p.getD z.toNat []).length≤1099511627776) :
  Does Tryz.prog 130 [v,.int .i64 z] w (RetO w XI (ints (arr p z.toNat))):=by
 have hle:=h.le
 have hzl:z.toNat < p.length:=Ka
 unfold arr
 rw [Ya hzl] at hn ⊢
 refine Vh Tryz.func130 Z Tryz.results130 Tryz.ntmps130 Z ?_
 focus
  refine Zp<|Ys Z<|Zn<|Zp<|Yz XInt Z Ux Kl ?_;rintro b1 w1 hb1 b1lt E1 hO1;refine Ys Z<|Zn<|Zq<|Zp<|Vb v Z<|Zu Z<|Qr Kp Kt Kz Z (fun _=>Z) Z h E1 Z Kf ?_;rintro _ u1 hu1;refine Vk Kn Z hu1<|Zu Z<|Zn<|Zw ?_
 refine Vy [5,6,7,14,15,16,17,18,19,20,21,22,23,24,25] (fun (k,u)=>[(14,.int .i64 (k:Nat)),(5,u)]) (fun (k,u) w'=>Ext w w'∧k≤p[z.toNat].length∧Owned w.heap.size XI w' u (ints ((List.range k).filter fun j=>decide (p[z.toNat].getD j 0=1)))) (fun x=>p[z.toNat].length - x.1) (0,.slice (some ⟨b1,0,none⟩) 0 0) Kg ?_ ?_
 ·exact ⟨Kd,Nat.zero_le _,by simpa [ints] using hO1⟩
 rintro ⟨k,u⟩ ρj w2 ⟨E2,hk,hO2⟩
 have hll:(ints ((List.range k).filter fun j=>decide (p[z.toNat].getD j 0=1))).length≤k:=by
  simp only [ints,List.length_map];exact Nat.le_trans (List.length_filter_le _ _) Ki
 have hfs:=Xq (fun j=>decide (p[z.toNat].getD j 0=1)) k
 focus
  have szE2:=E2.size;refine Zp<|Vi Z<|Zn<|Zq<|Zs Z (fun h1=>?_) (fun h1=>?_);refine Zv<|Zq<|Zw<|Zp<|Zu Z<|Yb Kn Kl Km Z (fun _=>Z) Z hu1 E2 Z Kf ?_;rintro _ _ rfl;refine Vg Z<|Vg Z<|Zn<|Zp<|Zu Z<|Vm Z<|Zn<|Zs Z (fun h2=>?_) (fun h2=>?_);refine Vf<|Vb u Z<|Zu Z<|Ye (ps:=[(0,.int _ _)]) (cs:=[_]) Z Kn Kl Jg Z Z Z Z ?_;rintro b2 w3 hb2 E3 hB1 hHb2;have hs2:=E3.size;refine Xh Z Ux Z Z hB1 (hO2.toB.ext E3) Owned.int (Nat.le_refl _) Kf Ka Ka (E2.trans E3) Ka ?_;rintro v1 w4 hO2 E4 M1
  refine Yr v1 Z<|Zn<|Vf<|Vr Z<|Zu Z<|Zn ?_;rotate_left;refine Zv<|Vf<|Vr Z<|Zu Z<|Zn ?_;rotate_left;refine Vw ?_;refine Vd ?_;refine Zq<|Um Z<|Wo Z (Vq (v:=u) Z)<|Wo Z (Xi (v:=u) Z)<|Zn<|Zy ?_;refine ⟨E2,(congrArg (Owned _ _ _ _) ?_).mp (hO2.toB.o.mono Ka)⟩;rotate_left
 ·refine ⟨((k+1,v1)),Kg,Kh,?_,?_⟩
  ·refine ⟨Kd,Ka,?_⟩
   rw [hfs,Ya Ka,if_pos (by simpa using by assumption)]
   simpa [ints] using hO2
  ·simp only;omega
 ·refine ⟨((k+1,u)),Kg,Kh,?_,?_⟩
  ·refine ⟨E2,Ka,?_⟩
   rw [hfs,Ya Ka,if_neg (by simpa using by assumption)]
   simpa [ints] using hO2
  ·simp only;omega
 ·obtain rfl:k=p[z.toNat].length:=by omega
  rfl
end Go.Proofs.YtbgpppaljpngmaaGreatDoor
namespace Go.Hs
theorem any_ints (l:List Nat) (g:Nat→Bool):(ints l).any (fun x=>g x.toNat)=l.any g:=by
 induction l with
 | nil=>rfl
 | cons a l ih=>simp only [ints,List.map_cons,List.any_cons] at ih ⊢;rw [← ih];simp
end Go.Hs
namespace Go.Proofs.YtbgpppaljpngmaaGreatDoor
open Go.Hs
set_option maxRecDepth 10000
set_option maxHeartbeats 4000000
set_option linter.unusedVariables false
set_option linter.unusedSimpArgs false
theorem l3Matched_ok (w:World) (v v':Value) (p:List (List Int)) (h:ESl Ints w v p) (hp:Gr p) (S:Nat→Nat→Bool) (h':ESl Ints w v' (matV p S)) (a b:Nat) (ha:a < p.length) (hb:b < p.length) :
  Does Tryz.prog 220 [v,v',.int .i64 (a:Int),.int .i64 (b:Int)] w (Ret w (.bool (mch p S a b))):=by
 have hp5:=hp.2.1
 have hra:=hp.row ha
 have hrb:=hp.row hb
 have hml:=Qb (p:=p) S
 have hall:mch p S a b=(List.range p.length).all fun j=>!decide (p[a].getD j 0=1) || (arr p b).any fun j'=>S j j':=arr_all hp ha _
 refine Vh Tryz.func220 Z Tryz.results220 Tryz.ntmps220 Z ?_
 focus
  refine Zp<|Zz Z<|Zn<|Zq<|Zp<|Vg Z<|Zn<|Zw ?_
 refine Vy [8,9,10,11,12,13,14,15,16,17,18,19,20,21,22,23,24,25,26,27,28,29,30,31,32,33,34,35,36,37,38,39,40,41,42,43,44,45,46,47,48,49,50,51,52,53,54] (fun (k:Nat)=>[(9,.int .i64 (k:Nat))]) (fun k w'=>Ext w w'∧k≤p.length∧((List.range k).all fun j=>!decide (p[a].getD j 0=1) || (arr p b).any fun j'=>S j j')=true) (fun x=>p.length - x) 0 Kg ?_ ?_
 ·exact ⟨Ext.refl _,Nat.zero_le _,Ki⟩
 rintro k ρj w1 ⟨E1,hk,hg⟩
 by_cases hkl:k < p.length
 ·have hga:=Ya (l:=p[a]) (i:=k) (d:=0) Ka
  have h01:=hp.el01 ha (j:=k) Ka
  have hsu:=all_range_succ (fun j=>!decide (p[a].getD j 0=1) || (arr p b).any fun j'=>S j j') k
  have hany:((arr p b).any fun j'=>S k j')=(List.range p.length).any fun j=>decide (p[b].getD j 0=1) && S k j:=arr_any' hp hb _
  have hmr:=Qx (p:=p) (S:=S) hkl
  rw [hg,Bool.true_and,hga] at hsu
  focus
   have szE1:=E1.size;refine Zq<|Zp<|Zu Z<|Vb v Z<|Vk Kp Z h<|Vi Z<|Zn<|Zs Z (fun h1=>?_) (fun h1=>?_);refine Zv<|Zq<|Zw<|Zq<|Zp<|Vb v Z<|Zu Z<|Yb Kp Kt Kz Z (fun _=>Z) Z h E1 Z Kf ?_;rintro _ u1 hu1;refine Zu Z<|Yb Kn Kl Km Z (fun _=>Z) Z hu1 E1 Z Kf ?_;rintro _ _ rfl;refine Vm Z<|Zn<|Zs Z (fun h2=>?_) (fun h2=>?_);refine Vw ?_;refine Vd ?_;refine Vf<|Zu Z<|Vr Z<|Vg Z<|Zn ?_;rotate_left;refine Zv<|Zp<|Zz Z<|Zn<|Zq<|Zp<|Vg Z<|Zn<|Zw ?_;rotate_left;(exfalso;omega)
  ·refine ⟨(k+1),Kg,Kh,?_,?_⟩
   ·refine ⟨E1,Ka,?_⟩
    rw [hsu,decide_eq_false Ka];rfl
   ·omega
  ·have h1:p[a][k]=1:=by omega
   rw [decide_eq_true h1,Bool.not_true,Bool.false_or,hany] at hsu
   refine Vy [10,11,26,27,28,29,30,31,32,33,34,35,36,37,38,39,40,41,42,43,44,45,46,47,48,49,50,51,52] (fun (j,f)=>[(10,.bool f),(11,.int .i64 (j:Nat))]) (fun (j,f) w'=>Ext w1 w'∧j≤p.length∧f=(List.range j).any fun j=>decide (p[b].getD j 0=1) && S k j) (fun x=>p.length - x.1) (0,false) Kg ?_ ?_
   ·exact ⟨Ext.refl _,Nat.zero_le _,Ki⟩
   rintro ⟨j,f⟩ ρk w2 ⟨E2,hj,hf⟩
   by_cases hjl:j < p.length
   ·have hgb:=Ya (l:=p[b]) (i:=j) (d:=0) Ka
    have hsj:=any_range_succ' (fun j=>decide (p[b].getD j 0=1) && S k j) j
    rw [← hf,hgb] at hsj
    have hme:=Se (p:=p) (S:=S) hkl hjl
    cases f with
    | true =>
      focus
        refine Zq<|Zp<|Zu Z<|Vb v Z<|Vk Kp Z h<|Vi Z<|Zn<|Zs Z (fun h3 => ?_) (fun h3 => ?_); refine Zv<|Zq<|Zw<|Vf<|Yi Z<|Yi Z<|Zo Z<|Zo Z<|Zo Z<|Zo Z<|Zo Z<|Zo Z<|Zo Z<|Zo Z<|Zo Z<|Zo Z<|Zo Z<|Zo Z<|Zo Z<|Zo Z<|Zo Z<|Zo Z<|Zo Z<|Zo Z<|Yq Z<|Zz Z<|Zn<|Vf<|Zu Z<|Vr Z<|Vg Z<|Zn ?_; rotate_left; (exfalso; omega)
      refine ⟨((j + 1, true)), Kg, Kh, ?_, ?_⟩
      · exact ⟨E2, Ka, by rw [hsj]; rfl⟩
      · simp only; omega
    | false =>
      focus
        refine Zq<|Zp<|Zu Z<|Vb v Z<|Vk Kp Z h<|Vi Z<|Zn<|Zs Z (fun h3 => ?_) (fun h3 => ?_); refine Zv<|Zq<|Zw<|Vf<|Yi Z<|Yi Z<|Vb v Z<|Zu Z<|Yb Kp Kt Kz Z (fun _ => Z) Z h exq Z Kf ?_; rintro _ u2 hu2; refine Zu Z<|Yb Kn Kl Km Z (fun _ => Z) Z hu2 exq Z Kf ?_; rintro _ _ rfl; refine Vm Z<|Yf Z (fun h4 => ?_) (fun h4 => ?_); refine Vb v' Z<|Zu Z<|Yb Kp Kt Kz Z (fun _ => Z) Z h' exq Z Kf ?_; rintro _ u3 hu3
        refine Zu Z<|Yb Kn Kl Km Z (fun _ => Z) Z hu3 exq Z Kf ?_; rintro _ _ rfl; refine Vm Z<|Yq Z<|Vp Z<|Zz Z<|Zn<|Vf<|Zu Z<|Vr Z<|Vg Z<|Zn ?_; rotate_left; refine Zo Z<|Zo Z<|Zo Z<|Zo Z<|Zo Z<|Zo Z<|Zo Z<|Zo Z<|Vp Z<|Vp Z<|Zz Z<|Zn<|Vf<|Zu Z<|Vr Z<|Vg Z<|Zn ?_; rotate_left; (exfalso; omega)
      · refine ⟨((j + 1, decide (((matV p S)[k]'Ka)[j]'Ka = 1))), Kg, Kh, ?_, ?_⟩
        · refine ⟨E2, Ka, ?_⟩
          rw [hsj, show decide (p[b][j] = 1) = true from decide_eq_true Kd, hme]
          cases S k j <;> rfl
        · simp only; omega
      · refine ⟨((j + 1, false)), Kg, Kh, ?_, ?_⟩
        · refine ⟨E2, Ka, ?_⟩
          rw [hsj, decide_eq_false Kd]; rfl
        · simp only; omega
   ·obtain rfl:j=p.length:=by omega
    rw [← hf] at hsu
    focus
     refine Zq<|Zp<|Zu Z<|Vb v Z<|Vk Kp Z h<|Vi Z<|Zn<|Zt Z fun h3=>?_;refine Vw ?_;refine Vd ?_;refine Zq<|Vf<|Yi Z<|Ym Z<|Zn<|Xg Z (fun h4=>?_) (fun h4=>?_);refine Zp<|Zz Z<|Zn<|Zy ?_;refine Ve (v:=.bool _) Z ?_;refine ⟨congrArg Value.bool ?_,exq⟩;rotate_left;refine Zv<|Vf<|Zu Z<|Vr Z<|Vg Z<|Zn ?_;rotate_left
    ·have hf0:f=false:=by cases f with
      | false=>rfl
      | true=>exact absurd (show (!true)=true by assumption) Kc
     rw [hall,all_false (show k+1≤p.length by omega) (hsu.trans hf0)]
    ·have hf1:f=true:=by cases f with
      | true=>rfl
      | false=>exact absurd (show (!false)=false by assumption) Kc
     refine ⟨(k+1),Kg,Kh,?_,?_⟩
     ·exact ⟨E1.trans E2,Ka,by rw [hsu,hf1]⟩
     ·omega
 ·obtain rfl:k=p.length:=by omega
  focus
   refine Zq<|Zp<|Zu Z<|Vb v Z<|Vk Kp Z h<|Vi Z<|Zn<|Zt Z fun h1=>?_;refine Vw ?_;refine Vd ?_;refine Zp<|Zz Z<|Zn<|Zy ?_;refine Ve (v:=.bool _) Z ?_;refine ⟨congrArg Value.bool ?_,E1⟩
  rw [hall,hg]
theorem l3Start_ok (w:World) (n:Nat) (hn:n≤11):Does Tryz.prog 202 [.int .i64 (n:Int)] w (RetO w XR (List.replicate n (List.replicate n 1))):=by
 refine Vh Tryz.func202 Z Tryz.results202 Tryz.ntmps202 Z ?_
 focus
  refine Zp<|Ys Z<|Zn<|Zp<|Yz (XSl 3 XInt) Z Ra Kt ?_;rintro b1 w1 hb1 b1lt E1 hO1;refine Ys Z<|Zn<|Zq<|Zp<|Vg Z<|Zn<|Zw ?_
 refine Vy [3,4,5,6,8,9,10,11,12,13,14,15,16,17,18,19,20,21,22,23,24,25] (fun (k,u)=>[(4,.int .i64 (k:Nat)),(3,u)]) (fun (k,u) w'=>Ext w w'∧k≤n∧Owned w.heap.size XR w' u (List.replicate k (List.replicate n 1))) (fun x=>n - x.1) (0,.slice (some ⟨b1,0,none⟩) 0 0) Kg ?_ ?_
 ·exact ⟨Kd,Nat.zero_le _,by simpa using hO1⟩
 rintro ⟨k,u⟩ ρj w2 ⟨E2,hk,hO2⟩
 by_cases hkl:k < n
 ·focus
   have szE2:=E2.size;refine Zq<|Zp<|Zu Z<|Zu Z<|Vi Z<|Zn<|Zs Z (fun h1=>?_) (fun h1=>?_);refine Zv<|Zq<|Zw<|Zp<|Yz XInt Z Ux Kl ?_;rintro b2 w3 hb2 b2lt E3 hO3;refine Ys Z<|Zn<|Zq<|Zp<|Vg Z<|Zn<|Zw ?_;rotate_left;(exfalso;omega)
  refine Vy [5,6,14,15,16,17,18,19,20,21] (fun (j,r)=>[(6,.int .i64 (j:Nat)),(5,r)]) (fun (j,r) w'=>Ext w w'∧w2.heap.size≤w'.heap.size∧j≤n∧OwnedB w.heap.size w2.heap.size XR w' u (List.replicate k (List.replicate n 1))∧Owned w2.heap.size XI w' r (List.replicate j 1)) (fun x=>n - x.1) (0,.slice (some ⟨b2,0,none⟩) 0 0) Kg ?_ ?_
  ·exact ⟨E2.trans E3,E3.size,Nat.zero_le _,hO2.toB.ext E3,by simpa using hO3⟩
  rintro ⟨j,r⟩ ρk w4 ⟨E4,hsz4,hj,hB4,hO4⟩
  have hrl:(List.replicate j (1:Int)).length=j:=Ki
  have hrl2:(List.replicate k (List.replicate n (1:Int))).length=k:=Ki
  by_cases hjl:j < n
  ·focus
    have szE2:=E2.size;refine Zq<|Zp<|Zu Z<|Zu Z<|Vi Z<|Zn<|Zs Z (fun h2=>?_) (fun h2=>?_);refine Zv<|Zq<|Zw<|Vf<|Vb r Z<|Ye (ps:=[(0,.int _ _)]) (cs:=[_]) Z Kn Kl Jg Z Z Z Z ?_;rintro b3 w5 hb3 E5 hB1 hHb3;have hlb3:=hB1.lt;have hs3:=E5.size;refine Xh Z Ux Z Z hB1 (hO4.toB.ext E5) Owned.int (Nat.le_refl _) Kf Ka Ka (E4.trans E5) Ka ?_;have hT1:=(hO4.toB.ext E5);rintro v1 w6 hO4 E6 M1;have hB4:=(hB4.ext E5).moves M1 hT1 Ka;refine Yr v1 Z<|Zn<|Vf<|Wo Z (Vq (v:=.int _ _) Z)<|Wo Z (Rw Z Z Ka) ?_;refine Wo Z (Xi (v:=.int _ _) Z)<|Zn ?_;rotate_left;(exfalso;omega)
   refine ⟨((j+1,v1)),Kg,Kh,?_,?_⟩
   ·refine ⟨Kd,by have:=M1.1.size;omega,Ka,Kd,?_⟩
    rw [List.replicate_succ'];assumption
   ·simp only;omega
  ·obtain rfl:j=n:=by omega
   obtain ⟨rb,rc,rfl,_⟩:=hO4.lit (by simp;omega)
   have hrb:=hO4.lt_own (k:=rb) rfl
   focus
    have szE2:=E2.size;refine Zq<|Zp<|Zu Z<|Zu Z<|Vi Z<|Zn<|Zt Z fun h2=>?_;refine Vw ?_;refine Vd ?_;refine Vf<|Vb u Z<|Up Z<|Xm (ps:=[(0,.slice _ _ _)]) (cs:=[_]) Z Kp Kt Jv Z Z Z Z ?_;rintro b3 w5 hb3 E5 hB1;have hlb3:=hB1.lt;refine Xh Z Ra Z Z hB1 (hB4.ext E5) (hO4.toB.ext E5).o Ka Kf Ka Ka (E4.trans E5) Ka ?_;rintro v1 w6 hB4 E6 M1;refine Yr v1 Z<|Zn<|Vf<|Wo Z (Vq (v:=.int _ _) Z)<|Wo Z (Rw Z Z Ka) ?_;refine Wo Z (Xi (v:=.int _ _) Z)<|Zn ?_
   refine ⟨((k+1,v1)),Kg,Kh,?_,?_⟩
   ·refine ⟨Kd,Ka,?_⟩
    rw [List.replicate_succ'];assumption
   ·simp only;omega
 ·obtain rfl:k=n:=by omega
  focus
   refine Zq<|Zp<|Zu Z<|Zu Z<|Vi Z<|Zn<|Zt Z fun h1=>?_;refine Vw ?_;refine Vd ?_;refine Zp<|Vb u Z<|Yr u Z<|Zn<|Zy ?_;exact ⟨E2,hO2.toB.o.mono Ka⟩
def rnd (p:List (List Int)) (S:Nat→Nat→Bool) (a b:Nat):Bool:=S a b && (mch p S a b && mch p S b a)
def bits01 (R:Nat→Nat→Bool) (a n:Nat):List Int:=(List.range n).map fun b=>b01 (R a b)
theorem bits01_succ (R:Nat→Nat→Bool) (a n:Nat):bits01 R a (n+1)=bits01 R a n++[b01 (R a n)]:=by simp [bits01,List.range_succ]
theorem bits01_len (R:Nat→Nat→Bool) (a n:Nat):(bits01 R a n).length=n:=by simp [bits01]
def mat01 (R:Nat→Nat→Bool) (k n:Nat):List (List Int):=(List.range k).map fun a=>bits01 R a n
theorem mat01_succ (R:Nat→Nat→Bool) (k n:Nat):mat01 R (k+1) n=mat01 R k n++[bits01 R k n]:=by simp [mat01,List.range_succ]
theorem mat01_len (R:Nat→Nat→Bool) (k n:Nat):(mat01 R k n).length=k:=by simp [mat01]
theorem l3Round_ok (w:World) (v v':Value) (p:List (List Int)) (h:ESl Ints w v p) (hp:Gr p) (S:Nat→Nat→Bool) (h':ESl Ints w v' (matV p S)) :
  Does Tryz.prog 203 [v,v'] w (RetO w XR (matV p (rnd p S))):=by
 have hp5:=hp.2.1
 have hml:=Qb (p:=p) S
 refine Vh Tryz.func203 Z Tryz.results203 Tryz.ntmps203 Z ?_
 focus
  refine Zp<|Ys Z<|Zn<|Zp<|Yz (XSl 3 XInt) Z Ra Kt ?_;rintro b1 w1 hb1 b1lt E1 hO1;refine Ys Z<|Zn<|Zq<|Zp<|Vg Z<|Zn<|Zw ?_
 refine Vy [5,6,7,8,9,11,12,13,14,15,16,17,18,19,20,21,22,23,24,25,26,27,28,29,30,31,32,33,34,35,36,37,38,39,40,41,42,43,44,45,46,47,48,49,50,51,52,53] (fun (k,u)=>[(6,.int .i64 (k:Nat)),(5,u)]) (fun (k,u) w'=>Ext w w'∧k≤p.length∧Owned w.heap.size XR w' u (mat01 (rnd p S) k p.length)) (fun x=>p.length - x.1) (0,.slice (some ⟨b1,0,none⟩) 0 0) Kg ?_ ?_
 ·exact ⟨Kd,Nat.zero_le _,by simpa [mat01] using hO1⟩
 rintro ⟨k,u⟩ ρj w2 ⟨E2,hk,hO2⟩
 by_cases hkl:k < p.length
 ·focus
   refine Zq<|Zp<|Zu Z<|Vb v Z<|Vk Kp Z h<|Vi Z<|Zn<|Zs Z (fun h1=>?_) (fun h1=>?_);refine Zv<|Zq<|Zw<|Zq<|Vf<|Yz XInt Z Ux Kl ?_;rintro b2 w3 hb2 b2lt E3 hO3;refine Ys Z<|Zn<|Zq<|Zq<|Vf<|Vg Z<|Zn<|Zw ?_;rotate_left;(exfalso;omega)
  refine Vy [7,8,9,18,19,20,21,22,23,24,25,26,27,28,29,30,31,32,33,34,35,36,37,38,39,40,41,42,43,44,45,46,47,48,49] (fun (j,r)=>[(8,.int .i64 (j:Nat)),(7,r)]) (fun (j,r) w'=>Ext w w'∧w2.heap.size≤w'.heap.size∧j≤p.length∧OwnedB w.heap.size w2.heap.size XR w' u (mat01 (rnd p S) k p.length)∧Owned w2.heap.size XI w' r (bits01 (rnd p S) k j)) (fun x=>p.length - x.1) (0,.slice (some ⟨b2,0,none⟩) 0 0) Kg ?_ ?_
  ·exact ⟨E2.trans E3,E3.size,Nat.zero_le _,hO2.toB.ext E3,by simpa [bits01] using hO3⟩
  rintro ⟨j,r⟩ ρk w4 ⟨E4,hsz4,hj,hB4,hO4⟩
  have hrl:=bits01_len (rnd p S) k j
  have hrl2:=mat01_len (rnd p S) k p.length
  by_cases hjl:j < p.length
  ·have hmr:=Qx (p:=p) (S:=S) hkl
   have hme:=Se (p:=p) (S:=S) hkl hjl
   have hsu:=bits01_succ (rnd p S) k j
   have m1 : ∀ (w:World) (v v':Value),ESl Ints w v p→ESl Ints w v' (matV p S)→Does Tryz.prog 220 [v,v',.int .i64 (k:Int),.int .i64 (j:Int)] w (Ret w (.bool (mch p S k j))):=fun w v v' h1 h2=>l3Matched_ok w v v' p h1 hp S h2 k j hkl hjl
   have m2 : ∀ (w:World) (v v':Value),ESl Ints w v p→ESl Ints w v' (matV p S)→Does Tryz.prog 220 [v,v',.int .i64 (j:Int),.int .i64 (k:Int)] w (Ret w (.bool (mch p S j k))):=fun w v v' h1 h2=>l3Matched_ok w v v' p h1 hp S h2 j k hjl hkl
   have fin : ∀ x:Int,x=b01 (rnd p S k j)→bits01 (rnd p S) k (j+1)=bits01 (rnd p S) k j++[x]:=fun x hx=>by rw [hx];exact hsu
   focus
    have szE4:=E4.size;have szE3:=E3.size;have szE2:=E2.size;have szE1:=E1.size;refine Zq<|Zp<|Zu Z<|Vb v Z<|Vk Kp Z h<|Vi Z<|Zn<|Zs Z (fun h2=>?_) (fun h2=>?_);refine Zv<|Zq<|Zw<|Zp<|Vg Z<|Zn<|Zq<|Zp<|Vb v' Z<|Zu Z<|Yb Kp Kt Kz Z (fun _=>Z) Z h' E4 Z Kf ?_;rintro _ u1 hu1;refine Zu Z<|Yb Kn Kl Km Z (fun _=>Z) Z hu1 E4 Z Kf ?_;rintro _ _ rfl;refine Vm Z<|Yf Z (fun h3=>?_) (fun h3=>?_)
    refine Vb v Z<|Vb v' Z<|Zu Z<|Zu Z<|Zr Z (Qz (a:=v) (b:=v') (c:=.int _ _) (d:=.int _ _) Tryz.call220 Z Z Z Z) (m1 _ _ _ ((Mono.mono E4 h)) ((Mono.mono E4 h'))) ?_;rintro _ w5 ⟨rfl,E5⟩;have hs3:=E5.size;refine Yq Z<|Yn Z (Vq (v:=.bool _) Z) (fun h4=>?_) (fun h4=>?_);refine Vb v Z<|Vb v' Z<|Zu Z<|Zu Z<|Zr Z (Qz (a:=v) (b:=v') (c:=.int _ _) (d:=.int _ _) Tryz.call220 Z Z Z Z) (m2 _ _ _ ((Mono.mono exq h)) ((Mono.mono exq h'))) ?_;rintro _ w6 ⟨rfl,E6⟩;have hs4:=E6.size;refine Yq Z<|Zn<|Xg Z (fun h5=>?_) (fun h5=>?_);refine Vf<|Vg Z<|Zn<|Vf<|Vb r Z<|Zu Z<|Ye (ps:=[(0,.int _ _)]) (cs:=[_]) Z Kn Kl Jg Z Z Z Z ?_;rintro b3 w7 hb3 E7 hB1 hHb3
    have hlb3:=hB1.lt;have hs5:=E7.size;refine Xh Z Ux Z Z hB1 (hO4.toB.ext ((E5.trans E6).trans E7)) Owned.int (Nat.le_refl _) Kf Ka Ka (((E4.trans E5).trans E6).trans E7) Ka ?_;have hT1:=(hO4.toB.ext ((E5.trans E6).trans E7));rintro v1 w8 hO4 E8 M1;have hB4:=(hB4.ext exq).moves M1 hT1 Ka;refine Yr v1 Z<|Zn<|Vf<|Zu Z<|Vr Z<|Vg Z<|Zn ?_;rotate_left;refine Zv<|Vf<|Vb r Z<|Zu Z<|Ye (ps:=[(0,.int _ _)]) (cs:=[_]) Z Kn Kl Jg Z Z Z Z ?_;rintro b3 w7 hb3 E7 hB1 hHb3;have hlb3:=hB1.lt;have hs5:=E7.size
    refine Xh Z Ux Z Z hB1 (hO4.toB.ext ((E5.trans E6).trans E7)) Owned.int (Nat.le_refl _) Kf Ka Ka (((E4.trans E5).trans E6).trans E7) Ka ?_;have hT1:=(hO4.toB.ext ((E5.trans E6).trans E7));rintro v1 w8 hO4 E8 M1;have hB4:=(hB4.ext exq).moves M1 hT1 Ka;refine Yr v1 Z<|Zn<|Vf<|Zu Z<|Vr Z<|Vg Z<|Zn ?_;rotate_left;refine Zo Z<|Zo Z<|Zo Z<|Zo Z<|Zo Z<|Vp Z<|Zn<|Zx Z ?_;refine Zv<|Vf<|Vb r Z<|Zu Z<|Ye (ps:=[(0,.int _ _)]) (cs:=[_]) Z Kn Kl Jg Z Z Z Z ?_;rintro b3 w6 hb3 E6 hB1 hHb3;have hlb3:=hB1.lt;have hs4:=E6.size
    refine Xh Z Ux Z Z hB1 (hO4.toB.ext (E5.trans E6)) Owned.int (Nat.le_refl _) Kf Ka Ka ((E4.trans E5).trans E6) Ka ?_;have hT1:=(hO4.toB.ext (E5.trans E6));rintro v1 w7 hO4 E7 M1;have hB4:=(hB4.ext exq).moves M1 hT1 Ka;refine Yr v1 Z<|Zn<|Vf<|Zu Z<|Vr Z<|Vg Z<|Zn ?_;rotate_left;refine Zo Z<|Zo Z<|Zo Z<|Zo Z<|Zo Z<|Vp Z<|Yi Z<|Zo Z<|Zo Z<|Zo Z<|Zo Z<|Zo Z<|Vp Z<|Zn<|Zx Z ?_;refine Zv<|Vf<|Vb r Z<|Zu Z<|Ye (ps:=[(0,.int _ _)]) (cs:=[_]) Z Kn Kl Jg Z Z Z Z ?_;rintro b3 w5 hb3 E5 hB1 hHb3;have hlb3:=hB1.lt;have hs3:=E5.size
    refine Xh Z Ux Z Z hB1 (hO4.toB.ext E5) Owned.int (Nat.le_refl _) Kf Ka Ka (E4.trans E5) Ka ?_;have hT1:=(hO4.toB.ext E5);rintro v1 w6 hO4 E6 M1;have hB4:=(hB4.ext E5).moves M1 hT1 Ka;have hB1:=hB1.moves M1 hT1 Ka;have hs4:=E6.size;refine Yr v1 Z<|Zn<|Vf<|Wo Z (Vq (v:=.int _ _) Z)<|Wo Z (Rw Z Z Ka) ?_;refine Wo Z (Xi (v:=.int _ _) Z)<|Zn ?_;rotate_left;(exfalso;omega)
   ·have hx:(1:Int)=b01 (rnd p S k j):=by
     unfold rnd
     rw [show S k j=true from b01_one.1 (hme.symm.trans Kd),show mch p S k j=true by assumption,show mch p S j k=true by assumption];rfl
    refine ⟨((j+1,v1)),Kg,Kh,?_,?_⟩
    ·refine ⟨Kd,by have:=M1.1.size;omega,Ka,Kd,?_⟩
     rw [fin _ hx];assumption
    ·simp only;omega
   ·have hx:(0:Int)=b01 (rnd p S k j):=by
     unfold rnd
     rw [show S k j=true from b01_one.1 (hme.symm.trans Kd),show mch p S k j=true by assumption,show mch p S j k=false by assumption];rfl
    refine ⟨((j+1,v1)),Kg,Kh,?_,?_⟩
    ·refine ⟨Kd,by have:=M1.1.size;omega,Ka,Kd,?_⟩
     rw [fin _ hx];assumption
    ·simp only;omega
   ·have hx:(0:Int)=b01 (rnd p S k j):=by
     unfold rnd
     rw [show S k j=true from b01_one.1 (hme.symm.trans Kd),show mch p S k j=false by assumption];rfl
    refine ⟨((j+1,v1)),Kg,Kh,?_,?_⟩
    ·refine ⟨Kd,by have:=M1.1.size;omega,Ka,Kd,?_⟩
     rw [fin _ hx];assumption
    ·simp only;omega
   ·have hx:(0:Int)=b01 (rnd p S k j):=by
     unfold rnd
     have hS:S k j=false:=by
      cases hs:S k j with
      | false=>rfl
      | true=>rw [hs] at hme;exact absurd hme Kd
     rw [hS];rfl
    refine ⟨((j+1,v1)),Kg,Kh,?_,?_⟩
    ·refine ⟨Kd,by have:=M1.1.size;omega,Ka,Kd,?_⟩
     rw [fin _ hx];assumption
    ·simp only;omega
  ·obtain rfl:j=p.length:=by omega
   obtain ⟨rb,rc,rfl,_⟩:=hO4.lit (by rw [bits01_len];omega)
   have hrb:=hO4.lt_own (k:=rb) rfl
   rw [bits01_len] at *
   focus
    have szE4:=E4.size;have szE2:=E2.size;refine Zq<|Zp<|Zu Z<|Vb v Z<|Vk Kp Z h<|Vi Z<|Zn<|Zt Z fun h2=>?_;refine Vw ?_;refine Vd ?_;refine Vf<|Vb u Z<|Up Z<|Xm (ps:=[(0,.slice _ _ _)]) (cs:=[_]) Z Kp Kt Jv Z Z Z Z ?_;rintro b3 w5 hb3 E5 hB1;have hlb3:=hB1.lt;refine Xh Z Ra Z Z hB1 (hB4.ext E5) (hO4.toB.ext E5).o Ka Kf Ka Ka (E4.trans E5) Ka ?_;rintro v1 w6 hB4 E6 M1;refine Yr v1 Z<|Zn<|Vf<|Wo Z (Vq (v:=.int _ _) Z)<|Wo Z (Rw Z Z Ka) ?_;refine Wo Z (Xi (v:=.int _ _) Z)<|Zn ?_
   refine ⟨((k+1,v1)),Kg,Kh,?_,?_⟩
   ·exact ⟨Kd,Ka,by rw [mat01_succ];assumption⟩
   ·simp only;omega
 ·obtain rfl:k=p.length:=by omega
  focus
   refine Zq<|Zp<|Zu Z<|Vb v Z<|Vk Kp Z h<|Vi Z<|Zn<|Zt Z fun h1=>?_;refine Vw ?_;refine Vd ?_;refine Zq<|Vf<|Vb u Z<|Yr u Z<|Zn<|Zy ?_;exact ⟨E2,hO2.toB.o.mono Ka⟩
theorem LeftAfter_ok (w:World) (v:Value) (p:List (List Int)) (h:ESl Ints w v p) (z:Int):Does Tryz.prog 193 [v,.int .i64 z] w (RetO w XR (leftV p z)):=by
 have hle:=h.le
 by_cases hp:Pic p
 ·have hpic : ∀ (w:World) (pv:Value),ESl Ints w pv p→Does Tryz.prog 115 [pv] w (Ret w (.bool true)):=fun w pv h=>by
   have:=Ue w pv p h
   rw [decide_eq_true hp] at this;exact this
  have hp5:=hp.2.1
  by_cases hz:0≤z∧z≤30
  ·have hV:leftV p z=matV p (bsm p z.toNat):=if_pos ⟨hp,hz⟩
   rw [hV]
   have hst : ∀ w,Does Tryz.prog 202 [.int .i64 (p.length:Int)] w (RetO w XR (matV p (bsm p 0))):=fun w=>by
    have:=l3Start_ok w p.length Ka
    rw [matV_zero] at this;exact this
   refine Vh Tryz.func193 Z Tryz.results193 Tryz.ntmps193 Z ?_
   focus
    refine Zp<|Ys Z<|Zn<|Zq<|Zp<|Vb v Z<|Zr Z (Vx (a:=v) Jr Z) (hpic _ _ (h)) ?_;rintro _ w1 ⟨rfl,E1⟩;have hs1:=E1.size;refine Ym Z<|Yn Z (Vq (v:=.bool _) Z) (fun h1=>?_) (fun h1=>?_);contradiction;refine Zu Z<|Zr Z (Ud (a:=.int _ _) (b:=.int _ _) (c:=.int _ _) Jl Z Z Z) (Uz _ _ _ _) ?_;rintro _ w2 ⟨rfl,E2⟩;have hs2:=E2.size;refine Ym Z<|Vp Z<|Zn<|Uv Z fun h2=>?_;refine Zv<|Zp<|Vb v Z<|Vk Kp Z h<|Zr Z (Vx (a:=.int _ _) Tryz.call202 Z) (hst _) ?_;rintro u1 w3 ⟨E3,hO1⟩;refine Yr u1 Z<|Zn<|Zq<|Zp<|Vg Z<|Zn<|Zw ?_
   refine Vy [5,6,19,20,21,22,23,24,25,26] (fun (m,u)=>[(6,.int .i64 (m:Nat)),(5,u)]) (fun (m,u) w'=>Ext w w'∧m≤z.toNat∧Owned w.heap.size XR w' u (matV p (bsm p m))) (fun x=>z.toNat - x.1) (0,u1) Kg ?_ ?_
   ·exact ⟨(E1.trans E2).trans E3,Nat.zero_le _,hO1.mono Ka⟩
   rintro ⟨m,u⟩ ρj w9 ⟨E9,hm,hO9⟩
   by_cases hmz:m < z.toNat
   ·have hrn : ∀ (w:World) (v v':Value),ESl Ints w v p→ESl Ints w v' (matV p (bsm p m))→Does Tryz.prog 203 [v,v'] w (RetO w XR (matV p (bsm p (m+1)))):=fun w v v' h1 h2=>l3Round_ok w v v' p h1 hp (bsm p m) h2
    focus
     have szE9:=E9.size;refine Zq<|Zp<|Zu Z<|Zu Z<|Vi Z<|Zn<|Zs Z (fun h3=>?_) (fun h3=>?_);refine Zv<|Zq<|Zw<|Vf<|Vb v Z<|Vb u Z<|Zr Z (Yg (a:=v) (b:=u) Tryz.call203 Z Z) (hrn _ _ _ ((Mono.mono E9 h)) ((Owned.read hO9))) ?_;rintro u2 w4 ⟨E4,hO2⟩;refine Yr u2 Z<|Zn<|Vf<|Zu Z<|Vr Z<|Vg Z<|Zn ?_;rotate_left;(exfalso;omega)
    refine ⟨((m+1,u2)),Kg,Kh,?_,?_⟩
    ·exact ⟨E9.trans E4,Ka,hO2.mono Ka⟩
    ·simp only;omega
   ·obtain rfl:m=z.toNat:=by omega
    focus
     refine Zq<|Zp<|Zu Z<|Zu Z<|Vi Z<|Zn<|Zt Z fun h3=>?_;refine Vw ?_;refine Vd ?_;refine Zq<|Vf<|Vb u Z<|Yr u Z<|Zn<|Zy ?_;exact ⟨E9,hO9.toB.o.mono Ka⟩
  ·have hV:leftV p z=[]:=if_neg (fun h=>hz h.2)
   rw [hV]
   refine Vh Tryz.func193 Z Tryz.results193 Tryz.ntmps193 Z ?_
   focus
    refine Zp<|Ys Z<|Zn<|Zq<|Zp<|Vb v Z<|Zr Z (Vx (a:=v) Jr Z) (hpic _ _ (h)) ?_;rintro _ w1 ⟨rfl,E1⟩;have hs1:=E1.size;refine Ym Z<|Yn Z (Vq (v:=.bool _) Z) (fun h1=>?_) (fun h1=>?_);contradiction;refine Zu Z<|Zr Z (Ud (a:=.int _ _) (b:=.int _ _) (c:=.int _ _) Jl Z Z Z) (Uz _ _ _ _) ?_;rintro _ w2 ⟨rfl,E2⟩;have hs2:=E2.size;refine Ym Z<|Vp Z<|Zn<|Vz Z (fun h2=>?_) (fun h2=>?_);refine Zp<|Yz (XSl 3 XInt) Z Ra Kt ?_;rintro b1 w3 hb1 b1lt E3 hO1;refine Ys Z<|Zn<|Zy ?_;exact ⟨exq,hO1.toB.o.mono Ka⟩;contradiction
 ·have hpic : ∀ (w:World) (pv:Value),ESl Ints w pv p→Does Tryz.prog 115 [pv] w (Ret w (.bool false)):=fun w pv h=>by
   have:=Ue w pv p h
   rw [decide_eq_false hp] at this;exact this
  have hV:leftV p z=[]:=if_neg (fun h=>hp h.1)
  rw [hV]
  refine Vh Tryz.func193 Z Tryz.results193 Tryz.ntmps193 Z ?_
  focus
   refine Zp<|Ys Z<|Zn<|Zq<|Zp<|Vb v Z<|Zr Z (Vx (a:=v) Jr Z) (hpic _ _ (h)) ?_;rintro _ w1 ⟨rfl,E1⟩;have hs1:=E1.size;refine Ym Z<|Yn Z (Vq (v:=.bool _) Z) (fun h1=>?_) (fun h1=>?_);refine Zo Z<|Zo Z<|Zo Z<|Yq Z<|Zn<|Vv Z ?_;refine Zp<|Yz (XSl 3 XInt) Z Ra Kt ?_;rintro b1 w2 hb1 b1lt E2 hO1;refine Ys Z<|Zn<|Zy ?_;exact ⟨exq,hO1.toB.o.mono Ka⟩;contradiction
theorem Nh (w:World) (v:Value) (p:List (List Int)) (h:ESl Ints w v p):Does Tryz.prog 162 [v] w (RetO w XR (leftV p p.length)):=by
 refine Vh Tryz.func162 Z Tryz.results162 Tryz.ntmps162 Z ?_
 focus
  refine Zp<|Ys Z<|Zn<|Zp<|Vb v Z<|Vb v Z<|Vk Kp Z h<|Zr Z (Yg (a:=v) (b:=.int _ _) Tryz.call193 Z Z) (LeftAfter_ok _ _ _ (h) _) ?_;rintro u1 w1 ⟨E1,hO1⟩;refine Yr u1 Z<|Zn<|Zy ?_;exact ⟨E1,hO1.toB.o.mono Ka⟩
def smV (p:List (List Int)) (a b:Int):Bool:=decide (Nod p a) && decide (Nod p b) && bsm p p.length a.toNat b.toNat
theorem spec_SameAt_ok (w:World) (v:Value) (p:List (List Int)) (h:ESl Ints w v p) (a b:Int):Does Tryz.prog 120 [v,.int .i64 a,.int .i64 b] w (Ret w (.bool (smV p a b))):=by
 have hle:=h.le
 by_cases hp:Pic p
 ·have hp5:=hp.2.1
  have hV:leftV p p.length=matV p (bsm p p.length):=if_pos ⟨hp,Ka,Ka⟩
  have hsr : ∀ (w:World) (pv:Value),ESl Ints w pv p→Does Tryz.prog 162 [pv] w (RetO w XR (matV p (bsm p p.length))):=fun w pv h=>by
   have:=Nh w pv p h
   rw [hV] at this;exact this
  have hml:=Qb (p:=p) (bsm p p.length)
  have hN : ∀ x,Nod p x↔0≤x∧x < p.length:=fun x=>⟨fun h=>h.2,fun h=>⟨hp,h⟩⟩
  by_cases ha:0≤a∧a < p.length
  ·have hmr:=Qx (p:=p) (S:=bsm p p.length) (a:=a.toNat) Ka
   by_cases hb:0≤b∧b < p.length
   ·have hme:=Se (p:=p) (S:=bsm p p.length) (a:=a.toNat) (b:=b.toNat) Ka Ka
    have e:smV p a b=bsm p p.length a.toNat b.toNat:=by unfold smV;rw [decide_eq_true ((hN a).2 ha),decide_eq_true ((hN b).2 hb)];rfl
    rw [e]
    refine Vh Tryz.func120 Z Tryz.results120 Tryz.ntmps120 Z ?_
    focus
     refine Zp<|Zz Z<|Zn<|Zp<|Vb v Z<|Zr Z (Vx (a:=v) Gx Z) (hsr _ _ (h)) ?_;rintro u1 w1 ⟨E1,hO1⟩;refine Yr u1 Z<|Zn<|Zp<|Vb u1 Z<|Vk Kp Z (Owned.read hO1)<|Qm Z<|Vg Z<|Zn<|Zp<|Zu Z<|Zu Z<|Zr Z (Ud (a:=.int _ _) (b:=.int _ _) (c:=.int _ _) Jl Z Z Z) (Uz _ _ _ _) ?_;rintro _ w2 ⟨rfl,E2⟩;refine Yf Z (fun h1=>?_) (fun h1=>?_);refine Zu Z<|Zu Z<|Zr Z (Ud (a:=.int _ _) (b:=.int _ _) (c:=.int _ _) Jl Z Z Z) (Uz _ _ _ _) ?_;rintro _ w3 ⟨rfl,E3⟩;refine Yq Z<|Yf Z (fun h2=>?_) (fun h2=>?_)
     refine Vb u1 Z<|Zu Z<|Qr Kp Kt Kz Z (fun _=>Z) Z (Owned.read hO1) exq Z Kf ?_;rintro _ u2 hu1;refine Zu Z<|Qr Kn Kl Km Z (fun _=>Z) Z hu1 exq Z Kf ?_;rintro _ _ rfl;refine Vm Z<|Yq Z<|Zz Z<|Zn<|Zy ?_;refine Ve (v:=.bool _) Z ?_;refine ⟨congrArg Value.bool ?_,exq⟩;rotate_left;(exfalso;omega);(exfalso;omega)
    rw [hme]
    cases bsm p p.length a.toNat b.toNat <;> rfl
   ·have e:smV p a b=false:=by unfold smV;rw [decide_eq_false (fun h=>hb ((hN b).1 h)),Bool.and_false];rfl
    rw [e]
    refine Vh Tryz.func120 Z Tryz.results120 Tryz.ntmps120 Z ?_
    focus
     refine Zp<|Zz Z<|Zn<|Zp<|Vb v Z<|Zr Z (Vx (a:=v) Gx Z) (hsr _ _ (h)) ?_;rintro u1 w1 ⟨E1,hO1⟩;refine Yr u1 Z<|Zn<|Zp<|Vb u1 Z<|Vk Kp Z (Owned.read hO1)<|Qm Z<|Vg Z<|Zn<|Zp<|Zu Z<|Zu Z<|Zr Z (Ud (a:=.int _ _) (b:=.int _ _) (c:=.int _ _) Jl Z Z Z) (Uz _ _ _ _) ?_;rintro _ w2 ⟨rfl,E2⟩;refine Yf Z (fun h1=>?_) (fun h1=>?_);refine Zu Z<|Zu Z<|Zr Z (Ud (a:=.int _ _) (b:=.int _ _) (c:=.int _ _) Jl Z Z Z) (Uz _ _ _ _) ?_;rintro _ w3 ⟨rfl,E3⟩;refine Yq Z<|Uj Z fun h2=>?_;refine Zo Z<|Zo Z<|Zo Z<|Zo Z<|Zo Z<|Zo Z<|Zo Z<|Zo Z<|Vp Z<|Zz Z<|Zn<|Zy ?_;exact ⟨rfl,exq⟩
     (exfalso;omega)
  ·have e:smV p a b=false:=by unfold smV;rw [decide_eq_false (fun h=>ha ((hN a).1 h))];rfl
   rw [e]
   refine Vh Tryz.func120 Z Tryz.results120 Tryz.ntmps120 Z ?_
   focus
    refine Zp<|Zz Z<|Zn<|Zp<|Vb v Z<|Zr Z (Vx (a:=v) Gx Z) (hsr _ _ (h)) ?_;rintro u1 w1 ⟨E1,hO1⟩;refine Yr u1 Z<|Zn<|Zp<|Vb u1 Z<|Vk Kp Z (Owned.read hO1)<|Qm Z<|Vg Z<|Zn<|Zp<|Zu Z<|Zu Z<|Zr Z (Ud (a:=.int _ _) (b:=.int _ _) (c:=.int _ _) Jl Z Z Z) (Uz _ _ _ _) ?_;rintro _ w2 ⟨rfl,E2⟩;refine Uj Z fun h1=>?_;refine Zo Z<|Zo Z<|Zo Z<|Vp Z<|Yi Z<|Zo Z<|Zo Z<|Zo Z<|Zo Z<|Zo Z<|Zo Z<|Zo Z<|Zo Z<|Vp Z<|Zz Z<|Zn<|Zy ?_;exact ⟨rfl,exq⟩
 ·have hV:leftV p p.length=[]:=if_neg (fun h=>hp h.1)
  have hsr : ∀ (w:World) (pv:Value),ESl Ints w pv p→Does Tryz.prog 162 [pv] w (RetO w XR []):=fun w pv h=>by
   have:=Nh w pv p h
   rw [hV] at this;exact this
  have e:smV p a b=false:=by unfold smV;rw [decide_eq_false (fun h=>hp h.1)];rfl
  have h00:([]:List (List Int)).length=0:=rfl
  rw [e]
  refine Vh Tryz.func120 Z Tryz.results120 Tryz.ntmps120 Z ?_
  focus
   refine Zp<|Zz Z<|Zn<|Zp<|Vb v Z<|Zr Z (Vx (a:=v) Gx Z) (hsr _ _ (h)) ?_;rintro u1 w1 ⟨E1,hO1⟩;refine Yr u1 Z<|Zn<|Zp<|Vb u1 Z<|Vk Kp Z (Owned.read hO1)<|Qm Z<|Vg Z<|Zn<|Zp<|Zu Z<|Zu Z<|Zr Z (Ud (a:=.int _ _) (b:=.int _ _) (c:=.int _ _) Jl Z Z Z) (Uz _ _ _ _) ?_;rintro _ w2 ⟨rfl,E2⟩;refine Uj Z fun h1=>?_;refine Zo Z<|Zo Z<|Zo Z<|Vp Z<|Yi Z<|Zo Z<|Zo Z<|Zo Z<|Zo Z<|Zo Z<|Zo Z<|Zo Z<|Zo Z<|Vp Z<|Zz Z<|Zn<|Zy ?_;exact ⟨rfl,exq⟩
theorem IndexFunc_ok (w:World) (v:Value) (xs:List Int) (h:Ints w v xs) (fid:FuncId) (cap:List Value) (g:Int→Bool) (hc : ∀ args w,Sem.run Tryz.prog (callFunc fid args) w=.ok (.enter fid args) w)
  (hf : ∀ (x:Int) (w':World),x ∈ xs→Ext w w'→Does Tryz.prog fid (.int .i64 x::cap) w' (Ret w' (.bool (g x)))) :
  Does Tryz.prog 179 [v,.func (.func fid) [].toArray cap.toArray] w (RetX w (Value.int .i64) (fun n _=>(n = -1∧xs.any g=false)∨(0≤n∧xs.any g=true))):=by
 have hle:=h.le
 refine Vh Tryz.func179 Z Tryz.results179 Tryz.ntmps179 Z ?_
 focus
  refine Zp<|Vg Z<|Zn<|Zq<|Zp<|Vb v Z<|Vk Kn Z h<|Zu Z<|Zn<|Zw ?_
 refine Vy [4,5,8,9,10,11,12,13,14,15,16,17,18] (fun (k:Nat)=>[(8,.int .i64 (k:Nat))]) (fun k w'=>Ext w w'∧k≤xs.length∧(xs.take k).any g=false) (fun x=>xs.length - x) 0 Kg ?_ ?_
 ·exact ⟨Ext.refl _,Nat.zero_le _,Ki⟩
 rintro k ρj w1 ⟨E1,hk,hg⟩
 by_cases hlt:k < xs.length
 ·have hmem:=List.getElem_mem hlt
  focus
   refine Zp<|Vi Z<|Zn<|Zq<|Zs Z (fun h1=>?_) (fun h1=>?_);refine Zv<|Zq<|Zw<|Zp<|Zu Z<|Vg Z<|Zn<|Zp<|Vb (.func _ _ _) Z<|Vb v Z<|Zu Z<|Yb Kn Kl Km Z (fun _=>Z) Z h E1 Z Kf ?_;rintro _ _ rfl;refine Zr Z (opc_val1 (a:=.int _ _) Kd Z Z) (hf _ _ Kd (E1)) ?_;rintro _ w2 ⟨rfl,E2⟩;refine Zn<|Xg Z (fun h2=>?_) (fun h2=>?_);refine Zq<|Vf<|Zu Z<|Vg Z<|Zn<|Zy ?_;refine Ve (v:=.int _ _) Z ?_;refine ⟨exq,_,Z,?_⟩;(try dsimp only);rotate_left;refine Zv<|Vf<|Vr Z<|Zu Z<|Zn ?_;rotate_left;(exfalso;omega)
  ·right
   refine ⟨Ka,List.any_eq_true.2 ⟨_,hmem,Kd⟩⟩
  ·refine ⟨(k+1),Kg,Kh,?_,?_⟩
   ·refine ⟨E1.trans E2,Ka,?_⟩
    rw [Yd _ _ hlt,List.any_append,hg]
    simpa using by assumption
   ·omega
 ·obtain rfl:k=xs.length:=by omega
  focus
   refine Zp<|Vi Z<|Zn<|Zq<|Zt Z fun h1=>?_;refine Vw ?_;refine Vd ?_;refine Zp<|Vg Z<|Zn<|Zy ?_;refine Ve (v:=.int _ _) Z ?_;refine ⟨E1,_,Z,?_⟩;(try dsimp only)
  exact .inl ⟨rfl,by simpa using hg⟩
theorem Qp (w:World) (v:Value) (xs:List Int) (h:Ints w v xs) (fid:FuncId) (cap:List Value) (g:Int→Bool) (hc : ∀ args w,Sem.run Tryz.prog (callFunc fid args) w=.ok (.enter fid args) w)
  (hf : ∀ (x:Int) (w':World),x ∈ xs→Ext w w'→Does Tryz.prog fid (.int .i64 x::cap) w' (Ret w' (.bool (g x)))) :
  Does Tryz.prog 146 [v,.func (.func fid) [].toArray cap.toArray] w (Ret w (.bool (xs.any g))):=by
 have hi:=IndexFunc_ok w v xs h fid cap g hc hf
 refine Vh Tryz.func146 Z Tryz.results146 Tryz.ntmps146 Z ?_
 focus
  refine Zp<|Zz Z<|Zn<|Zp<|Vb v Z<|Vb (.func _ _ _) Z<|Zr Z (Yg (a:=v) (b:=.func _ _ _) Tryz.call179 Z Z) (hi) ?_;rintro _ w1 ⟨E1,y1,rfl,hy1⟩;refine Qk Z<|Zz Z<|Zn<|Zy ?_;refine Ve (v:=.bool _) Z ?_;refine ⟨congrArg Value.bool ?_,E1⟩
 rcases hy1 with ⟨rfl,h9⟩ | ⟨h8,h9⟩
 ·rw [h9];rfl
 ·rw [h9];exact decide_eq_true h8
theorem Qw (w:World) (n:Nat) (hn:n≤1048576):Does Tryz.prog 183 [.int .i64 (n:Int)] w (RetO w XR (List.replicate n (List.replicate n 0))):=by
 refine Vh Tryz.func183 Z Tryz.results183 Tryz.ntmps183 Z ?_
 focus
  refine Zp<|Ys Z<|Zn<|Zp<|Yz (XSl 3 XInt) Z Ra Kt ?_;rintro b1 w1 hb1 b1lt E1 hO1;refine Ys Z<|Zn<|Zq<|Zp<|Zu Z<|Zu Z<|Zn<|Zw ?_
 refine Vy [3,6,7,8,9,10,11,12,13] (fun (k,u)=>[(6,.int .i64 (k:Nat)),(3,u)]) (fun (k,u) w'=>Ext w w'∧k≤n∧Owned w.heap.size XR w' u (List.replicate k (List.replicate n 0))) (fun x=>n - x.1) (0,.slice (some ⟨b1,0,none⟩) 0 0) Kg ?_ ?_
 ·exact ⟨Kd,Nat.zero_le _,by simpa using hO1⟩
 rintro ⟨k,u⟩ ρj w2 ⟨E2,hk,hO2⟩
 focus
  have szE2:=E2.size;refine Zp<|Vi Z<|Zn<|Zq<|Zs Z (fun h1=>?_) (fun h1=>?_);refine Zv<|Zq<|Zw<|Vf<|Vb u Z<|Zu Z<|Tw Z Ux Z Ka ?_;rintro b2 w3 hb2 b2lt E3 hO3;refine Xm (ps:=[(0,.slice _ _ _)]) (cs:=[_]) Z Kp Kt Jv Z Z Z Z ?_;rintro b3 w4 hb3 E4 hB1;have hs3:=E4.size;refine Xh Z Ra Z Z hB1 (hO2.toB.ext (E3.trans E4)) (hO3.toB.ext E4).o Ka Kf Ka Ka ((E2.trans E3).trans E4) Ka ?_;rintro v1 w5 hO2 E5 M1;refine Yr v1 Z<|Zn<|Vf<|Vr Z<|Zu Z<|Zn ?_;rotate_left;refine Vw ?_;refine Vd ?_;refine Zq<|Um Z<|Wo Z (Vq (v:=u) Z)<|Wo Z (Xi (v:=u) Z)<|Zn<|Zy ?_
  refine ⟨E2,(congrArg (Owned _ _ _ _) ?_).mp (hO2.toB.o.mono Ka)⟩;rotate_left
 ·refine ⟨((k+1,v1)),Kg,Kh,?_,?_⟩
  ·refine ⟨Kd,Ka,?_⟩
   rw [List.replicate_succ'];exact hO2
  ·simp only;omega
 ·obtain rfl:k=n:=by omega
  rfl
theorem ints_any2 (l:List Nat) (g:Int→Bool):(ints l).any g=l.any fun x=>g (x:Int):=by
 unfold ints;rw [List.any_map];rfl
theorem ints_get2 {l:List Nat} {k:Nat} (h:k < l.length):(ints l)[k]'(by rw [Yy];exact h)=((l[k]:Nat):Int):=by simp [ints]
theorem arr_le5 {p:List (List Int)} (hp:Gr p) {i:Nat} (hi:i < p.length):(arr p i).length≤11:=by
 have h8:=Ng (p.getD i [])
 rw [Ya Ka,hp.row Ka] at h8
 have:=hp.2.1
 unfold arr;rw [Ya Ka];omega
theorem answered_ok (w:World) (v v':Value) (p:List (List Int)) (h:ESl Ints w v p) (hp:Gr p) (S:Nat→Nat→Bool) (h':ESl Ints w v' (matV p S)) (a b:Nat) (ha:a < p.length) (hb:b < p.length) :
  Does Tryz.prog 204 [v,v',.int .i64 (a:Int),.int .i64 (b:Int)] w (Ret w (.bool (mch p S a b && (arr p b).all fun y=>(arr p a).any fun x=>S x y))):=by
 have hp5:=hp.2.1
 have hml:=Qb (p:=p) S
 obtain ⟨qa,qc,rfl,_⟩:=id h'
 have harr : ∀ (w:World) (pv:Value) (z:Nat),ESl Ints w pv p→z < p.length→Does Tryz.prog 130 [pv,.int .i64 (z:Int)] w (RetO w XI (ints (arr p z))):=fun w pv z h hz =>
  Us w pv p h (z:Int) Ka (by rw [Ya Ka,hp.row Ka];omega)
 have hcl1 : ∀ (w1:World) (b3 b4 x y:Nat),Ext w w1→Blk w1 b3 [.slice qa (matV p S).length qc]→Blk w1 b4 [.int .i64 (x:Int)]→x < p.length→y < p.length→Does Tryz.prog 221 [.int .i64 (y:Int),.pointer (some ⟨b3,0,none⟩),.pointer (some ⟨b4,0,none⟩)] w1 (Ret w1 (.bool (S x y))):=by
  intro w1 b3 b4 x y E0 hB3 hB4 hx hy
  have hmr:=Qx (p:=p) (S:=S) hx
  have hme:=Se (p:=p) (S:=S) hx hy
  refine Vh Tryz.func221 Z Tryz.results221 Tryz.ntmps221 Z ?_
  focus
   refine Zp<|Zz Z<|Zn<|Zp<|Ql Kw hB3 Z<|Yk Km hB4 Z<|Yb Kp Kt Kz Z (fun _=>Z) Z h' E0 Z Kf ?_;rintro _ u1 hu1;refine Zu Z<|Yb Kn Kl Km Z (fun _=>Z) Z hu1 E0 Z Kf ?_;rintro _ _ rfl;refine Vm Z<|Zz Z<|Zn<|Zy ?_;refine Ve (v:=.bool _) Z ?_;refine ⟨congrArg Value.bool ?_,(Ext.refl _)⟩
  all_goals
   rw [hme]
   cases S x y <;> rfl
 have hcl2 : ∀ (w1:World) (b3 b4 x y:Nat),Ext w w1→Blk w1 b3 [.slice qa (matV p S).length qc]→Blk w1 b4 [.int .i64 (y:Int)]→x < p.length→y < p.length→Does Tryz.prog 222 [.int .i64 (x:Int),.pointer (some ⟨b3,0,none⟩),.pointer (some ⟨b4,0,none⟩)] w1 (Ret w1 (.bool (S x y))):=by
  intro w1 b3 b4 x y E0 hB3 hB4 hx hy
  have hmr:=Qx (p:=p) (S:=S) hx
  have hme:=Se (p:=p) (S:=S) hx hy
  refine Vh Tryz.func222 Z Tryz.results222 Tryz.ntmps222 Z ?_
  focus
   refine Zp<|Zz Z<|Zn<|Zq<|Xx Xr Kb Z ?_;refine Xs (v:=.slice _ _ _) Z (fun w' hw'=>Vt Kw Z ((hB3.ext hw').cell Z)) ?_;refine Rf Z<|Xn Kp Kt Kz Z (fun _=>Z) Z h' E0 Z Kf ?_;rintro _ u1 hu1;refine Xs (v:=.int _ _) Z (fun w' hw'=>Vt Km Z ((hB4.ext hw').cell Z)) ?_;refine Xn Kn Kl Km Z (fun _=>Z) Z hu1 E0 Z Kf ?_;rintro _ _ rfl;refine Rg Z<|Tp Z<|Xu (fun w2 E1=>?_);refine Zy ?_;refine Ve (v:=.bool _) Z ?_;refine ⟨congrArg Value.bool ?_,E1⟩
  all_goals
   rw [hme]
   cases S x y <;> rfl
 refine Vh Tryz.func204 Z Tryz.results204 Tryz.ntmps204 Z ?_
 focus
  refine Zp<|Yl Z Z Z ?_;rintro b1 w1 hb1 E1 hB1;have hlb1:=hB1.lt;refine Zz Z<|Zn<|Zq<|Zp<|Vb v Z<|Zu Z<|Zr Z (Yg (a:=v) (b:=.int _ _) Js Z Z) (harr _ _ _ ((Mono.mono E1 h)) Kd) ?_;rintro u1 w2 ⟨E2,hO1⟩;have hs2:=E2.size;refine Vk Kn Z (Owned.read hO1)<|Zu Z<|Zn<|Zw ?_
 have hla:=Yy (arr p a)
 have hlb:=Yy (arr p b)
 have ha5:=arr_le5 hp ha
 have hb5:=arr_le5 hp hb
 have hB1':Blk w1 b1 [.slice qa (matV p S).length qc]:=hB1
 have hB2':=hB1'.ext E2
 clear hB1 hB1'
 refine Vy [8,10,17,18,19,20,21,22,23,24,25,26,27] (fun (k:Nat)=>[(17,.int .i64 (k:Nat))]) (fun k w'=>Ext w2 w'∧k≤(arr p a).length∧((arr p a).take k).all (fun x=>(arr p b).any fun y=>S x y)=true) (fun x=>(arr p a).length - x) 0 Kg ?_ ?_
 ·exact ⟨Ext.refl _,Nat.zero_le _,Ki⟩
 rintro k ρj w3 ⟨E3,hk,hg⟩
 by_cases hkl:k < (arr p a).length
 ·have hmm:=List.getElem_mem hkl
  have hga:=ints_get2 hkl
  have hts:=Yd _ _ hkl
  have hxl:=((Uo hp ha).1 hmm).1
  have hcon : ∀ (w1:World) (u:Value) (b3 b4:Nat),Ext w w1→Blk w1 b3 [.slice qa (matV p S).length qc]→Blk w1 b4 [.int .i64 ((ints (arr p a))[k]'Ka)]→Ints w1 u (ints (arr p b))→Does Tryz.prog 146 [u,.func (.func 221) [].toArray [.pointer (some ⟨b3,0,none⟩),.pointer (some ⟨b4,0,none⟩)].toArray] w1 (Ret w1 (.bool ((arr p b).any fun y=>S (arr p a)[k] y))):=by
   intro w1 u b3 b4 E0 hB3 hB4 hu
   rw [hga] at hB4
   have:=Qp w1 u _ hu 221 [.pointer (some ⟨b3,0,none⟩),.pointer (some ⟨b4,0,none⟩)] (fun y=>S (arr p a)[k] y.toNat) Tryz.call221 (fun y w' hy e=>by
    simp only [ints,List.mem_map] at hy
    obtain ⟨j,hj,rfl⟩:=hy
    exact hcl1 w' b3 b4 _ j (E0.trans e) (hB3.ext e) (hB4.ext e) hxl ((Uo hp hb).1 hj).1)
   rw [ints_any2] at this
   exact this
  focus
   have szE3:=E3.size;refine Zq<|Um Z<|Wo Z (opv_lss Z Z)<|Zn<|Zq<|Zs Z (fun h1=>?_) (fun h1=>?_);refine Zv<|Zq<|Zw<|Zq<|Um Z<|Yb Kn Kl Km Z (fun _=>Z) Z (Owned.read hO1) E3 Z Kf ?_;rintro _ _ rfl;refine Tm Z Jg Z ?_;rintro b2 w4 hb2 E4 hB1;refine Xk (v:=.int _ _) Z Kl Z Z Z hB1 Kc Ka (((E1.trans E2).trans E3).trans E4) ?_;rintro w5 E5 hB1 K1 hz1;have E7:=(E3.trans E4).wroteAt (((E1.trans E2).trans E3).trans E4) E5 K1 hz1 Ka;simp only [List.set] at hB1;have hB2':=(hB2'.ext (E3.trans E4)).of_heap (K1 _ Ka)
   refine Zn<|Zq<|Um Z<|Wo Z (Vq (v:=v) Z)<|Wo Z (Vq (v:=.int _ _) Z)<|Zr Z (Yg (a:=v) (b:=.int _ _) Js Z Z) (harr _ _ _ ((Mono.mono E5 h)) Kd) ?_;rintro u2 w6 ⟨E9,hO2⟩;refine Wo Z (Qg Z Z)<|Zr Z (Yg (a:=u2) (b:=.func _ _ _) Gs Z Z) (hcon _ _ _ _ ((E5.trans E9)) ((hB2'.ext E9)) ((hB1.ext E9)) ((Owned.read hO2))) ?_;rintro _ w7 ⟨rfl,E10⟩;refine Wo Z (Ni Z)<|Zn<|Xg Z (fun h2=>?_) (fun h2=>?_);refine Zq<|Um Z<|Wo Z (Xi (v:=.bool _) Z)<|Zn<|Zy ?_;refine Ve (v:=.bool _) Z ?_;refine ⟨congrArg Value.bool ?_,((E5.trans E9).trans E10)⟩;rotate_left;refine Zv<|Um Z<|Wo Z (Rw Z Z Ka) ?_;refine Wo Z (Vq (v:=.int _ _) Z)<|Zn ?_
   rotate_left;(exfalso;omega)
  ·have hz:((arr p b).any fun y=>S (arr p a)[k] y)=false:=by
    cases hq:(arr p b).any fun y=>S (arr p a)[k] y with
    | false=>rfl
    | true=>exact absurd (show (!((arr p b).any fun y=>S (arr p a)[k] y))=true by assumption) (by rw [hq];decide)
   have hm0:mch p S a b=false:=List.all_eq_false.2 ⟨_,hmm,by rw [hz];decide⟩
   rw [hm0];rfl
  ·have hz:((arr p b).any fun y=>S (arr p a)[k] y)=true:=by
    cases hq:(arr p b).any fun y=>S (arr p a)[k] y with
    | true=>rfl
    | false=>exact absurd (show (!((arr p b).any fun y=>S (arr p a)[k] y))=false by assumption) (by rw [hq];decide)
   refine ⟨(k+1),Kg,Kh,?_,?_⟩
   ·refine ⟨E7.trans (E9.trans E10),Ka,?_⟩
    rw [hts,List.all_append,hg,List.all_cons,hz];rfl
   ·omega
 ·obtain rfl:k=(arr p a).length:=by omega
  rw [List.take_length] at hg
  have hm1:mch p S a b=true:=hg
  rw [hm1,Bool.true_and]
  clear hg hm1 hk hkl
  focus
   have szE3:=E3.size;refine Zq<|Um Z<|Wo Z (opv_lss Z Z)<|Zn<|Zq<|Zt Z fun h1=>?_;refine Vw ?_;refine Vd ?_;refine Zq<|Zq<|Um Z<|Wo Z (Vq (v:=v) Z)<|Wo Z (Vq (v:=.int _ _) Z)<|Zr Z (Yg (a:=v) (b:=.int _ _) Js Z Z) (harr _ _ _ ((Mono.mono ((E1.trans E2).trans E3) h)) Kd) ?_;rintro u2 w4 ⟨E4,hO2⟩;have hs3:=E4.size;refine Wo Z (Rx Kn Z (Owned.read hO2))<|Wo Z (Vq (v:=.int _ _) Z)<|Zn<|Zw ?_
  refine Vy [8,12,32,33,34,35,36,37,38,39,40,41,42] (fun (k:Nat)=>[(32,.int .i64 (k:Nat))]) (fun k w'=>Ext w4 w'∧k≤(arr p b).length∧((arr p b).take k).all (fun y=>(arr p a).any fun x=>S x y)=true) (fun x=>(arr p b).length - x) 0 Kg ?_ ?_
  ·exact ⟨Ext.refl _,Nat.zero_le _,Ki⟩
  rintro k ρk w5 ⟨E5,hk,hg⟩
  by_cases hkl:k < (arr p b).length
  ·have hmm:=List.getElem_mem hkl
   have hga:=ints_get2 hkl
   have hts:=Yd _ _ hkl
   have hxl:=((Uo hp hb).1 hmm).1
   have hcon : ∀ (w1:World) (u:Value) (b3 b4:Nat),Ext w w1→Blk w1 b3 [.slice qa (matV p S).length qc]→Blk w1 b4 [.int .i64 ((ints (arr p b))[k]'Ka)]→Ints w1 u (ints (arr p a))→Does Tryz.prog 146 [u,.func (.func 222) [].toArray [.pointer (some ⟨b3,0,none⟩),.pointer (some ⟨b4,0,none⟩)].toArray] w1 (Ret w1 (.bool ((arr p a).any fun x=>S x (arr p b)[k]))):=by
    intro w1 u b3 b4 E0 hB3 hB4 hu
    rw [hga] at hB4
    have:=Qp w1 u _ hu 222 [.pointer (some ⟨b3,0,none⟩),.pointer (some ⟨b4,0,none⟩)] (fun x=>S x.toNat (arr p b)[k]) Tryz.call222 (fun y w' hy e=>by
     simp only [ints,List.mem_map] at hy
     obtain ⟨j,hj,rfl⟩:=hy
     exact hcl2 w' b3 b4 j _ (E0.trans e) (hB3.ext e) (hB4.ext e) ((Uo hp ha).1 hj).1 hxl)
    rw [ints_any2] at this
    exact this
   focus
    have szE5:=E5.size;refine Zq<|Um Z<|Wo Z (opv_lss Z Z)<|Zn<|Zq<|Zs Z (fun h2=>?_) (fun h2=>?_);refine Zv<|Zq<|Zw<|Zq<|Um Z<|Yb Kn Kl Km Z (fun _=>Z) Z (Owned.read hO2) E5 Z Kf ?_;rintro _ _ rfl;refine Tm Z Jg Z ?_;rintro b2 w6 hb2 E6 hB1;refine Xk (v:=.int _ _) Z Kl Z Z Z hB1 Kc Ka (((((E1.trans E2).trans E3).trans E4).trans E5).trans E6) ?_;rintro w7 E7 hB1 K1 hz1;have E11:=(E5.trans E6).wroteAt (((((E1.trans E2).trans E3).trans E4).trans E5).trans E6) E7 K1 hz1 Ka;simp only [List.set] at hB1;have hB2':=(hB2'.ext (((E3.trans E4).trans E5).trans E6)).of_heap (K1 _ Ka)
    refine Zn<|Zq<|Um Z<|Wo Z (Vq (v:=v) Z)<|Wo Z (Vq (v:=.int _ _) Z)<|Zr Z (Yg (a:=v) (b:=.int _ _) Js Z Z) (harr _ _ _ ((Mono.mono E7 h)) Kd) ?_;rintro u3 w8 ⟨E13,hO3⟩;refine Wo Z (Qg Z Z)<|Zr Z (Yg (a:=u3) (b:=.func _ _ _) Gs Z Z) (hcon _ _ _ _ ((E7.trans E13)) ((hB2'.ext E13)) ((hB1.ext E13)) ((Owned.read hO3))) ?_;rintro _ w9 ⟨rfl,E14⟩;refine Wo Z (Ni Z)<|Zn<|Xg Z (fun h3=>?_) (fun h3=>?_);refine Zq<|Um Z<|Wo Z (Xi (v:=.bool _) Z)<|Zn<|Zy ?_;refine Ve (v:=.bool _) Z ?_;refine ⟨congrArg Value.bool ?_,((E7.trans E13).trans E14)⟩;rotate_left;refine Zv<|Um Z<|Wo Z (Rw Z Z Ka) ?_;refine Wo Z (Vq (v:=.int _ _) Z)<|Zn ?_
    rotate_left;(exfalso;omega)
   ·have hz:((arr p a).any fun x=>S x (arr p b)[k])=false:=by
     cases hq:(arr p a).any fun x=>S x (arr p b)[k] with
     | false=>rfl
     | true=>exact absurd (show (!((arr p a).any fun x=>S x (arr p b)[k]))=true by assumption) (by rw [hq];decide)
    exact (List.all_eq_false.2 ⟨_,hmm,by rw [hz];decide⟩).symm
   ·have hz:((arr p a).any fun x=>S x (arr p b)[k])=true:=by
     cases hq:(arr p a).any fun x=>S x (arr p b)[k] with
     | true=>rfl
     | false=>exact absurd (show (!((arr p a).any fun x=>S x (arr p b)[k]))=false by assumption) (by rw [hq];decide)
    refine ⟨(k+1),Kg,Kh,?_,?_⟩
    ·refine ⟨E11.trans (E13.trans E14),Ka,?_⟩
     rw [hts,List.all_append,hg,List.all_cons,hz];rfl
    ·omega
  ·obtain rfl:k=(arr p b).length:=by omega
   rw [List.take_length] at hg
   focus
    refine Zq<|Um Z<|Wo Z (opv_lss Z Z)<|Zn<|Zq<|Zt Z fun h2=>?_;refine Vw ?_;refine Vd ?_;refine Zq<|Um Z<|Wo Z (Xi (v:=.bool _) Z)<|Zn<|Zy ?_;refine Ve (v:=.bool _) Z ?_;refine ⟨congrArg Value.bool ?_,((((E1.trans E2).trans E3).trans E4).trans E5)⟩
   exact hg.symm
theorem fill_skip {α : Type} (l:List α) (k:Nat) (h:k < l.length) (z : α) (hz:l[k]=z):l.take k++List.replicate (l.length - k) z=l.take (k+1)++List.replicate (l.length - (k+1)) z:=by
 rw [Yd _ _ h,hz,show l.length - k=(l.length - (k+1))+1 by omega,List.replicate_succ]
 simp
theorem Nw {α : Type} (l:List α) (n k:Nat) (hn:l.length=n) (h:k < n) (z x : α) (hx:l[k]? = some x):(l.take k++List.replicate (n - k) z).set k x=l.take (k+1)++List.replicate (n - (k+1)) z:=by
 subst hn
 have:=Ns l k h z
 rw [List.getElem?_eq_getElem h] at hx
 rw [← Option.some.inj hx];exact this
theorem fill_get {α : Type} (l:List α) (k:Nat) (h:k < l.length) (z : α):(l.take k++List.replicate (l.length - k) z)[k]? = some z:=by
 have hl:(l.take k).length=k:=by rw [List.length_take];omega
 rw [List.getElem?_append_right Ka,hl,Nat.sub_self,List.getElem?_replicate,if_pos Ka]
theorem leftAfter_ok (w:World) (v:Value) (p:List (List Int)) (h:ESl Ints w v p) (hp:Gr p) (n:Nat) (hn:n≤1000):Does Tryz.prog 177 [v,.int .i64 (n:Int)] w (RetO w XR (matV p (bsm p n))):=by
 have hp5:=hp.2.1
 have hem : ∀ w,Does Tryz.prog 183 [.int .i64 (p.length:Int)] w (RetO w XR (List.replicate p.length (List.replicate p.length 0))):=fun w=>Qw w p.length Ka
 refine Vh Tryz.func177 Z Tryz.results177 Tryz.ntmps177 Z ?_
 focus
  refine Zp<|Ys Z<|Zn<|Zp<|Vb v Z<|Vk Kp Z h<|Zr Z (Vx (a:=.int _ _) Gt Z) (hem _) ?_;rintro u1 w1 ⟨E1,hO1⟩;refine Yr u1 Z<|Zn<|Zq<|Zp<|Vb u1 Z<|Vk Kp Z (Owned.read hO1)<|Zu Z<|Zn<|Zw ?_
 have hL:(List.replicate p.length (List.replicate p.length (1:Int))).length=p.length:=Ki
 have hL2:(List.replicate p.length (List.replicate p.length (0:Int))).length=p.length:=Ki
 have hI:(List.replicate p.length (1:Int)).length=p.length:=Ki
 refine Vy [7,8,17,18,19,20,21,22,23,24,25,26,27,28,29,30] (fun (i,rows)=>[(17,.int .i64 (i:Nat))]) (fun (i,rows) w'=>Ext w w'∧i≤p.length∧Owned w.heap.size XR w' u1 rows∧rows=(List.replicate p.length (List.replicate p.length (1:Int))).take i++List.replicate (p.length - i) (List.replicate p.length 0)) (fun x=>p.length - x.1) (0,List.replicate p.length (List.replicate p.length 0)) Kg ?_ ?_
 ·exact ⟨E1,Nat.zero_le _,hO1,Ki⟩
 rintro ⟨i,rows⟩ ρj w2 ⟨E2,hi,hO2,hr⟩
 have hrl:rows.length=p.length:=by rw [hr];simp;omega
 by_cases hil:i < p.length
 ·have hri:rows[i]=List.replicate p.length (0:Int):=by
   have h9:rows[i]? = some (List.replicate p.length (0:Int)):=by
    rw [hr]
    have:=fill_get (List.replicate p.length (List.replicate p.length (1:Int))) i Ka (List.replicate p.length (0:Int))
    rw [hL] at this;exact this
   rw [List.getElem?_eq_getElem Ka] at h9
   exact Option.some.inj h9
  have hrll:rows[i].length=p.length:=by rw [hri];simp
  obtain ⟨ub,uc,rfl,_⟩:=hO2.lit Ka
  obtain ⟨brw,crw,hRow,hbw1,hbw2⟩:=hO2.rowAt (i:=i) Ka Ka
  focus
   refine Zp<|Vi Z<|Zn<|Zq<|Zs Z (fun h1=>?_) (fun h1=>?_);refine Zv<|Zq<|Zw<|Zp<|Nx Kp Kt Kz Z (fun _=>Z) Z ⟨_,_,Z⟩ Z hRow Kf ?_;rintro _;refine Ys Z<|Zn<|Zp<|Up Z<|Wo Z (Qf Kn Z)<|Zu Z<|Zn<|Zw ?_;rotate_left;(exfalso;omega)
  have hJ : ∀ j,j < p.length→(List.replicate p.length (1:Int))[j]? = some 1:=fun j hj=>by rw [List.getElem?_replicate,if_pos hj]
  refine Vy [8,23,24,25,26,27,28,29] (fun (j,rows')=>[(23,.int .i64 (j:Nat))]) (fun (j,rows') w'=>Ext w w'∧w2.heap.size≤w'.heap.size∧j≤p.length∧Owned w.heap.size XR w' (.slice (some ⟨ub,0,none⟩) rows.length uc) rows'∧RowAt w' (.slice (some ⟨ub,0,none⟩) rows.length uc) i brw rows[i].length crw∧rows'=rows.set i ((List.replicate p.length (1:Int)).take j++List.replicate (p.length - j) 0)) (fun x=>p.length - x.1) (0,rows) Kg ?_ ?_
  ·refine ⟨E2,Nat.le_refl _,Nat.zero_le _,hO2,hRow,?_⟩
   rw [show (List.replicate p.length (1:Int)).take 0++List.replicate (p.length - 0) 0=rows[i] by rw [hri];simp]
   simp
  rintro ⟨j,rows'⟩ ρk w3 ⟨E3,hs3,hj,hO3,hR3,hr3⟩
  have hrl3:rows'.length=p.length:=by rw [hr3];simp [hrl]
  have hri3:rows'[i]=(List.replicate p.length (1:Int)).take j++List.replicate (p.length - j) 0:=by
   simp only [hr3,List.getElem_set_self]
  have hrll3:rows'[i].length=p.length:=by rw [hri3];simp;omega
  clear hRow hO2
  by_cases hjl:j < p.length
  ·have hnew:rows'.set i (rows'[i].set j 1)=rows.set i ((List.replicate p.length (1:Int)).take (j+1)++List.replicate (p.length - (j+1)) 0):=by
    rw [hri3,Nw _ p.length j hI hjl 0 1 (hJ j hjl),hr3,List.set_set]
   focus
    refine Zp<|Vi Z<|Zn<|Zq<|Zs Z (fun h2=>?_) (fun h2=>?_);refine Zv<|Zq<|Zw<|Zp<|Zu Z<|Vg Z<|Zn<|Vf<|Up Z<|Zu Z<|Wo Z (Yv Kn Kl Z Z Ka) ?_;refine Tr Z Kl Z Z hO3.toB hR3 Kf Kf ?_;rintro w4 hO3 hR3 On1 K1 hz1;have E4:=On1.ext1 E3 Ka;refine Zn<|Vf<|Vr Z<|Zu Z<|Zn ?_;rotate_left;(exfalso;omega)
   refine ⟨((j+1,rows'.set i (rows'[i].set j 1))),Kg,Kh,?_,?_⟩
   ·exact ⟨Kd,Ka,Ka,hO3,hR3,hnew⟩
   ·simp only;omega
  ·obtain rfl:j=p.length:=by omega
   have hnew:rows'=(List.replicate p.length (List.replicate p.length (1:Int))).take (i+1)++List.replicate (p.length - (i+1)) (List.replicate p.length 0):=by
    rw [← Nw _ p.length i hL hil _ (List.replicate p.length (1:Int)) (by rw [List.getElem?_replicate,if_pos hil]),hr3,← hr]
    simp
   focus
    refine Zp<|Vi Z<|Zn<|Zq<|Zt Z fun h2=>?_;refine Vw ?_;refine Vd ?_;refine Vf<|Vr Z<|Zu Z<|Zn ?_
   refine ⟨((i+1,rows')),Kg,Kh,?_,?_⟩
   ·exact ⟨E3,Ka,hO3,hnew⟩
   ·simp only;omega
 ·obtain rfl:i=p.length:=by omega
  have hr0:rows=matV p (bsm p 0):=by rw [hr,← matV_zero];simp
  subst hr0
  focus
   refine Zp<|Vi Z<|Zn<|Zq<|Zt Z fun h1=>?_;refine Vw ?_;refine Vd ?_;refine Zq<|Zp<|Zu Z<|Zu Z<|Zn<|Zw ?_
  clear hL hI hr
  refine Vy [5,9,10,11,32,33,34,35,36,37,38,39,40,41,42,43,44,45,46,47,48,49,50,51,52,53,54,55,56,57,58,59,60,61,62,63,64,65,66,67,68,69,70,71] (fun (m,u)=>[(32,.int .i64 (m:Nat)),(5,u)]) (fun (m,u) w'=>Ext w w'∧m≤n∧Owned w.heap.size XR w' u (matV p (bsm p m))) (fun x=>n - x.1) (0,u1) Kg ?_ ?_
  ·exact ⟨E2,Nat.zero_le _,hO2⟩
  clear hO1 hO2
  rintro ⟨m,u⟩ ρm wm ⟨Em,hm,hOm⟩
  by_cases hmn:m < n
  ·have hZ:(List.replicate p.length (List.replicate p.length (0:Int))).length=p.length:=by simp
   have hT:=Qb (p:=p) (bsm p (m+1))
   have hTm:=Qb (p:=p) (bsm p m)
   focus
    have szEm:=Em.size;refine Zp<|Vi Z<|Zn<|Zq<|Zs Z (fun h2=>?_) (fun h2=>?_);refine Zv<|Zq<|Zw<|Zp<|Vb v Z<|Vk Kp Z h<|Zr Z (Vx (a:=.int _ _) Gt Z) (hem _) ?_;rintro u2 w3 ⟨E3,hO1⟩;refine Yr u2 Z<|Zn<|Zq<|Zq<|Vf<|Vb v Z<|Vk Kp Z h<|Zu Z<|Zn<|Zw ?_;rotate_left;(exfalso;omega)
   refine Vy [10,11,39,40,41,42,43,44,45,46,47,48,49,50,51,52,53,54,55,56,57,58,59,60,61,62,63,64,65,66,67,68,69] (fun (a,nx)=>[(39,.int .i64 (a:Nat))]) (fun (a,nx) w'=>Ext w w'∧wm.heap.size≤w'.heap.size∧a≤p.length∧OwnedB w.heap.size wm.heap.size XR w' u (matV p (bsm p m))∧Owned wm.heap.size XR w' u2 nx∧nx=(matV p (bsm p (m+1))).take a++List.replicate (p.length - a) (List.replicate p.length 0)) (fun x=>p.length - x.1) (0,List.replicate p.length (List.replicate p.length 0)) Kg ?_ ?_
   ·exact ⟨Em.trans E3,E3.size,Nat.zero_le _,hOm.toB.ext E3,hO1,Ki⟩
   rintro ⟨a,nx⟩ ρa wa ⟨Ea,hsa,ha,hBa,hOa,hna⟩
   have hnl:nx.length=p.length:=by rw [hna];simp [hT];omega
   by_cases hal:a < p.length
   ·have hra:nx[a]=List.replicate p.length (0:Int):=by
     have h9:nx[a]? = some (List.replicate p.length (0:Int)):=by
      rw [hna]
      have:=fill_get (matV p (bsm p (m+1))) a Ka (List.replicate p.length (0:Int))
      rw [hT] at this;exact this
     rw [List.getElem?_eq_getElem Ka] at h9
     exact Option.some.inj h9
    have hral:nx[a].length=p.length:=by rw [hra];simp
    obtain ⟨ub,uc,rfl,_⟩:=hOa.lit Ka
    obtain ⟨brw,crw,hRow,hbw1,hbw2⟩:=hOa.rowAt (i:=a) Ka Ka
    have hTa:=Qx (p:=p) (S:=bsm p (m+1)) hal
    have hma:=Qx (p:=p) (S:=bsm p m) hal
    focus
     refine Zp<|Vi Z<|Zn<|Zq<|Zs Z (fun h3=>?_) (fun h3=>?_);refine Zv<|Zq<|Zw<|Zp<|Zu Z<|Vg Z<|Zn<|Zp<|Vb v Z<|Vk Kp Z h<|Zu Z<|Zn<|Zw ?_;rotate_left;(exfalso;omega)
    refine Vy [11,44,45,46,47,48,49,50,51,52,53,54,55,56,57,58,59,60,61,62,63,64,65,66,67,68] (fun (b,nb)=>[(44,.int .i64 (b:Nat))]) (fun (b,nb) w'=>Ext w w'∧wa.heap.size≤w'.heap.size∧b≤p.length∧OwnedB w.heap.size wm.heap.size XR w' u (matV p (bsm p m))∧Owned wm.heap.size XR w' (.slice (some ⟨ub,0,none⟩) nx.length uc) nb∧RowAt w' (.slice (some ⟨ub,0,none⟩) nx.length uc) a brw nx[a].length crw∧nb=nx.set a (((matV p (bsm p (m+1)))[a]'Ka).take b++List.replicate (p.length - b) 0)) (fun x=>p.length - x.1) (0,nx) Kg ?_ ?_
    ·refine ⟨Ea,Nat.le_refl _,Nat.zero_le _,hBa,hOa,hRow,?_⟩
     rw [show ((matV p (bsm p (m+1)))[a]'Ka).take 0++List.replicate (p.length - 0) 0=nx[a] by rw [hra];simp]
     simp
    clear hBa hOa hRow hO1
    rintro ⟨b,nb⟩ ρb wb ⟨Eb,hsb,hb,hBb,hOb,hRb,hnb⟩
    have hbl:nb.length=p.length:=by rw [hnb];simp [hnl]
    have hrb:nb[a]=((matV p (bsm p (m+1)))[a]'Ka).take b++List.replicate (p.length - b) 0:=by
     simp only [hnb,List.getElem_set_self]
    have hrbl:nb[a].length=p.length:=by rw [hrb];simp [hTa];omega
    by_cases hbl2:b < p.length
    ·have hme:=Se (p:=p) (S:=bsm p m) hal hbl2
     have hTe:=Se (p:=p) (S:=bsm p (m+1)) hal hbl2
     have han : ∀ (w:World) (v v':Value),ESl Ints w v p→ESl Ints w v' (matV p (bsm p m))→Does Tryz.prog 204 [v,v',.int .i64 (a:Int),.int .i64 (b:Int)] w (Ret w (.bool (mch p (bsm p m) a b && mch p (bsm p m) b a))):=fun w v v' h1 h2=>by
      have:=answered_ok w v v' p h1 hp (bsm p m) h2 a b hal hbl2
      rw [← mch_flip (Mf m)] at this
      exact this
     have hset:bsm p (m+1) a b=true→nb.set a (nb[a].set b 1)=nx.set a (((matV p (bsm p (m+1)))[a]'Ka).take (b+1)++List.replicate (p.length - (b+1)) 0):=fun ht=>by
      rw [hrb,Nw _ p.length b hTa hbl2 0 1 (by rw [List.getElem?_eq_getElem Ka,hTe,ht];rfl)]
      exact (congrArg (fun l=>List.set l a _) hnb).trans (List.set_set ..)
     have hskip:bsm p (m+1) a b=false→nb=nx.set a (((matV p (bsm p (m+1)))[a]'Ka).take (b+1)++List.replicate (p.length - (b+1)) 0):=fun ht=>by
      have:=fill_skip ((matV p (bsm p (m+1)))[a]'Ka) b Ka (0:Int) (by rw [hTe,ht];rfl)
      simp only [hTa] at this
      exact hnb.trans (congrArg (fun r=>nx.set a r) this)
     have hdef:bsm p (m+1) a b=(bsm p m a b && (mch p (bsm p m) a b && mch p (bsm p m) b a)):=rfl
     focus
      have szEb:=Eb.size;have szEa:=Ea.size;have szE3:=E3.size;have szEm:=Em.size;have szE2:=E2.size;have szE1:=E1.size;refine Zp<|Vi Z<|Zn<|Zq<|Zs Z (fun h4=>?_) (fun h4=>?_);refine Zv<|Zq<|Zw<|Zp<|Zu Z<|Vg Z<|Zn<|Zp<|Vb u Z<|Zu Z<|Yb Kp Kt Kz Z (fun _=>Z) Z (OwnedB.read hBb) (Ext.refl _) Z Kf ?_;rintro _ u2 hu1;refine Zu Z<|Yb Kn Kl Km Z (fun _=>Z) Z hu1 (Ext.refl _) Z Kf ?_;rintro _ _ rfl;refine Vm Z<|Yf Z (fun h5=>?_) (fun h5=>?_)
      refine Vb v Z<|Vb u Z<|Zu Z<|Zu Z<|Zr Z (Qz (a:=v) (b:=u) (c:=.int _ _) (d:=.int _ _) Tryz.call204 Z Z Z Z) (han _ _ _ ((Mono.mono Eb h)) ((OwnedB.read hBb))) ?_;rintro _ w4 ⟨rfl,E4⟩;have hs3:=E4.size;refine Yq Z<|Zn<|Xg Z (fun h6=>?_) (fun h6=>?_);refine Vf<|Up Z<|Zu Z<|Nx Kp Kt Kz Z (fun _=>Z) Z ⟨_,_,Z⟩ Z (hRb.ext E4) Kf ?_;rintro _;refine Zu Z<|Wo Z (Yv Kn Kl Z Z Ka) ?_;refine Tr Z Kl Z Z (hOb.toB.ext E4) (hRb.ext E4) Kf Kf ?_;rintro w5 hOb hRb On1 K1 hz1;have E5:=On1.ext1 (Eb.trans E4) Ka;have hBb:=(hBb.ext E4).wrote K1 Ka
      refine Zn<|Vf<|Vr Z<|Zu Z<|Zn ?_;rotate_left;refine Zv<|Vf<|Vr Z<|Zu Z<|Zn ?_;rotate_left;refine Zo Z<|Zo Z<|Zo Z<|Zo Z<|Zo Z<|Vp Z<|Zn<|Zx Z ?_;refine Zv<|Vf<|Vr Z<|Zu Z<|Zn ?_;rotate_left;(exfalso;omega)
     ·have ht:bsm p (m+1) a b=true:=by
       rw [hdef,show bsm p m a b=true from b01_one.1 (hme.symm.trans Kd),show (mch p (bsm p m) a b && mch p (bsm p m) b a)=true by assumption];rfl
      refine ⟨((b+1,nb.set a (nb[a].set b 1))),Kg,Kh,?_,?_⟩
      ·exact ⟨Kd,Ka,Ka,hBb,hOb,hRb,hset ht⟩
      ·simp only;omega
     ·have ht:bsm p (m+1) a b=false:=by
       rw [hdef,show (mch p (bsm p m) a b && mch p (bsm p m) b a)=false by assumption,Bool.and_false]
      refine ⟨((b+1,nb)),Kg,Kh,?_,?_⟩
      ·exact ⟨Eb.trans E4,Ka,Ka,hBb.ext E4,hOb.ext E4,hRb.ext E4,hskip ht⟩
      ·simp only;omega
     ·have ht:bsm p (m+1) a b=false:=by
       rw [hdef]
       cases hs:bsm p m a b with
       | false=>rfl
       | true=>rw [hs] at hme;exact absurd hme Kd
      refine ⟨((b+1,nb)),Kg,Kh,?_,?_⟩
      ·exact ⟨Eb,Ka,Ka,hBb,hOb,hRb,hskip ht⟩
      ·simp only;omega
    ·obtain rfl:b=p.length:=by omega
     have hnew:nb=(matV p (bsm p (m+1))).take (a+1)++List.replicate (p.length - (a+1)) (List.replicate p.length 0):=by
      have hrow:((matV p (bsm p (m+1)))[a]'Ka).take p.length++List.replicate (p.length - p.length) 0=(matV p (bsm p (m+1)))[a]'Ka:=by rw [List.take_of_length_le Ka];simp
      have hsf:=Nw _ p.length a hT hal (List.replicate p.length (0:Int)) ((matV p (bsm p (m+1)))[a]'Ka) (by rw [List.getElem?_eq_getElem Ka])
      exact (hnb.trans ((congrArg (fun r=>nx.set a r) hrow).trans (congrArg (fun l=>List.set l a _) hna))).trans hsf
     focus
      refine Zp<|Vi Z<|Zn<|Zq<|Zt Z fun h4=>?_;refine Vw ?_;refine Vd ?_;refine Vf<|Vr Z<|Zu Z<|Zn ?_
     refine ⟨((a+1,nb)),Kg,Kh,?_,?_⟩
     ·exact ⟨Eb,Ka,Ka,hBb,hOb,hnew⟩
     ·simp only;omega
   ·obtain rfl:a=p.length:=by omega
    have hnx:nx=matV p (bsm p (m+1)):=by rw [hna,← hT];simp
    subst hnx
    focus
     have szEm:=Em.size;refine Zp<|Vi Z<|Zn<|Zq<|Zt Z fun h3=>?_;refine Vw ?_;refine Vd ?_;refine Vf<|Vb u2 Z<|Yr u2 Z<|Zn<|Vf<|Vr Z<|Zu Z<|Zn ?_
    refine ⟨((m+1,u2)),Kg,Kh,?_,?_⟩
    ·exact ⟨Ea,Ka,hOa.mono Ka⟩
    ·simp only;omega
  ·obtain rfl:m=n:=by omega
   focus
    refine Zp<|Vi Z<|Zn<|Zq<|Zt Z fun h2=>?_;refine Vw ?_;refine Vd ?_;refine Zp<|Vb u Z<|Yr u Z<|Zn<|Zy ?_;exact ⟨Em,hOm.toB.o.mono Ka⟩
end Go.Proofs.YtbgpppaljpngmaaGreatDoor
set_option linter.unusedVariables false
set_option linter.unusedSimpArgs false
namespace Go.Hs
def setMany (r:List Int) (o:Nat):List Int→List Int
 | []=>r
 | x::xs=>setMany (r.set o x) (o+1) xs
theorem setMany_eq : ∀ (xs:List Int) (r:List Int) (o:Nat),o+xs.length≤r.length→setMany r o xs=r.take o++xs++r.drop (o+xs.length)
 | [],r,o,_=>by simp [setMany]
 | x :: xs, r, o, h => by
   simp only [List.length_cons] at h
   unfold setMany
   rw [setMany_eq xs _ _ (by simp; omega)]
   have ho : o < r.length := Ka
   have h1 : (r.set o x).take (o + 1) = r.take o ++ [x] := by
     rw [List.take_succ_eq_append_getElem (by simpa using ho), List.getElem_set_self, List.take_set_of_le (Nat.le_refl _)]
   have h2 : (r.set o x).drop (o + 1 + xs.length) = r.drop (o + (x :: xs).length) := by
     rw [List.drop_set_of_lt Ka]
     congr 1
     simp only [List.length_cons]; omega
   rw [h1, h2]
   simp
section
variable {P:Program} {lo br m cr i o:Nat} {v:Value} {e e2:TypeId}
theorem store_row : ∀ (xs:List Int) (i0:Nat) (w:World) (p:List (List Int)) (hi:i < p.length),Owned lo (XSl e (XSl e2 XInt)) w v p→RowAt w v i br m cr→o+i0+xs.length≤p[i].length →
  ∃ w',(storeCells ⟨br,o,none⟩ (xs.map (Value.int .i64)) i0).run P w=.ok () w'∧Owned lo (XSl e (XSl e2 XInt)) w' v (p.set i (setMany p[i] (o+i0) xs))∧RowAt w' v i br m cr∧Only [br] w w'∧(∀ k,k≠br→w'.heap[k]? = w.heap[k]?)∧w'.heap.size=w.heap.size
 | [], i0, w, p, hi, h, hR, _ => by
   refine ⟨w, by simp [storeCells], ?_, hR, Only.refl, fun _ _ => Z, Z⟩
   rw [show p.set i (setMany p[i] (o + i0) []) = p by simp [setMany]]
   exact h
 | x :: xs, i0, w, p, hi, h, hR, hl => by
   simp only [List.length_cons] at hl
   obtain ⟨h1, hlo, u, hc, hf⟩ := h.setRow (q := x) (j := o + i0) hi hR Ka
   have hR1 : RowAt (w.setCell ⟨br, o + i0, none⟩ (.int .i64 x)) v i br m cr := hR.of_heap fun k hk => Xd _ hk
   have hil : i < (p.set i (p[i].set (o + i0) x)).length := by rw [List.length_set]; exact hi
   have hrl : (p.set i (p[i].set (o + i0) x))[i] = p[i].set (o + i0) x := by rw [List.getElem_set_self]
   obtain ⟨w', k1, k2, k3, k4, k5, k6⟩ := store_row xs (i0 + 1) _ _ hil h1 hR1 (by rw [hrl, List.length_set]; omega)
   refine ⟨w', ?_, ?_, k3, (Only.setCell Ki).trans k4, fun k hk => (k5 k hk).trans (Xd _ hk), k6.trans (size_setCell _ _)⟩
   · have k0 := Qv (P := P) (w := w) (ad := ⟨br, o + i0, none⟩) (v := .int .i64 x) rfl hc hf
     have ea : (⟨br, o, none⟩ : Addr).add i0 = ⟨br, o + i0, none⟩ := add_mk br o i0
     simp [storeCells, ea, k0, k1]
   · rw [hrl, List.set_set] at k2
     exact k2
theorem load_ints {w:World} {b o:Nat} : ∀ (xs:List Int) (i0:Nat) (acc:Array Value),(∀ j (h:j < xs.length),w.cell? ⟨b,o+(i0+j),none⟩=some (.int .i64 xs[j])) →
  (loadCellsFrom ⟨b,o,none⟩ i0 xs.length acc).run P w=.ok (acc++(xs.map (Value.int .i64)).toArray) w
 | [],i0,acc,_=>by simp [loadCellsFrom]
 | x :: xs, i0, acc, h => by
   have h0 := h 0 Ki
   have ea : (⟨b, o, none⟩ : Addr).add i0 = ⟨b, o + i0, none⟩ := add_mk b o i0
   have ih := load_ints xs (i0 + 1) (acc.push (.int .i64 x)) fun j hj => by
     have := h (j + 1) (by simpa using hj)
     rw [show i0 + 1 + j = i0 + (j + 1) by omega]
     simpa using this
   simp only [Nat.add_zero, List.getElem_cons_zero] at h0
   simp [loadCellsFrom, ea, h0, ih]
end
section
variable {P:Program} {n:Nat} {N:Env→World→Prop} {ρ : Env} {w w0:World} {all:Array Oper} {rest:List Oper} {d:Nat} {ty t t2 el e e2:TypeId} {pos:String} {after:Array Edge} {g:Option (Nat × Bool)} {x y:Operand} {v u:Value} {lo hi' br m cr i o dl dc:Nat} {xs:List Int} {p:List (List Int)}
theorem Wo_cpy (hw:wantedE all ⟨some d,.call { callee:=.builtin .copy,args:=#[x,y],argTypes:=#[t,t2] },ty,pos,after,g⟩ ρ = true) (ht:P.underlying t=some (.slice el)) (hs : ∀ w,(sizeOf el).run P w=.ok 1 w)
  (hx:evalE ρ x=.slice (some ⟨br,o,none⟩) dl dc) (hy:evalE ρ y=u) (hI:Ints w u xs) (h:OwnedB lo hi' (XSl e (XSl e2 XInt)) w v p) (hR:RowAt w v i br m cr) (hi:i < p.length) (hj:o+xs.length≤p[i].length) (hdl:xs.length≤dl)
  (hk : ∀ w1,Owned lo (XSl e (XSl e2 XInt)) w1 v (p.set i (setMany p[i] o xs))→RowAt w1 v i br m cr→Only [br] w w1→(∀ k,k≠br→w1.heap[k]? = w.heap[k]?)→w1.heap.size=w.heap.size→Wops P n all rest N (upd ρ d (.int .i64 (xs.length:Int))) w1) :
  Wops P n all (⟨some d,.call { callee:=.builtin .copy,args:=#[x,y],argTypes:=#[t,t2] },ty,pos,after,g⟩::rest) N ρ w:=by
 obtain ⟨a,c,rfl,h1,h2⟩:=hI
 obtain ⟨w',k1,k2,k3,k4,k5,k6⟩:=store_row (P:=P) (o:=o) xs 0 w p hi h.o hR Ka
 refine Nd (w':=w') hw ?_ (hk w' k2 k3 k4 k5 k6)
 have hmin:Nat.min xs.length dl=xs.length:=Nat.min_eq_left hdl
 have hl:(Builtin.copy_ #[t,t2] ty #[.slice (some ⟨br,o,none⟩) dl dc,.slice a xs.length c]).run P w=.ok (.int .i64 (xs.length:Int)) w':=by
  rcases h2 with rfl | ⟨b,o',rfl,hc⟩
  ·simp only [List.map_nil] at k1
   cases a with
   | none=>simp [Builtin.copy_,Builtin.lenOf,Builtin.firstCells,Ug ht,hs,k1,goInt]
   | some a=>simp [Builtin.copy_,Builtin.lenOf,Builtin.firstCells,Ug ht,hs,k1,goInt,loadCells,loadCellsFrom]
  ·have hld:=load_ints (P:=P) (w:=w) (b:=b) (o:=o') xs 0 #[] fun j hj=>by
    obtain ⟨u,h3,h4⟩:=hc j hj
    rw [Nat.zero_add,h3,h4]
   simp [Builtin.copy_,Builtin.lenOf,Builtin.firstCells,Ug ht,hs,hmin,loadCells,hld,k1,goInt]
 simp [execOp,resolve,invoke,builtin,hx,hy,hl]
end
section
variable {P:Program} {op:Op} {ty:TypeId} {ρ : Env} {w:World} {b:Bool}
end
theorem Blk.movesOff {w w':World} {v v':Value} {b:Nat} {cs:List Value} (h:Blk w b cs) (M:Moves w v w' v') (hv:v.ownBlock≠some b):Blk w' b cs :=
 h.of_heap (M.1.block b h.lt fun e=>hv e.symm)
def RetOB {α : Type} (w:World) (X:World→List Nat→Value→α→Prop) (x : α) (b:Bool):Value→World→Prop:=fun v w'=>∃ u,v=.tuple #[u,.bool b]∧Ext w w'∧Owned w.heap.size X w' u x
end Go.Hs
namespace Go.Proofs.YtbgpppaljpngmaaGreatDoor
open Go.Hs
set_option maxRecDepth 10000
set_option maxHeartbeats 4000000
set_option linter.unusedVariables false
set_option linter.unusedSimpArgs false
def besQ (p q:List (List Int)) (i:Nat):List (List Int):=(bes p q).take i++List.replicate (p.length+q.length - i) (List.replicate (p.length+q.length) 0)
theorem besQ_len {p q:List (List Int)} {i:Nat} (hi:i≤p.length+q.length):(besQ p q i).length=p.length+q.length:=by
 unfold besQ
 rw [List.length_append,List.length_take,bes_len,List.length_replicate]
 omega
theorem besQ_at {p q:List (List Int)} {i:Nat} (hi:i < p.length+q.length):(besQ p q i)[i]'(by rw [besQ_len Ka];exact hi)=List.replicate (p.length+q.length) 0:=by
 have hl:((bes p q).take i).length=i:=by rw [List.length_take,bes_len];omega
 unfold besQ
 rw [List.getElem_append_right Ka]
 simp
theorem besQ_set {p q:List (List Int)} {i:Nat} (hi:i < p.length+q.length) (r:List Int) (hr:(bes p q)[i]'(by rw [bes_len];exact hi)=r):(besQ p q i).set i r=besQ p q (i+1):=by
 have:=Nw (bes p q) (p.length+q.length) i bes_len hi (List.replicate (p.length+q.length) 0) r (by rw [List.getElem?_eq_getElem (by rw [bes_len];exact hi),hr])
 exact this
theorem bes_row1 {p q:List (List Int)} {i:Nat} (hp:Gr p) (hi:i < p.length):(bes p q)[i]'(by rw [bes_len];omega)=setMany (List.replicate (p.length+q.length) 0) 0 p[i]:=by
 have hl:=hp.row hi
 rw [bes_fst hi,setMany_eq _ _ _ (by simp;omega)]
 simp only [List.take_zero,List.nil_append,Nat.zero_add,List.drop_replicate]
 rw [hl,Nat.add_sub_cancel_left]
theorem bes_row2 {p q:List (List Int)} {i:Nat} (hq:Gr q) (hi:i < q.length):(bes p q)[p.length+i]'(by rw [bes_len];omega)=setMany (List.replicate (p.length+q.length) 0) p.length q[i]:=by
 have hl:=hq.row hi
 rw [bes_snd hi,setMany_eq _ _ _ (by simp;omega)]
 rw [List.take_replicate,List.drop_replicate,hl,Nat.min_eq_left Ka,Nat.sub_self]
 simp
theorem beside_gr (w:World) (v u:Value) (p q:List (List Int)) (h:ESl Ints w v p) (h':ESl Ints w u q) (hp:Gr p) (hq:Gr q) (hs:p.length+q.length≤11):Does Tryz.prog 180 [v,u] w (RetO w XR (bes p q)):=by
 have hp1:=hp.1
 have hq1:=hq.1
 have hle:=h.le
 have hle':=h'.le
 have hem : ∀ (z:Int),z=((p.length+q.length:Nat):Int)→∀ w,Does Tryz.prog 183 [.int .i64 z] w (RetO w XR (besQ p q 0)):=fun z e w=>by
  subst e
  exact Qw w _ Ka
 refine Vh Tryz.func180 Z Tryz.results180 Tryz.ntmps180 Z ?_
 have hl0:=besQ_len (p:=p) (q:=q) (i:=0) Ka
 have stop2:True:=trivial
 focus
  refine Zp<|Ys Z<|Zn<|Zp<|Vb v Z<|Vk Kp Z h<|Vb u Z<|Vk Kp Z h'<|Vr Z<|Zr Z (Vx (a:=.int _ _) Gt Z) (hem _ Ka _) ?_;rintro u1 w1 ⟨E1,hO1⟩;refine Yr u1 Z<|Zn<|Zq<|Zq ?_
 clear stop2
 obtain ⟨ub,uc,rfl,_⟩:=hO1.lit Ka
 focus
  refine Vf<|Vb v Z<|Vk Kp Z h<|Zu Z<|Zn<|Zw ?_
 refine Vy [6,7,18,19,20,21,22,23,24,25,26,27,28,29] (fun (i:Nat)=>[(18,.int .i64 (i:Int))]) (fun i w'=>Ext w w'∧i≤p.length∧Owned w.heap.size XR w' (.slice (some ⟨ub,0,none⟩) (besQ p q 0).length uc) (besQ p q i)) (fun x=>p.length - x) 0 Kg ?_ ?_
 ·exact ⟨Kd,Nat.zero_le _,hO1⟩
 clear hO1
 rintro i ρj w2 ⟨E2,hi,hO1⟩
 by_cases hil:i < p.length
 ·have hli:=besQ_len (p:=p) (q:=q) (i:=i) Ka
  have hat:=besQ_at (p:=p) (q:=q) (i:=i) Ka
  have hrl:(besQ p q i)[i].length=p.length+q.length:=by rw [hat];simp
  have hpr:=hp.row hil
  obtain ⟨br,cr,hR,_,_⟩:=hO1.rowAt (i:=i) Ka Ka
  focus
   refine Zp<|Vi Z<|Zn<|Zq<|Zs Z (fun h1=>?_) (fun h1=>?_);refine Zv<|Zq<|Zw<|Zp<|Zu Z<|Yb Kp Kt Kz Z (fun _=>Z) Z h E2 Z Kf ?_;rintro _ u1 hu1;refine Vg Z<|Yr u1 Z<|Zn<|Vf<|Up Z<|Zu Z<|Nx Kp Kt Kz Z (fun _=>Z) Z ⟨_,_,Z⟩ Z hR Kf ?_;rintro _;refine Vb u1 Z<|Wo_cpy Z Kn Kl Z Z (Mono.mono E2 hu1) hO1.toB hR Kf Kf Kf ?_;rintro w3 hO1 hR On1 K1 hz1;have E3:=On1.ext1 E2 Ka;refine Zn<|Vf<|Vr Z<|Zu Z<|Zn ?_;rotate_left;(exfalso;omega)
  refine ⟨i+1,Kg,Kh,⟨Kd,Ka,(congrArg (Owned _ _ _ _) ?_).mp hO1⟩,Ka⟩
  refine besQ_set Ka _ ?_
  rw [bes_row1 hp hil,hat]
 ·obtain rfl:i=p.length:=by omega
  focus
   refine Zp<|Vi Z<|Zn<|Zq<|Zt Z fun h1=>?_;refine Vw ?_;refine Vd ?_;refine Zq<|Zp<|Vb u Z<|Vk Kp Z h'<|Zu Z<|Zn<|Zw ?_
  refine Vy [8,9,32,33,34,35,36,37,38,39,40,41,42,43,44,45,46,47,48,49] (fun (i:Nat)=>[(32,.int .i64 (i:Int))]) (fun i w'=>Ext w w'∧i≤q.length∧Owned w.heap.size XR w' (.slice (some ⟨ub,0,none⟩) (besQ p q 0).length uc) (besQ p q (p.length+i))) (fun x=>q.length - x) 0 Kg ?_ ?_
  ·exact ⟨Kd,Nat.zero_le _,hO1⟩
  clear hO1
  rintro i ρk w3 ⟨E3,hi,hO1⟩
  by_cases hil:i < q.length
  ·have hli:=besQ_len (p:=p) (q:=q) (i:=p.length+i) Ka
   have hat:=besQ_at (p:=p) (q:=q) (i:=p.length+i) Ka
   have hrl:(besQ p q (p.length+i))[p.length+i].length=p.length+q.length:=by rw [hat];simp
   have hqr:=hq.row hil
   obtain ⟨br,cr,hR,_,_⟩:=hO1.rowAt (i:=p.length+i) Ka Ka
   obtain ⟨_,hRO⟩:=hO1.toB.rowOwn hR Ka
   obtain ⟨_,_,_,e,hcap⟩:=hRO.capOk
   cases e
   clear hRO
   focus
    refine Zp<|Vi Z<|Zn<|Zq<|Zs Z (fun h2=>?_) (fun h2=>?_);refine Zv<|Zq<|Zw<|Zp<|Zu Z<|Yb Kp Kt Kz Z (fun _=>Z) Z h' E3 Z Kf ?_;rintro _ u1 hu1;refine Vg Z<|Yr u1 Z<|Zn<|Vf<|Up Z<|Vb v Z<|Vk Kp Z h<|Zu Z<|Vr Z<|Nx Kp Kt Kz Z (fun _=>Z) Z ⟨_,_,Z⟩ Z hR Kf ?_;rintro _;refine Vb v Z<|Vk Kp Z h<|Wo Z (Rm Kn Kl Z Z Ka) ?_
    refine Vb u1 Z<|Wo_cpy Z Kn Kl Z Z (Mono.mono E3 hu1) hO1.toB hR Kf Kf Kf ?_;rintro w4 hO1 hR On1 K1 hz1;have E4:=On1.ext1 E3 Ka;refine Zn<|Vf<|Vr Z<|Zu Z<|Zn ?_;rotate_left;(exfalso;omega)
   refine ⟨i+1,Kg,Kh,⟨Kd,Ka,(congrArg (Owned _ _ _ _) ?_).mp hO1⟩,Ka⟩
   refine besQ_set Ka _ ?_
   rw [bes_row2 hq hil,hat,Nat.zero_add,Int.toNat_natCast]
  ·obtain rfl:i=q.length:=by omega
   focus
    refine Zp<|Vi Z<|Zn<|Zq<|Zt Z fun h2=>?_;refine Vw ?_;refine Vd ?_;refine Zp<|Up Z<|Ys Z<|Zn<|Zy ?_;refine ⟨E3,(congrArg (Owned _ _ _ _) ?_).mp (hO1.toB.o.mono Ka)⟩
   have:=bes_len (p:=p) (q:=q)
   unfold besQ
   rw [List.take_of_length_le Ka,Nat.sub_self]
   simp
theorem beside_ok (w:World) (v u:Value) (p q:List (List Int)) (h:ESl Ints w v p) (h':ESl Ints w u q) (hp:Pic p) (hq:Pic q):Does Tryz.prog 180 [v,u] w (RetO w XR (bes p q)):=by
 have hp5:=hp.2.1
 have hq5:=hq.2.1
 exact beside_gr w v u p q h h' hp.gr hq.gr Ka
open Classical in
theorem sameSet_ok (w:World) (v u:Value) (p q:List (List Int)) (h:ESl Ints w v p) (h':ESl Ints w u q) (hp:Pic p) (hq:Pic q) (a b:Int) (ha:0≤a∧a < p.length) (hb:0≤b∧b < q.length):Does Tryz.prog 148 [v,.int .i64 a,u,.int .i64 b] w (Ret w (.bool (decide (Bis p a.toNat q b.toNat)))):=by
 have hp5:=hp.2.1
 have hq5:=hq.2.1
 have hB:=hp.bes5 hq
 have hbl:=bes_len (p:=p) (q:=q)
 have k1 : ∀ (w:World) (v u:Value),ESl Ints w v p→ESl Ints w u q→Does Tryz.prog 180 [v,u] w (RetO w XR (bes p q)):=fun w v u h h'=>beside_ok w v u p q h h' hp hq
 have k2 : ∀ (w:World) (v:Value),ESl Ints w v (bes p q)→Does Tryz.prog 177 [v,.int .i64 ((bes p q).length:Int)] w (RetO w XR (matV (bes p q) (bsm (bes p q) (bes p q).length))):=fun w v h=>leftAfter_ok w v _ h hB.1 _ Ka
 have hml:=Qb (p:=bes p q) (bsm (bes p q) (bes p q).length)
 have hmr:=Qx (p:=bes p q) (S:=bsm (bes p q) (bes p q).length) (a:=a.toNat) Ka
 have hma:=Se (p:=bes p q) (S:=bsm (bes p q) (bes p q).length) (a:=a.toNat) (b:=p.length+b.toNat) Ka Ka
 have he:=bes_eqv hp.gr hq.gr (a:=a.toNat) (b:=b.toNat) Ka Ka Ka
 refine Vh Tryz.func148 Z Tryz.results148 Tryz.ntmps148 Z ?_
 focus
  refine Zp<|Zz Z<|Zn<|Zp<|Vb v Z<|Vb u Z<|Zr Z (Yg (a:=v) (b:=u) Tryz.call180 Z Z) (k1 _ _ _ (h) (h')) ?_;rintro u1 w1 ⟨E1,hO1⟩;refine Yr u1 Z<|Zn<|Zq<|Vf<|Vb u1 Z<|Vb u1 Z<|Vk Kp Z (Owned.read hO1)<|Zr Z (Yg (a:=u1) (b:=.int _ _) Tryz.call177 Z Z) (k2 _ _ ((Owned.read hO1))) ?_;rintro u2 w2 ⟨E2,hO2⟩;refine Zu Z<|Qr Kp Kt Kz Z (fun _=>Z) Z (Owned.read hO2) (Ext.refl _) Z Kf ?_;rintro _ u3 hu1;refine Vb v Z<|Vk Kp Z h<|Zu Z<|Vr Z<|Qr Kn Kl Km Z (fun _=>Z) Z hu1 (Ext.refl _) Z Kf ?_;rintro _ _ rfl;refine Vm Z<|Zz Z<|Zn<|Zy ?_
  refine Ve (v:=.bool _) Z ?_;refine ⟨congrArg Value.bool ?_,exq⟩
 rw [decide_eq_decide,← he]
 have e:((p.length:Int)+b).toNat=p.length+b.toNat:=Ka
 simp only [e,hma,b01_one]
 rfl
open Classical in
noncomputable def ssetV (p:List (List Int)) (a:Int) (q:List (List Int)) (b:Int):Bool:=decide (Nod p a∧Nod q b∧Bis p a.toNat q b.toNat)
theorem Md {w:World} {ub n uc i br m cr:Nat} (h:RowAt w (.slice (some ⟨ub,0,none⟩) n uc) i br m cr):w.cell? ⟨ub,0+i,none⟩=some (.slice (some ⟨br,0,none⟩) m cr):=by
 obtain ⟨b,m',c,e,h4,h5⟩:=h
 cases e
 rw [Nat.zero_add];exact h5
end Go.Proofs.YtbgpppaljpngmaaGreatDoor
set_option linter.unusedVariables false
set_option linter.unusedSimpArgs false
namespace Go.Hs
section
variable {p:List (List Int)} {a k n:Nat} {L:List Nat}
noncomputable def kndL (p:List (List Int)):List Nat:=(List.range p.length).map (knd p)
theorem kndL_len:(kndL p).length=p.length:=by simp [kndL]
theorem kndL_at (h:k < (kndL p).length):(kndL p)[k]=knd p k:=by simp [kndL]
theorem Sy:(ints (kndL p)).length=p.length:=by rw [Yy,kndL_len]
theorem Re (h:k < (ints (kndL p)).length):(ints (kndL p))[k]=(knd p k:Int):=by
 rw [Yy] at h
 rw [Xz h,kndL_at]
theorem Nz (h:k < p.length):(ints (kndL p)).getD k 0=(knd p k:Int):=by
 rw [Ya (by rw [Sy];exact h),Re]
theorem first_knd (ha:a < p.length) {z:Int} (h:(z = -1∧(1:Int) ∉ (matV p (bsm p p.length))[a]'(by rw [Qb];exact ha)) ∨
  ∃ (j:Nat) (hj:j < ((matV p (bsm p p.length))[a]'(by rw [Qb];exact ha)).length),z=j∧((matV p (bsm p p.length))[a]'(by rw [Qb];exact ha))[j]=1∧(1:Int) ∉ ((matV p (bsm p p.length))[a]'(by rw [Qb];exact ha)).take j):z=(knd p a:Int):=by
 obtain ⟨h1,h2,h3⟩:=Tl ha
 have hm:=Qx (p:=p) (S:=bsm p p.length) ha
 have hk:((matV p (bsm p p.length))[a]'(by rw [Qb];exact ha))[knd p a]'(by rw [hm];exact h1)=1:=by
  rw [Se ha h1];exact b01_one.2 h2
 rcases h with ⟨_,h4⟩ | ⟨j,hj,rfl,h4,h5⟩
 ·exact absurd (hk ▸ List.getElem_mem _) h4
 ·rw [hm] at hj
  rw [Se ha hj] at h4
  have h6:eqv p a j=true:=b01_one.1 h4
  rcases Nat.lt_trichotomy j (knd p a) with h7 | h7 | h7
  ·rw [h3 j h7] at h6;cases h6
  ·rw [h7]
  ·exact absurd (List.mem_iff_getElem.2 ⟨knd p a,by rw [List.length_take,hm];omega,by rw [List.getElem_take];exact hk⟩) h5
def ptF (p:List (List Int)) (K:List Int) (x y:Int) (j:Nat):Bool:=decide ((p.getD x.toNat []).getD j 0=1) && decide (K.getD j 0=K.getD y.toNat 0)
def ptV (p:List (List Int)) (K L:List Int):List (List Int):=L.map fun x=>L.map fun y=>b01 ((List.range p.length).any (ptF p K x y))
theorem ptV_len {K L:List Int} : (ptV p K L).length=L.length:=by simp [ptV]
theorem pt_any (hp:Gr p) {x y:Nat} (hx:x < p.length) (hy:y < p.length):(List.range p.length).any (ptF p (ints (kndL p)) (x:Int) (y:Int))=(arr p (knd p x)).any fun j=>decide (knd p j=knd p y):=by
 rw [Bool.eq_iff_iff,List.any_eq_true,List.any_eq_true]
 have hkx:=Mi hx
 have hb:=Th hp hx
 constructor
 ·rintro ⟨j,hj,h⟩
  rw [List.mem_range] at hj
  simp only [ptF,Int.toNat_natCast,Bool.and_eq_true,decide_eq_true_eq,Nz hj,Nz hy] at h
  have hm:j ∈ arr p x:=(Uo hp hx).2 ⟨hj,h.1⟩
  obtain ⟨j',hj',hb'⟩:=hb.fst j hm
  refine ⟨j',hj',?_⟩
  rw [decide_eq_true_eq,← (Rr hp hj (Xy hp hkx hj')).2 hb']
  have:=h.2;omega
 ·rintro ⟨j',hj',h⟩
  rw [decide_eq_true_eq] at h
  obtain ⟨j,hj,hb'⟩:=hb.snd j' hj'
  have hjl:=Xy hp hx hj
  refine ⟨j,List.mem_range.2 hjl,?_⟩
  simp only [ptF,Int.toNat_natCast,Bool.and_eq_true,decide_eq_true_eq,Nz hjl,Nz hy]
  refine ⟨((Uo hp hx).1 hj).2,?_⟩
  rw [(Rr hp hjl (Xy hp hkx hj')).2 hb',h]
theorem ptV_qp (hp:Gr p) (hL : ∀ x ∈ L,x < p.length):ptV p (ints (kndL p)) (ints L)=qp p (L.map (knd p)):=by
 unfold ptV qp ints
 simp only [List.map_map]
 refine List.map_congr_left fun x hx=>?_
 simp only [Function.comp_def]
 refine List.map_congr_left fun y hy=>?_
 have:=pt_any hp (hL x hx) (hL y hy)
 unfold ints at this
 rw [this]
structure Fnd (p:List (List Int)) (a k:Nat) (L:List Nat):Prop where
 nd:(L.map (knd p)).Nodup
 hd:(L.map (knd p)).head? = some (knd p a)
 rc : ∀ x ∈ L,Rch p a x
 al : ∀ j (h:j < (rf p a).length),j < k→knd p (rf p a)[j] ∈ L.map (knd p)
theorem Fnd.zero' {r:Nat} (hr:Rch p a r) (hk:knd p r=knd p a):Fnd p a 0 [r]:=⟨Ki,by simp [hk],fun x hx=>by rw [List.mem_singleton.1 hx];exact hr,fun j h h2=>Ka⟩
theorem Fnd.zero:Fnd p a 0 [a]:=Fnd.zero' (.refl a) rfl
theorem Fnd.skip (h:Fnd p a k L) (hk:k < (rf p a).length) (hm:knd p (rf p a)[k] ∈ L.map (knd p)):Fnd p a (k+1) L:=⟨h.nd,h.hd,h.rc,fun j hj h2=>by
 rcases Nat.lt_or_ge j k with h3 | h3
 ·exact h.al j hj h3
 ·obtain rfl:j=k:=by omega
  exact hm⟩
theorem Fnd.step (hp:Gr p) (ha:a < p.length) (h:Fnd p a k L) (hk:k < (rf p a).length) (hm:knd p (rf p a)[k] ∉ L.map (knd p)):Fnd p a (k+1) (L++[(rf p a)[k]]):=by
 refine ⟨?_,?_,fun x hx=>?_,fun j hj h2=>?_⟩
 ·rw [List.map_append,List.nodup_append]
  refine ⟨h.nd,Ki,fun x hx y hy e=>?_⟩
  simp only [List.map_cons,List.map_nil,List.mem_singleton] at hy
  subst hy;subst e;exact hm hx
 ·rw [List.map_append,List.head?_append,h.hd];rfl
 ·rcases List.mem_append.1 hx with hx | hx
  ·exact h.rc x hx
  ·rw [List.mem_singleton.1 hx]
   exact (Qn hp ha).1 (List.getElem_mem hk)
 ·rw [List.map_append,List.mem_append]
  rcases Nat.lt_or_ge j k with h3 | h3
  ·exact .inl (h.al j hj h3)
  ·obtain rfl:j=k:=by omega
   exact .inr Ki
theorem Fnd.kds (hp:Gr p) (ha:a < p.length) (h:Fnd p a k L) (hk:(rf p a).length≤k):Kds p a (L.map (knd p)):=by
 refine ⟨h.nd,h.hd,fun x=>⟨fun hx=>?_,?_⟩⟩
 ·obtain ⟨y,hy,rfl⟩:=List.mem_map.1 hx
  exact ⟨y,h.rc y hy,rfl⟩
 ·rintro ⟨y,hy,rfl⟩
  obtain ⟨j,hj,e⟩:=List.mem_iff_getElem.1 ((Qn hp ha).2 hy)
  have:=h.al j hj Ka
  rwa [e] at this
theorem Fnd.lt (hp:Gr p) (ha:a < p.length) (h:Fnd p a k L) {x:Nat} (hx:x ∈ L):x < p.length:=(h.rc x hx).lt hp ha
theorem Fnd.len (hp:Gr p) (ha:a < p.length) (h:Fnd p a k L):L.length≤p.length:=by
 have:=Ta h.nd (n:=p.length) fun j hj=>by
  obtain ⟨y,hy,rfl⟩:=List.mem_map.1 hj
  exact Mi (h.lt hp ha hy)
 simpa using this
def krow (p:List (List Int)) (K:List Nat) (l:List Nat):List Int:=K.map fun y=>b01 (l.any fun j=>decide (knd p j=y))
theorem krow_len {K l:List Nat} : (krow p K l).length=K.length:=by simp [krow]
theorem krow_none {K:List Nat} : krow p K []=List.replicate K.length 0:=by
 rw [← List.map_const']
 exact List.map_congr_left fun y _=>rfl
theorem krow_step {K l:List Nat} {j m:Nat} (hn:K.Nodup) (hm:m < K.length) (hj:knd p j=K[m]):(krow p K l).set m 1=krow p K (l++[j]):=by
 apply List.ext_getElem (by simp [krow])
 intro i h1 h2
 rw [List.getElem_set]
 have hi:i < K.length:=by simpa [krow] using h2
 simp only [krow,List.getElem_map,List.any_append,List.any_cons,List.any_nil,Bool.or_false]
 by_cases e:m=i
 ·subst e
  have:decide (knd p j=K[m])=true:=decide_eq_true hj
  rw [if_pos rfl,this,Bool.or_true];rfl
 ·have:decide (knd p j=K[i])=false:=decide_eq_false fun h=>e ((List.getElem_inj hn).1 (hj.symm.trans h))
  rw [if_neg e,this,Bool.or_false]
theorem krow_qp (hp:Gr p) {K:List Nat} {v i:Nat} (hv:v < p.length) (hi:i < K.length) (hk:knd p v=K[i]) (hK : ∀ x ∈ K,x < p.length) (hkk : ∀ x ∈ K,knd p x=x):krow p K (arr p v)=(qp p K)[i]'(by rw [qp_len];exact hi):=by
 simp only [qp,List.getElem_map,krow]
 refine List.map_congr_left fun y hy=>?_
 congr 1
 have hb:=Th hp hv
 rw [hk] at hb
 have hil:=hK K[i] (List.getElem_mem hi)
 rw [Bool.eq_iff_iff,List.any_eq_true,List.any_eq_true]
 constructor
 ·rintro ⟨j,hj,h⟩
  obtain ⟨j',hj',hb'⟩:=hb.fst j hj
  exact ⟨j',hj',by rw [decide_eq_true_eq] at h ⊢;rw [← (Rr hp (Xy hp hv hj) (Xy hp hil hj')).2 hb',h]⟩
 ·rintro ⟨j,hj,h⟩
  obtain ⟨j',hj',hb'⟩:=hb.snd j hj
  exact ⟨j',hj',by rw [decide_eq_true_eq] at h ⊢;rw [(Rr hp (Xy hp hv hj') (Xy hp hil hj)).2 hb',h]⟩
def fq (Q:List (List Int)) (n i:Nat):List (List Int):=Q.take i++List.replicate (n - i) (List.replicate n 0)
theorem fq_len {Q:List (List Int)} {i:Nat} (hQ:Q.length=n) (hi:i≤n):(fq Q n i).length=n:=by simp [fq];omega
theorem fq_at {Q:List (List Int)} {i:Nat} (hQ:Q.length=n) (hi:i < n):(fq Q n i)[i]'(by rw [fq_len hQ Ka];exact hi)=List.replicate n 0:=by
 have hl:(Q.take i).length=i:=by simp;omega
 unfold fq
 rw [List.getElem_append_right Ka]
 simp
theorem fq_set {Q:List (List Int)} {i:Nat} (hQ:Q.length=n) (hi:i < n) {r:List Int} (hr:Q[i]'Ka=r):(fq Q n i).set i r=fq Q n (i+1):=by
 have hl:(Q.take i).length=i:=by simp;omega
 unfold fq
 rw [List.set_append_right _ _ Ka,hl,Nat.sub_self,show n - i=(n - (i+1))+1 by omega,List.replicate_succ,List.set_cons_zero,Yd _ _ Ka,List.append_assoc,hr]
 rfl
theorem fq_all {Q:List (List Int)} (hQ:Q.length=n):fq Q n n=Q:=by
 unfold fq
 rw [List.take_of_length_le Ka];simp
theorem row_next {Q rows:List (List Int)} {i k:Nat} {r r':List Int} {x:Int} (hrw:rows=Q.set i r) (hi:i < rows.length) (h:rows[i].set k x=r'):rows.set i (rows[i].set k x)=Q.set i r':=by
 rw [h];subst hrw;rw [List.set_set]
end
end Go.Hs
namespace Go.Proofs.YtbgpppaljpngmaaGreatDoor
open Go.Hs
set_option maxRecDepth 10000
set_option maxHeartbeats 4000000
set_option linter.unusedVariables false
set_option linter.unusedSimpArgs false
def reoR (c:List (List Int)) (o:List Nat) (i:Nat):List Int:=o.map fun j=>bit c i j
def reoQ (c:List (List Int)) (o:List Nat) (i:Nat):List (List Int):=(o.take i).map (reoR c o)++List.replicate (o.length - i) (List.replicate o.length 0)
theorem reoQ_len {c:List (List Int)} {o:List Nat} {i:Nat} (hi:i≤o.length):(reoQ c o i).length=o.length:=by simp [reoQ];omega
theorem reoQ_at {c:List (List Int)} {o:List Nat} {i:Nat} (hi:i < o.length):(reoQ c o i)[i]'(by rw [reoQ_len Ka];exact hi)=List.replicate o.length 0:=by
 have hl:((o.take i).map (reoR c o)).length=i:=by simp;omega
 unfold reoQ
 rw [List.getElem_append_right Ka]
 simp
theorem reoQ_set {c:List (List Int)} {o:List Nat} {i:Nat} (hi:i < o.length):(reoQ c o i).set i (reoR c o o[i])=reoQ c o (i+1):=by
 have hl:((o.take i).map (reoR c o)).length=i:=by simp;omega
 unfold reoQ
 rw [List.set_append_right _ _ Ka,hl,Nat.sub_self,show o.length - i=(o.length - (i+1))+1 by omega,List.replicate_succ,List.set_cons_zero,Yd _ _ hi,List.map_append,List.append_assoc]
 rfl
theorem reoQ_all {c:List (List Int)} {o:List Nat} : reoQ c o o.length=reo c o:=by simp [reoQ,reo,reoR]
theorem reoR_at {c:List (List Int)} {o:List Nat} {x k:Nat} (hk:k < (reoR c o x).length):(reoR c o x)[k]=bit c x (o[k]'(by simpa [reoR] using hk)):=by simp [reoR]
theorem bit_at {c:List (List Int)} {x y:Nat} (hx:x < c.length) (hy:y < c[x].length):bit c x y=c[x][y]:=by
 unfold bit
 rw [Ya hx,Ya hy]
theorem fill_k {l:List Int} {k n:Nat} (hk:k < l.length) (hn:n=l.length) {x:Int} (hx:x=l[k]):(l.take k++List.replicate (n - k) 0).set k x=l.take (k+1)++List.replicate (n - (k+1)) 0:=by
 subst hn;subst hx
 exact Ns l k hk 0
theorem row_full {Q rows:List (List Int)} {i n:Nat} {r:List Int} (hrw:rows=Q.set i (r.take n++List.replicate (n - n) 0)) (hn:r.length≤n):rows=Q.set i r:=by
 rw [Nat.sub_self,List.replicate_zero,List.append_nil,List.take_of_length_le hn] at hrw
 exact hrw
theorem reordered_ok (w:World) (v u:Value) (c:List (List Int)) (o:List Nat) (h:ESl Ints w v c) (hu:Ints w u (ints o)) (hc:Gr c) (ho:o.length=c.length) (hlt : ∀ x ∈ o,x < c.length) :
  Does Tryz.prog 186 [v,u] w (RetO w XR (reo c o)):=by
 have hp5:=hc.2.1
 have hc1:=hc.1
 have hil:=Yy o
 have hem : ∀ w,Does Tryz.prog 183 [.int .i64 (c.length:Int)] w (RetO w XR (reoQ c o 0)):=fun w=>by
  have:=Qw w c.length Ka
  rw [← ho] at this ⊢
  rw [show reoQ c o 0=List.replicate o.length (List.replicate o.length 0) by simp [reoQ]]
  exact this
 refine Vh Tryz.func186 Z Tryz.results186 Tryz.ntmps186 Z ?_
 have hq0:=reoQ_len (c:=c) (o:=o) (i:=0) Ka
 focus
  refine Zp<|Ys Z<|Zn<|Zp<|Vb v Z<|Vk Kp Z h<|Zr Z (Vx (a:=.int _ _) Gt Z) (hem _) ?_;rintro u1 w1 ⟨E1,hO1⟩;refine Yr u1 Z<|Zn<|Zq<|Zp<|Vb u Z<|Vk Kn Z hu<|Zu Z<|Zn<|Zw ?_
 obtain ⟨ub,uc,rfl,_⟩:=hO1.lit Ka
 refine Vy [6,7,8,9,15,16,17,18,19,20,21,22,23,24,25,26,27,28,29,30,31,32,33,34,35,36,37,38,39,40,41] (fun (i:Nat)=>[(15,.int .i64 (i:Int))]) (fun i w'=>Ext w w'∧i≤c.length∧Owned w.heap.size XR w' (.slice (some ⟨ub,0,none⟩) (reoQ c o 0).length uc) (reoQ c o i)) (fun x=>c.length - x) 0 Kg ?_ ?_
 ·exact ⟨Kd,Nat.zero_le _,hO1⟩
 clear hO1
 rintro i ρj w2 ⟨E2,hi,hO1⟩
 by_cases hil2:i < c.length
 ·have hgi:(ints o)[i]'Ka=(o[i]:Int):=Xz Ka
  have hoi:=hlt o[i] (List.getElem_mem Ka)
  have hrow:=hc.row (i:=o[i]) Ka
  have hli:=reoQ_len (c:=c) (o:=o) (i:=i) Ka
  have hat:=reoQ_at (c:=c) (o:=o) (i:=i) Ka
  focus
   refine Zp<|Vi Z<|Zn<|Zq<|Zs Z (fun h1=>?_) (fun h1=>?_);refine Zv<|Zq<|Zw<|Zp<|Zu Z<|Yb Kn Kl Km Z (fun _=>Z) Z hu E2 Z Kf ?_;rintro _ _ rfl;refine Vg Z<|Vg Z<|Zn<|Zp<|Vb u Z<|Vk Kn Z hu<|Zu Z<|Zn<|Zw ?_;rotate_left;(exfalso;omega)
  obtain ⟨br,cr,hR,hb1,hb2⟩:=hO1.rowAt (i:=i) Ka (by rw [hat];simp;omega)
  refine Vy [8,9,22,23,24,25,26,27,28,29,30,31,32,33,34,35,36,37,38,39,40] (fun ((k,rows):Nat × List (List Int))=>[(22,.int .i64 (k:Int))]) (fun (k,rows) w'=>Ext w w'∧w2.heap.size≤w'.heap.size∧k≤c.length∧Owned w.heap.size XR w' (.slice (some ⟨ub,0,none⟩) (reoQ c o 0).length uc) rows∧RowAt w' (.slice (some ⟨ub,0,none⟩) (reoQ c o 0).length uc) i br (reoQ c o i)[i].length cr∧rows=(reoQ c o i).set i ((reoR c o o[i]).take k++List.replicate (c.length - k) 0)) (fun x=>c.length - x.1) (0,reoQ c o i) Kg ?_ ?_
  ·refine ⟨Kd,Ka,Nat.zero_le _,hO1,hR,?_⟩
   rw [show (reoR c o o[i]).take 0++List.replicate (c.length - 0) 0=(reoQ c o i)[i] by rw [hat];simp [ho]]
   simp
  clear hO1 hR
  rintro ⟨k,rows⟩ ρk w3 ⟨E3,hs3,hk,hO1,hR,hrw⟩
  have hrl:rows.length=o.length:=by rw [hrw];simp;omega
  have hRl:(reoR c o o[i]).length=o.length:=by simp [reoR]
  have hrq:(reoQ c o i)[i].length=c.length:=by rw [hat];simp [ho]
  have hri:rows[i]'Ka=(reoR c o o[i]).take k++List.replicate (c.length - k) 0:=by simp only [hrw,List.getElem_set_self]
  have hrll:(rows[i]'Ka).length=c.length:=by rw [hri];simp;omega
  by_cases hkl:k < c.length
  ·have hgk:(ints o)[k]'Ka=(o[k]:Int):=Xz Ka
   have hok:=hlt o[k] (List.getElem_mem Ka)
   have hval:(c[((ints o)[i]'Ka).toNat]'Ka)[((ints o)[k]'Ka).toNat]'(by simp only [hgi,hgk,Int.toNat_natCast];omega)=(reoR c o o[i])[k]'Ka:=by
    rw [reoR_at]
    simp only [hgi,hgk,Int.toNat_natCast]
    exact (bit_at hoi (by rw [hrow];exact hok)).symm
   have hcl:(c[((ints o)[i]'Ka).toNat]'Ka).length=c.length:=by simp only [hgi,Int.toNat_natCast];exact hrow
   have hcell:=Md hR
   have heldS:w=w:=rfl
   focus
    refine Zp<|Vi Z<|Zn<|Zq<|Zs Z (fun h2=>?_) (fun h2=>?_);refine Zv<|Zq<|Zw<|Zp<|Zu Z<|Yb Kn Kl Km Z (fun _=>Z) Z hu E3 Z Kf ?_;rintro _ _ rfl;refine Vg Z<|Vg Z<|Zn<|Rb (fun w'=>Ext w w') Xr Z Kb ?_;intro w4 E4 K1 hz1;refine WtmS 0 Z Z exq<|WtmI 1 Z Z exq<|Yo 2 Z Kb Kb Z (fun _ _=>Yv Kp Kt Z Z Ka) exq ?_
    refine WtmI 4 Z Z exq<|WtmV 5 v Z Z exq<|WtmI 6 Z Z exq<|Wh_get_z 7 8 Z Kb Kb Z Z Kb Kb (fun _=>Z) Kp Kt Kz Z h (fun w' hw'=>Ext.trans (Ext.refl _) hw') Z Kf exq ?_;rintro _ u1 hu1;refine WtmI 9 Z Z exq<|Wh_get_z 10 11 Z Kb Kb Z Z Kb Kb (fun _=>Z) Kn Kl Km Z hu1 (fun w' hw'=>Ext.trans (Ext.refl _) hw') Z Kf exq ?_;rintro _ _ rfl;refine Wha [3]<|Wh1 Z<|Wo Z (Vt Kz Z (E4.cell hcell))<|Wnx exq<|Yo 12 Z Kb Kb Z (fun _ _=>Yv Kn Kl Z Z Ka) exq ?_
    refine Wha [13]<|Wh1 Z<|Tr Z Kl Z Z (hO1.toB.ext E4) (hR.ext E4) Kf Kf ?_;rintro w5 hO1 hR On1 K2 hz2;have E5:=On1.ext1 (E3.trans E4) Ka;refine Wnx E5<|Yh Kb ?_;refine Vf<|Vr Z<|Zu Z<|Zn ?_;rotate_left;(exfalso;omega)
   refine ⟨((k+1,rows.set i (rows[i].set k (c[((ints o)[i]'Ka).toNat]'Ka)[((ints o)[k]'Ka).toNat]))),Kg,Kh,?_,?_⟩
   ·refine ⟨by exact E5,Ka,Ka,by exact hO1,by exact hR,?_⟩
    refine row_next hrw Ka ?_
    rw [hri]
    exact fill_k Ka Ka hval
   ·simp only;omega
  ·obtain rfl:k=c.length:=by omega
   focus
    refine Zp<|Vi Z<|Zn<|Zq<|Zt Z fun h2=>?_;refine Vw ?_;refine Vd ?_;refine Vf<|Vr Z<|Zu Z<|Zn ?_
   refine ⟨(i+1),Kg,Kh,?_,?_⟩
   ·refine ⟨by exact E3,Ka,?_⟩
    rw [← reoQ_set (show i < o.length by omega)]
    rw [← row_full hrw Ka]
    exact hO1
   ·omega
 ·obtain rfl:i=c.length:=by omega
  focus
   refine Zp<|Vi Z<|Zn<|Zq<|Zt Z fun h1=>?_;refine Vw ?_;refine Vd ?_;refine Zp<|Up Z<|Ys Z<|Zn<|Zy ?_;refine ⟨E2,(congrArg (Owned _ _ _ _) ?_).mp (hO1.toB.o.mono Ka)⟩
  rw [← ho,reoQ_all]
def Tryz.laysSort_ren : Go.Shelf.Ren := ⟨fun | 189 => 228 | 125 => 239 | 257 => 238 | 128 => 252 | 129 => 231 | 294 => 243 | 295 => 244 | 296 => 245 | 297 => 246 | 298 => 247 | 299 => 248 | 216 => 249 | 300 => 250 | 301 => 251 | 328 => 253 | 329 => 254 | 330 => 255 | 331 => 256 | 332 => 257 | 215 => 258 | 343 => 259 | n => n, fun | 28 => 88 | 3 => 3 | 46 => 168 | 0 => 0 | 51 => 179 | 53 => 171 | 4 => 4 | 183 => 194 | 182 => 193 | 131 => 84 | 5 => 5 | 9 => 9 | 218 => 205 | 222 => 209 | 228 => 211 | 229 => 212 | n => n, fun | n => n⟩
theorem Tryz.laysSort : Go.Proofs.Lays.n189 Tryz.prog Tryz.laysSort_ren := {
  mixed := by kernel_rfl
  f125 := Tryz.func239.trans (congrArg some (by kernel_rfl))
  f128 := Tryz.func252.trans (congrArg some (by kernel_rfl))
  f129 := Tryz.func231.trans (congrArg some (by kernel_rfl))
  f189 := Tryz.func228.trans (congrArg some (by kernel_rfl))
  f215 := Tryz.func258.trans (congrArg some (by kernel_rfl))
  f216 := Tryz.func249.trans (congrArg some (by kernel_rfl))
  f257 := Tryz.func238.trans (congrArg some (by kernel_rfl))
  f294 := Tryz.func243.trans (congrArg some (by kernel_rfl))
  f295 := Tryz.func244.trans (congrArg some (by kernel_rfl))
  f296 := Tryz.func245.trans (congrArg some (by kernel_rfl))
  f297 := Tryz.func246.trans (congrArg some (by kernel_rfl))
  f298 := Tryz.func247.trans (congrArg some (by kernel_rfl))
  f299 := Tryz.func248.trans (congrArg some (by kernel_rfl))
  f300 := Tryz.func250.trans (congrArg some (by kernel_rfl))
  f301 := Tryz.func251.trans (congrArg some (by kernel_rfl))
  f328 := Tryz.func253.trans (congrArg some (by kernel_rfl))
  f329 := Tryz.func254.trans (congrArg some (by kernel_rfl))
  f330 := Tryz.func255.trans (congrArg some (by kernel_rfl))
  f331 := Tryz.func256.trans (congrArg some (by kernel_rfl))
  f332 := Tryz.func257.trans (congrArg some (by kernel_rfl))
  f343 := Tryz.func259.trans (congrArg some (by kernel_rfl))
  t0 := Tryz.underlying0
  a0 := Tryz.isAgg0
  z0 := Tryz.sizeOf0
  v0 := Tryz.zeroValue0
  t3 := Tryz.underlying3
  a3 := Tryz.isAgg3
  z3 := Tryz.sizeOf3
  v3 := Tryz.zeroValue3
  t4 := Tryz.underlying4
  a4 := Tryz.isAgg4
  z4 := Tryz.sizeOf4
  v4 := Tryz.zeroValue4
  t5 := Tryz.underlying5
  a5 := Tryz.isAgg5
  z5 := Tryz.sizeOf5
  v5 := Tryz.zeroValue5
  t9 := Tryz.underlying9
  a9 := Tryz.isAgg9
  z9 := Tryz.sizeOf9
  v9 := Tryz.zeroValue9
  t28 := Tryz.underlying88
  a28 := Tryz.isAgg88
  z28 := Tryz.sizeOf88
  v28 := Tryz.zeroValue88
  t46 := Tryz.underlying168
  a46 := Tryz.isAgg168
  z46 := Tryz.sizeOf168
  v46 := Tryz.zeroValue168
  t51 := Tryz.underlying179
  a51 := Tryz.isAgg179
  z51 := Tryz.sizeOf179
  v51 := Tryz.zeroValue179
  t53 := Tryz.underlying171
  a53 := Tryz.isAgg171
  z53 := Tryz.sizeOf171
  v53 := Tryz.zeroValue171
  t131 := Tryz.underlying84
  a131 := Tryz.isAgg84
  z131 := Tryz.sizeOf84
  v131 := Tryz.zeroValue84
  t182 := Tryz.underlying193
  a182 := Tryz.isAgg193
  z182 := Tryz.sizeOf193
  v182 := Tryz.zeroValue193
  t183 := Tryz.underlying194
  a183 := Tryz.isAgg194
  z183 := Tryz.sizeOf194
  v183 := Tryz.zeroValue194
  t218 := Tryz.underlying205
  a218 := Tryz.isAgg205
  z218 := Tryz.sizeOf205
  v218 := Tryz.zeroValue205
  t222 := Tryz.underlying209
  a222 := Tryz.isAgg209
  z222 := Tryz.sizeOf209
  v222 := Tryz.zeroValue209
  t228 := Tryz.underlying211
  a228 := Tryz.isAgg211
  z228 := Tryz.sizeOf211
  v228 := Tryz.zeroValue211
  t229 := Tryz.underlying212
  a229 := Tryz.isAgg212
  z229 := Tryz.sizeOf212
  v229 := Tryz.zeroValue212 }
theorem XAll_ints {w:World} {fps:List (List Nat)} {cs:List Value} {xs:List Int} (h:XAll XInt w fps cs xs):cs=xs.map (Value.int .i64)∧fps.flatten=[]:=by
 induction xs generalizing fps cs with
 | nil=>cases fps <;> cases cs <;> first | exact ⟨rfl,rfl⟩ | exact h.elim
 | cons x xs ih =>
   cases fps <;> cases cs <;> first | exact h.elim | skip
   obtain ⟨⟨rfl, rfl⟩, h2⟩ := h
   obtain ⟨rfl, h4⟩ := ih h2
   exact ⟨rfl, h4⟩
theorem XAll_ints_mk {w:World} (xs:List Int):XAll XInt w (xs.map fun _=>[]) (xs.map (Value.int .i64)) xs:=by
 induction xs with
 | nil=>trivial
 | cons x xs ih=>exact ⟨⟨rfl,rfl⟩,ih⟩
theorem Sort_ok (w:World) {lo hi:Nat} (v:Value) (xs:List Int) (h:OwnedB lo hi XI w v xs) (h0:xs≠[]) (hl:xs.length≤1000000) :
  Does Tryz.prog 228 [v] w (RetSO lo hi w (.tuple #[]) XI v (sortI xs)):=by
 obtain ⟨fp,hnd,hfp,cs,fps,hrow,rfl,hX⟩:=h
 obtain ⟨rfl,hf⟩:=XAll_ints hX
 rcases hrow.2 with ⟨h6,h7⟩ | ⟨g,cap,cur,rfl,hg,hb,hn,hcap,hsz,htk⟩
 ·exact absurd (List.length_eq_zero_iff.1 h7) h0
 have hin:=hfp g (by simp [Value.ownBlock])
 have hH:=holds_of_blockI hb (by simpa using htk)
 have hlt:g < w.heap.size:=(Array.getElem?_eq_some_iff.1 hb).1
 have hc:=Go.Proofs.Any.slices_Sort_int Tryz.laysSort g 0 cap xs w hH hlt Ka
 unfold Does
 refine Calls.mono (show Calls Tryz.prog 228 _ w _ from hc) ?_
 rintro e w' ⟨he,n,os,rfl⟩
 refine ⟨_,he,Z,?_,?_⟩
 ·have G:=grownBy_sortedI (w:=w) (g:=g) (n:=n) (os:=os) ((xs.mergeSort fun x y=>decide (x≤y)).toArray)
  exact ⟨G.os,G.tape,G.output,G.size,fun k hk hk2=>G.block k hk2 (by simp;omega)⟩
 ·have hr:=ownsRow_sortedI (n:=n) (os:=os) (base:=0) (ss:=xs) (ts:=sortI xs) (sortI_len xs) (Nat.zero_le _) hb hn hcap hsz
  have hfl : ∀ ys:List Int,(ys.map fun _=>([]:List Nat)).flatten=[]:=by intro ys;induction ys <;> simp_all
  refine ⟨_,?_,?_,_,(sortI xs).map fun _=>[],?_,Z,XAll_ints_mk _⟩
  ·rw [hfl];simp [Value.ownBlock]
  ·intro k hk;rw [hfl] at hk;simp [Value.ownBlock] at hk;omega
  ·rw [sortI_len];exact hr
end Go.Proofs.YtbgpppaljpngmaaGreatDoor
namespace Go.Hs
def fstep (p:List (List Int)) (f:Nat→Bool) (k:Nat):Bool:=!((arr p k).any fun j=>!(f j))
def fnd (p:List (List Int)):Nat→Nat→Bool
 | 0=>fun _=>false
 | n+1=>fstep p (fnd p n)
theorem Na (g:Nat→Bool) (k:Nat):(List.range (k+1)).any g=((List.range k).any g || g k):=by rw [List.range_succ,List.any_append];simp
theorem arr_any {p:List (List Int)} (hp:Gr p) {i:Nat} (hi:i < p.length) (g:Nat→Bool):(arr p i).any g=(List.range p.length).any fun j=>decide (p[i].getD j 0=1) && g j:=by
 unfold arr arrR
 rw [Ya hi,hp.row hi,List.any_filter]
theorem shr_mod (x j:Nat):((x >>> j:Nat):Int) % 2=if x.testBit j then 1 else 0:=by
 rw [Nat.testBit_eq_decide_div_mod_eq,Nat.shiftRight_eq_div_pow]
 generalize x / 2 ^ j=q
 by_cases h:q % 2=1
 ·rw [if_pos (by simpa using h)];omega
 ·rw [if_neg (by simpa using h)];omega
theorem shl_le {g k:Nat} (hg:g≤1) (hk:k≤12):g <<< k≤4096:=by
 rw [Nat.shiftLeft_eq]
 have h1:2 ^ k≤2 ^ 12:=Nat.pow_le_pow_right Ka hk
 have h2:g*2 ^ k≤1*2 ^ 12:=Nat.mul_le_mul hg h1
 omega
theorem pow_le5 {k:Nat} (hk:k≤12):2 ^ k≤4096:=Nat.pow_le_pow_right (n:=2) Ka hk
set_option linter.unusedSimpArgs false
variable {P:Program} {ρ : Env} {w:World} {ty t t':TypeId} {x y:Operand} {a b:Int}
theorem opv_shr {k:IntKind} (hx:evalE ρ x=.int .i64 a) (hy:evalE ρ y=.int k b) (h:0≤a∧a≤9223372036854775807∧0≤b) :
  OpV P (.binOp .shr t x y t') ty ρ w (.int .i64 ((a.toNat >>> b.toNat:Nat):Int)):=by
 obtain ⟨A,rfl⟩:=Int.eq_ofNat_of_zero_le h.1
 obtain ⟨B,rfl⟩:=Int.eq_ofNat_of_zero_le h.2.2
 have key:((A:Int) / 2 ^ min B 64:Int)=((A >>> B:Nat):Int):=by
  rw [Nat.shiftRight_eq_div_pow]
  by_cases hb:B≤64
  ·rw [Nat.min_eq_left hb];simp
  ·rw [Nat.min_eq_right Ka]
   have h1:A / 2 ^ B=0:=Nat.div_eq_of_lt (Nat.lt_of_lt_of_le (show A < 2 ^ 64 by omega) (Nat.pow_le_pow_right Ka Ka))
   rw [h1]
   omega
 simp [OpV,execOp,hx,hy,eqGuard,binOp,shift_shr_any,IntKind.bits]
 exact key
theorem opv_or (hx:evalE ρ x=.int .i64 a) (hy:evalE ρ y=.int .i64 b) (h:0≤a∧a≤9223372036854775807∧0≤b∧b≤9223372036854775807) :
  OpV P (.binOp .or t x y t') ty ρ w (.int .i64 ((a.toNat ||| b.toNat:Nat):Int)):=by
 obtain ⟨A,rfl⟩:=Int.eq_ofNat_of_zero_le h.1
 obtain ⟨B,rfl⟩:=Int.eq_ofNat_of_zero_le h.2.2.1
 have hx':A ||| B < 2 ^ 63:=Nat.or_lt_two_pow Ka Ka
 have key:IntKind.i64.wrap ((BitVec.ofInt 64 (A:Int) ||| BitVec.ofInt 64 (B:Int)).toNat:Int)=((A ||| B:Nat):Int):=by
  have e1:(BitVec.ofInt 64 (A:Int)).toNat=A:=by simp;omega
  have e2:(BitVec.ofInt 64 (B:Int)).toNat=B:=by simp;omega
  rw [BitVec.toNat_or,e1,e2,IntKind.wrap_i64]
  omega
 simp [OpV,execOp,hx,hy,eqGuard,binOp,Op.intBits]
 exact key
theorem opv_shl {k:IntKind} (hx:evalE ρ x=.int .i64 a) (hy:evalE ρ y=.int k b) (h:0≤a∧a≤1∧0≤b∧b≤60) :
  OpV P (.binOp .shl t x y t') ty ρ w (.int .i64 ((a.toNat <<< b.toNat:Nat):Int)):=by
 obtain ⟨A,rfl⟩:=Int.eq_ofNat_of_zero_le h.1
 obtain ⟨B,rfl⟩:=Int.eq_ofNat_of_zero_le h.2.2.1
 have hB:(2:Nat) ^ B≤2 ^ 60:=Nat.pow_le_pow_right Ka Ka
 have key:IntKind.i64.wrap ((A:Int)*2 ^ B)=((A <<< B:Nat):Int):=by
  rw [Nat.shiftLeft_eq,IntKind.wrap_i64]
  have e:((2:Int) ^ B)=((2 ^ B:Nat):Int):=Ki
  rw [e]
  generalize (2:Nat) ^ B=q at hB
  have hA:A=0∨A=1:=Ka
  rcases hA with rfl | rfl
  ·simp
  ·simp only [Nat.one_mul,Int.natCast_one,Int.one_mul]
   omega
 simp [OpV,execOp,hx,hy,eqGuard,binOp,shift_shl_any,IntKind.bits]
 simpa using key
end Go.Hs
namespace Go.Proofs.YtbgpppaljpngmaaGreatDoor
open Go.Hs
set_option maxRecDepth 10000
set_option maxHeartbeats 4000000
set_option linter.unusedVariables false
set_option linter.unusedSimpArgs false
noncomputable def rfV (p:List (List Int)) (z:Int):List Nat:=if Nod p z then rf p z.toNat else []
theorem Rz (w:World) (v:Value) (p:List (List Int)) (z:Int) (h:ESl Ints w v p):Does Tryz.prog 161 [v,.int .i64 z] w (RetO w XI (ints (rfV p z))):=by
 have hle:=h.le
 by_cases hp:Pic p
 ·have hpic : ∀ (w:World) (pv:Value),ESl Ints w pv p→Does Tryz.prog 115 [pv] w (Ret w (.bool true)):=fun w pv h=>by
   have:=Ue w pv p h
   rw [decide_eq_true hp] at this;exact this
  by_cases hz:0≤z∧z < p.length
  ·have hV:rfV p z=rf p z.toNat:=if_pos ⟨hp,hz⟩
   rw [hV]
   obtain ⟨i,rfl⟩:=Int.eq_ofNat_of_zero_le hz.1
   have hi:i < p.length:=Ka
   have hp5:=hp.2.1
   have h2:=pow_le5 (k:=p.length) Ka
   have e0:((i:Int)).toNat=i:=rfl
   rw [e0]
   have h1p : ∀ j,j < p.length→1 <<< j < 2 ^ p.length:=fun j hj=>by rw [Nat.one_shiftLeft];exact Nat.pow_lt_pow_right Ka hj
   have h1b : ∀ j k,(1 <<< j).testBit k=decide (j=k):=fun j k=>by rw [Nat.one_shiftLeft,Nat.testBit_two_pow]
   refine Vh Tryz.func161 Z Tryz.results161 Tryz.ntmps161 Z ?_
   focus
    refine Zp<|Ys Z<|Zn<|Zp<|Yz XInt Z Ux Kl ?_;rintro b1 w1 hb1 b1lt E1 hO1;refine Ys Z<|Zn<|Zq<|Zp<|Vb v Z<|Zr Z (Vx (a:=v) Jr Z) (hpic _ _ ((Mono.mono E1 h))) ?_;rintro _ w2 ⟨rfl,E2⟩;refine Ym Z<|Yn Z (Vq (v:=.bool _) Z) (fun h1=>?_) (fun h1=>?_);contradiction;refine Zu Z<|Vb v Z<|Vk Kp Z h<|Qm Z<|Zr Z (Ud (a:=.int _ _) (b:=.int _ _) (c:=.int _ _) Jl Z Z Z) (Uz _ _ _ _) ?_;rintro _ w3 ⟨rfl,E3⟩;have hs3:=E3.size;refine Ym Z<|Vp Z<|Zn<|Xt Z fun h3=>?_;refine Zv<|Zp<|Zu Z<|Wo Z (opv_shl Z Z Ka) ?_;refine Vg Z<|Zn<|Zq<|Zp<|Vg Z<|Zn<|Zw ?_
   refine Vy [6,7,8,9,26,27,28,29,30,31,32,33,34,35,36,37,38,39,40,41,42,43,44,45,46,47,48,49,50,51,52,53,54,55,56,57,58,59,60,61,62] (fun (n,M)=>[(7,.int .i64 (n:Nat)),(6,.int .i64 (M:Nat))]) (fun (n,M) w'=>w'=w3∧n≤p.length∧M < 2 ^ p.length∧(∀ j,st p i n j→M.testBit j=true)∧(∀ j,M.testBit j=true→Rch p i j)) (fun x=>p.length - x.1) (0,1 <<< i) Kg ?_ ?_
   ·refine ⟨rfl,Nat.zero_le _,h1p i hi,fun j hj=>?_,fun j hj=>?_⟩
    ·rw [show j=i from hj,h1b];simp
    ·rw [h1b] at hj;rw [← of_decide_eq_true hj];exact .refl _
   rintro ⟨n,M⟩ ρj w4 ⟨rfl,hn,hM,hC,hS⟩
   by_cases hnl:n < p.length
   ·focus
     have szE3:=E3.size;refine Zq<|Zp<|Zu Z<|Vb v Z<|Vk Kp Z h<|Vi Z<|Zn<|Zs Z (fun h4=>?_) (fun h4=>?_);refine Zv<|Zq<|Zw<|Zq<|Vf<|Vg Z<|Zn<|Zw ?_;rotate_left;(exfalso;omega)
    refine Vy [6,8,9,32,33,34,35,36,37,38,39,40,41,42,43,44,45,46,47,48,49,50,51,52,53,54,55,56,57,58,59,60,61,62] (fun (k,M)=>[(8,.int .i64 (k:Nat)),(6,.int .i64 (M:Nat))]) (fun (k,M) w'=>w'=w4∧k≤p.length∧M < 2 ^ p.length∧(∀ j,st p i n j→M.testBit j=true)∧(∀ j,M.testBit j=true→Rch p i j)∧∀ k',k' < k→st p i n k'→∀ j ∈ arr p k',M.testBit j=true) (fun x=>p.length - x.1) (0,M) Kg ?_ ?_
    ·exact ⟨rfl,Nat.zero_le _,hM,hC,hS,fun k' hk'=>Ka⟩
    clear hM hC hS
    rintro ⟨k,M⟩ ρk w5 ⟨rfl,hk,hM,hC,hS,hK⟩
    by_cases hkl:k < p.length
    ·have hrow:=hp.row hkl
     focus
      have szE3:=E3.size;refine Zq<|Zp<|Zu Z<|Vb v Z<|Vk Kp Z h<|Vi Z<|Zn<|Zs Z (fun h5=>?_) (fun h5=>?_);refine Zv<|Zq<|Zw<|Zq<|Vf<|Vg Z<|Zn<|Zw ?_;rotate_left;(exfalso;omega)
     refine Vy [6,9,38,39,40,41,42,43,44,45,46,47,48,49,50,51,52,53,54,55,56,57,58,59,60,61,62] (fun (j,M)=>[(9,.int .i64 (j:Nat)),(6,.int .i64 (M:Nat))]) (fun (j,M) w'=>w'=w5∧j≤p.length∧M < 2 ^ p.length∧(∀ j,st p i n j→M.testBit j=true)∧(∀ j,M.testBit j=true→Rch p i j)∧(∀ k',k' < k→st p i n k'→∀ j ∈ arr p k',M.testBit j=true)∧∀ j',j' < j→st p i n k→j' ∈ arr p k→M.testBit j'=true) (fun x=>p.length - x.1) (0,M) Kg ?_ ?_
     ·exact ⟨rfl,Nat.zero_le _,hM,hC,hS,hK,fun j' hj'=>Ka⟩
     clear hM hC hS hK
     rintro ⟨j,M⟩ ρl w6 ⟨rfl,hj,hM,hC,hS,hK,hJ⟩
     by_cases hjl:j < p.length
     ·have hgd:=Ya (l:=p[k]) (i:=j) (d:=0) Ka
      have hsm:=shr_mod M k
      have hsl:=shl_le (g:=1) (k:=j) Ka Ka
      have hsl0:(0:Int)≤((1 <<< j:Nat):Int):=Int.natCast_nonneg _
      have hma:=Uo (j:=j) hp hkl
      have hbit:bit p k j=p[k][j]:=by unfold bit;rw [Ya hkl,hgd]
      rw [hbit] at hma
      focus
       have szE3:=E3.size;have szE2:=E2.size;have szE1:=E1.size;refine Zq<|Zp<|Zu Z<|Vb v Z<|Vk Kp Z h<|Vi Z<|Zn<|Zs Z (fun h6=>?_) (fun h6=>?_);refine Zv<|Zq<|Zw<|Zq<|Vf<|Zu Z<|Zu Z<|Wo Z (opv_shr Z Z Ka) ?_;refine Wo Z (opv_rem Z Z ⟨Int.natCast_nonneg _,Ka⟩) ?_;refine Vm Z<|Yf Z (fun h7=>?_) (fun h7=>?_);refine Vb v Z<|Zu Z<|Yb Kp Kt Kz Z (fun _=>Z) Z h exq Z Kf ?_;rintro _ u1 hu1;refine Zu Z<|Yb Kn Kl Km Z (fun _=>Z) Z hu1 exq Z Kf ?_;rintro _ _ rfl;refine Vm Z<|Yq Z<|Zn<|Zs Z (fun h8=>?_) (fun h8=>?_)
       refine Vf<|Zu Z<|Zu Z<|Wo Z (opv_shl Z Z Ka) ?_;refine Wo Z (opv_or Z Z ⟨Int.natCast_nonneg _,Ka,Int.natCast_nonneg _,Int.le_trans (Int.ofNat_le.2 (show _≤4096 by assumption)) Kc⟩) ?_;refine Vg Z<|Zn<|Vf<|Zu Z<|Vr Z<|Vg Z<|Zn ?_;rotate_left;refine Zv<|Vf<|Zu Z<|Vr Z<|Vg Z<|Zn ?_;rotate_left;refine Zo Z<|Zo Z<|Zo Z<|Zo Z<|Zo Z<|Zo Z<|Zo Z<|Zo Z<|Vp Z<|Zn<|Zx Z ?_;refine Zv<|Vf<|Zu Z<|Vr Z<|Vg Z<|Zn ?_;rotate_left;(exfalso;omega)
      ·have h9:((M >>> k:Nat):Int) % 2=1:=by assumption
       have hb:p[k][j]=1:=Kd
       have hMk:M.testBit k=true:=by
        cases hc:M.testBit k with
        | true=>rfl
        | false=>rw [hc,if_neg Bool.false_ne_true] at hsm;omega
       have hor : ∀ x,(M ||| 1 <<< j).testBit x=(M.testBit x || decide (j=x)):=fun x=>by rw [Nat.testBit_or,h1b]
       refine ⟨((j+1,M ||| 1 <<< j)),Kg,Kh,?_,?_⟩
       ·refine ⟨Z,Ka,Nat.or_lt_two_pow hM (h1p j hjl),fun x hx=>by rw [hor,hC x hx];rfl,fun x hx=>?_,fun k' hk' hs x hx=>by rw [hor,hK k' hk' hs x hx];rfl,fun x hx hs hm=>?_⟩
        ·rw [hor] at hx
         by_cases e:j=x
         ·subst e;exact (hS k hMk).step (hma.2 ⟨hjl,hb⟩)
         ·rw [decide_eq_false e,Bool.or_false] at hx;exact hS x hx
        ·rw [hor]
         by_cases e:j=x
         ·rw [decide_eq_true e];simp
         ·rw [hJ x Ka hs hm];rfl
       ·simp only;omega
      ·have hb : ¬p[k][j]=1:=by assumption
       refine ⟨((j+1,M)),Kg,Kh,?_,?_⟩
       ·refine ⟨rfl,Ka,hM,hC,hS,hK,fun x hx hs hm=>?_⟩
        by_cases e:j=x
        ·subst e;exact absurd (hma.1 hm).2 hb
        ·exact hJ x Ka hs hm
       ·simp only;omega
      ·have h9 : ¬((M >>> k:Nat):Int) % 2=1:=by assumption
       have hMk : ¬M.testBit k=true:=fun hc=>by
        rw [hc,if_pos rfl] at hsm;omega
       refine ⟨((j+1,M)),Kg,Kh,?_,?_⟩
       ·refine ⟨rfl,Ka,hM,hC,hS,hK,fun x hx hs hm=>absurd (hC k hs) hMk⟩
       ·simp only;omega
     ·obtain rfl:j=p.length:=by omega
      focus
       refine Zq<|Zp<|Zu Z<|Vb v Z<|Vk Kp Z h<|Vi Z<|Zn<|Zt Z fun h6=>?_;refine Vw ?_;refine Vd ?_;refine Vf<|Zu Z<|Vr Z<|Vg Z<|Zn ?_
      refine ⟨((k+1,M)),Kg,Kh,?_,?_⟩
      ·refine ⟨rfl,Ka,hM,hC,hS,fun k' hk' hs x hx=>?_⟩
       by_cases e:k'=k
       ·subst e;exact hJ x ((Uo hp hkl).1 hx).1 hs hx
       ·exact hK k' Ka hs x hx
      ·simp only;omega
    ·obtain rfl:k=p.length:=by omega
     focus
      refine Zq<|Zp<|Zu Z<|Vb v Z<|Vk Kp Z h<|Vi Z<|Zn<|Zt Z fun h5=>?_;refine Vw ?_;refine Vd ?_;refine Vf<|Zu Z<|Vr Z<|Vg Z<|Zn ?_
     refine ⟨((n+1,M)),Kg,Kh,?_,?_⟩
     ·refine ⟨rfl,Ka,hM,fun x hx=>?_,hS⟩
      rcases hx with hx | ⟨k',h9,h10⟩
      ·exact hC x hx
      ·exact hK k' ((st_rch h9).lt hp hi) h9 x h10
     ·simp only;omega
   ·obtain rfl:n=p.length:=by omega
    have hb : ∀ k,M.testBit k=rch p i k:=fun k=>by
     cases hc:rch p i k with
     | true=>exact hC k (rch_st hp hi (rch_iff.1 hc))
     | false => cases hd : M.testBit k with
       | true => rw [rch_iff.2 (hS k hd)] at hc; cases hc
       | false => rfl
    clear hC hS
    focus
     refine Zq<|Zp<|Zu Z<|Vb v Z<|Vk Kp Z h<|Vi Z<|Zn<|Zt Z fun h4=>?_;refine Vw ?_;refine Vd ?_;refine Zq<|Zp<|Vg Z<|Zn<|Zw ?_
    refine Vy [5,10,63,64,65,66,67,68,69,70,71,72,73,74,75,76,77] (fun (k,u)=>[(10,.int .i64 (k:Nat)),(5,u)]) (fun (k,u) w'=>Ext w w'∧k≤p.length∧Owned w.heap.size XI w' u (ints ((List.range k).filter (rch p i)))) (fun x=>p.length - x.1) (0,.slice (some ⟨b1,0,none⟩) 0 0) Kg ?_ ?_
    ·exact ⟨(E1.trans E2).trans E3,Nat.zero_le _,by simpa [ints] using hO1.ext (E2.trans E3)⟩
    rintro ⟨k,u⟩ ρk w5 ⟨E5,hk,hO5⟩
    have hll:(ints ((List.range k).filter (rch p i))).length≤k:=by
     rw [Yy];exact Nat.le_trans (List.length_filter_le _ _) Ki
    have hfs:=Xq (rch p i) k
    have hsm:=shr_mod M k
    by_cases hlt:k < p.length
    ·rw [hb k] at hsm
     focus
      have szE5:=E5.size;have szE3:=E3.size;have szE2:=E2.size;have szE1:=E1.size;refine Zq<|Zp<|Zu Z<|Vb v Z<|Vk Kp Z h<|Vi Z<|Zn<|Zs Z (fun h5=>?_) (fun h5=>?_);refine Zv<|Zq<|Zw<|Zp<|Zu Z<|Zu Z<|Wo Z (opv_shr Z Z Ka) ?_;refine Wo Z (opv_rem Z Z ⟨Int.natCast_nonneg _,Ka⟩) ?_;refine Vm Z<|Zn<|Zs Z (fun h6=>?_) (fun h6=>?_);refine Vf<|Vb u Z<|Zu Z<|Ye (ps:=[(0,.int _ _)]) (cs:=[_]) Z Kn Kl Jg Z Z Z Z ?_;rintro b2 w3 hb2 E4 hB1 hHb2;have hlb2:=hB1.lt;have hs4:=E4.size;refine Xh Z Ux Z Z hB1 (hO5.toB.ext E4) Owned.int (Nat.le_refl _) Kf Ka Ka (E5.trans E4) Ka ?_
      have hT1:=(hO5.toB.ext E4);rintro v1 w6 hO5 E6 M1;have hB1:=hB1.moves M1 hT1 Ka;have hs5:=E6.size;refine Yr v1 Z<|Zn<|Vf<|Zu Z<|Vr Z<|Vg Z<|Zn ?_;rotate_left;refine Zv<|Vf<|Zu Z<|Vr Z<|Vg Z<|Zn ?_;rotate_left;(exfalso;omega)
     ·have h1:((M >>> k:Nat):Int) % 2=1:=by assumption
      have hf:rch p i k=true:=by
       cases hc:rch p i k with
       | true=>rfl
       | false=>rw [hc,if_neg Bool.false_ne_true] at hsm;omega
      refine ⟨((k+1,v1)),Kg,Kh,?_,?_⟩
      ·refine ⟨Kd,Ka,?_⟩
       rw [hfs,if_pos hf,ints_append]
       assumption
      ·simp only;omega
     ·have h1 : ¬((M >>> k:Nat):Int) % 2=1:=by assumption
      have hf:rch p i k=false:=by
       cases hc:rch p i k with
       | false=>rfl
       | true=>rw [hc,if_pos rfl] at hsm;omega
      refine ⟨((k+1,u)),Kg,Kh,?_,?_⟩
      ·refine ⟨Kd,Ka,?_⟩
       rw [hfs,if_neg (by rw [hf];exact Bool.false_ne_true),List.append_nil]
       assumption
      ·simp only;omega
    ·obtain rfl:k=p.length:=by omega
     focus
      refine Zq<|Zp<|Zu Z<|Vb v Z<|Vk Kp Z h<|Vi Z<|Zn<|Vj Z fun h5=>?_;refine Vw ?_;refine Vd ?_;refine Zp<|Vb u Z<|Yr u Z<|Zn<|Zy ?_;exact ⟨E5,hO5.toB.o.mono Ka⟩
  ·have hV:rfV p z=[]:=if_neg (fun h=>hz h.2)
   rw [hV]
   refine Vh Tryz.func161 Z Tryz.results161 Tryz.ntmps161 Z ?_
   focus
    refine Zp<|Ys Z<|Zn<|Zp<|Yz XInt Z Ux Kl ?_;rintro b1 w1 hb1 b1lt E1 hO1;refine Ys Z<|Zn<|Zq<|Zp<|Vb v Z<|Zr Z (Vx (a:=v) Jr Z) (hpic _ _ ((Mono.mono E1 h))) ?_;rintro _ w2 ⟨rfl,E2⟩;refine Ym Z<|Yn Z (Vq (v:=.bool _) Z) (fun h1=>?_) (fun h1=>?_);contradiction;refine Zu Z<|Vb v Z<|Vk Kp Z h<|Qm Z<|Zr Z (Ud (a:=.int _ _) (b:=.int _ _) (c:=.int _ _) Jl Z Z Z) (Uz _ _ _ _) ?_;rintro _ w3 ⟨rfl,E3⟩;refine Ym Z<|Vp Z<|Zn<|Vz Z (fun h2=>?_) (fun h2=>?_);refine Zq<|Vf<|Up Z<|Ys Z<|Zn<|Zy ?_;exact ⟨exq,(hO1.toB.ext exq).o.mono Ka⟩;(exfalso;omega)
 ·have hpic : ∀ (w:World) (pv:Value),ESl Ints w pv p→Does Tryz.prog 115 [pv] w (Ret w (.bool false)):=fun w pv h=>by
   have:=Ue w pv p h
   rw [decide_eq_false hp] at this;exact this
  have hV:rfV p z=[]:=if_neg (fun h=>hp h.1)
  rw [hV]
  refine Vh Tryz.func161 Z Tryz.results161 Tryz.ntmps161 Z ?_
  focus
   refine Zp<|Ys Z<|Zn<|Zp<|Yz XInt Z Ux Kl ?_;rintro b1 w1 hb1 b1lt E1 hO1;refine Ys Z<|Zn<|Zq<|Zp<|Vb v Z<|Zr Z (Vx (a:=v) Jr Z) (hpic _ _ ((Mono.mono E1 h))) ?_;rintro _ w2 ⟨rfl,E2⟩;refine Ym Z<|Yn Z (Vq (v:=.bool _) Z) (fun h1=>?_) (fun h1=>?_);refine Zo Z<|Zo Z<|Zo Z<|Zo Z<|Zo Z<|Zo Z<|Yq Z<|Zn<|Vv Z ?_;refine Zp<|Up Z<|Ys Z<|Zn<|Zy ?_;exact ⟨exq,(hO1.toB.ext E2).o.mono Ka⟩;contradiction
end Go.Proofs.YtbgpppaljpngmaaGreatDoor
